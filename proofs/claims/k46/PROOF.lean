import PyProof.Rows.All
import Wide.All
import OpenK.AllK
import Wide.FinOn
import HandS.ForMost
import HandS.ForExc
import HandS.TryMany
import HandS.IsInst
import HandS.Gcd
import HandS.Wide
import HandS.Deep
import HandS.Flow
import HandS.Lambda
import HandS.EndTab
import HandS.CallSlots
import HandS.TupAny
import HandS.TupLe
import HandS.Zip
import PyProof.ReprReads
import PyProof.ReprRoads
import HandS.WordsExc
import KE.KExcSuper
import KE.KSuper
import HandS.ExcInit
import HandS.ExcField
import PyProof.ReprLen
import HandS.HeadWalk
import PySem.Challenge.RW_ductwise_k46_stars_and_triangles
set_option Elab.async false
set_option linter.all false
set_option maxRecDepth 100000
set_option maxHeartbeats 8000000
/-! # A layer over data: what Python code computes, as plain functions over plain data; each reading of HandS is lifted to such a function once -/
namespace Dw
open PySem PySem.Spec PyProof.Rows L2

/-! ### 1. data, cells, results -/
/-- a value: tuples (and a locked list: fl) are told whole, lists and dicts by their number in the memory -/
inductive D where
  | non | bl (b : Bool) | int (i : Int) | str (s : Str) | tup (xs : List D) | fl (xs : List D) | ref (n : Nat)
  deriving Inhabited
inductive Cell where
  | lst (xs : List D) | dct (kvs : List (Key × D))
abbrev Mem := List Cell
abbrev Env := List (Option D)
inductive R (α : Type) where
  | ok (a : α) (m : Mem)
  | exc (c : Str) (fs : List (Str × D)) (m : Mem)
  | bad
def R.bind {α β : Type} (r : R α) (f : α → Mem → R β) : R β :=
  match r with
  | .ok a m => f a m
  | .exc c fs m => .exc c fs m
  | .bad => .bad
@[simp] theorem R.bind_ok {α β : Type} (a : α) (m : Mem) (f : α → Mem → R β) : (R.ok a m).bind f = f a m := rfl
@[simp] theorem R.bind_exc {α β : Type} (c : Str) (fs : List (Str × D)) (m : Mem) (f : α → Mem → R β) : (R.exc c fs m).bind f = .exc c fs m := rfl
@[simp] theorem R.bind_bad {α β : Type} (f : α → Mem → R β) : (R.bad).bind f = .bad := rfl
/-- from an operation that raises nothing -/
def R.of {α : Type} : Option (α × Mem) → R α
  | some (a, m) => .ok a m
  | none => .bad
@[simp] theorem R.of_some {α : Type} (a : α) (m : Mem) : R.of (some (a, m)) = .ok a m := rfl
@[simp] theorem R.of_none {α : Type} : R.of (none : Option (α × Mem)) = .bad := rfl

mutual
/-- all numbers of cells in it are below n -/
def D.fits (n : Nat) : D → Bool
  | .tup xs => D.fitsL n xs
  | .fl xs => D.fitsL n xs
  | .ref k => decide (k < n)
  | .non => true
  | .bl _ => true
  | .int _ => true
  | .str _ => true
def D.fitsL (n : Nat) : List D → Bool
  | [] => true
  | x :: xs => D.fits n x && D.fitsL n xs
end
def Cell.fits (n : Nat) : Cell → Bool
  | .lst xs => D.fitsL n xs
  | .dct kvs => D.fitsL n (kvs.map (·.2))

/-! ### 2. relations: values and data, cells and what stands in the heap -/
structure Pm where
  K : PySem.W.Frag
  mg : Str → Option Value
  T : List (Addr × Str)

/-- a list that is only read: locked, or the module's own -/
def FrzL (K : PySem.W.Frag) (H : Hp) (a : Addr) (vs : List V) : Prop := (∃ o, H a = some (.frz o (.lst vs))) ∨ ∀ H' : Hp, SqL K H' a vs
mutual
inductive RD (P : Pm) (α : List Addr) (H : Hp) : V → D → Prop
  | non : RD P α H .non .non
  | bl (b : Bool) : RD P α H (.bl b) (.bl b)
  | int (i : Int) : RD P α H (.int i) (.int i)
  | str (x : Str) : RD P α H (.str x) (.str x)
  | tup {a : Addr} {vs : List V} {ds : List D} (h : SqT P.K H a vs) (r : RDs P α H vs ds) : RD P α H (.ref a) (.tup ds)
  | fl {a : Addr} {vs : List V} {ds : List D} (h : FrzL P.K H a vs) (r : RDs P α H vs ds) : RD P α H (.ref a) (.fl ds)
  | ref {a : Addr} {n : Nat} (h : α[n]? = some a) : RD P α H (.ref a) (.ref n)
inductive RDs (P : Pm) (α : List Addr) (H : Hp) : List V → List D → Prop
  | nil : RDs P α H [] []
  | cons {v : V} {vs : List V} {d : D} {ds : List D} (r : RD P α H v d) (rs : RDs P α H vs ds) : RDs P α H (v :: vs) (d :: ds)
end
/-- named values -/
inductive RFs (P : Pm) (α : List Addr) (H : Hp) : List (Str × V) → List (Str × D) → Prop
  | nil : RFs P α H [] []
  | cons {n : Str} {v : V} {vs : List (Str × V)} {d : D} {ds : List (Str × D)} (r : RD P α H v d) (rs : RFs P α H vs ds) : RFs P α H ((n, v) :: vs) ((n, d) :: ds)
inductive RKs (P : Pm) (α : List Addr) (H : Hp) : List (Key × V) → List (Key × D) → Prop
  | nil : RKs P α H [] []
  | cons {n : Key} {v : V} {vs : List (Key × V)} {d : D} {ds : List (Key × D)} (r : RD P α H v d) (rs : RKs P α H vs ds) : RKs P α H ((n, v) :: vs) ((n, d) :: ds)
def RC (P : Pm) (α : List Addr) (H : Hp) (a : Addr) : Cell → Prop
  | .lst ds => ∃ vs, H a = some (.lst vs) ∧ RDs P α H vs ds
  | .dct kds => ∃ kvs, H a = some (.dK kvs) ∧ RKs P α H kvs kds
structure RM (P : Pm) (α : List Addr) (H : Hp) (m : Mem) : Prop where
  len : α.length = m.length
  inj : ∀ (i j : Nat) (a : Addr), α[i]? = some a → α[j]? = some a → i = j
  cell : ∀ (i : Nat) (c : Cell) (a : Addr), m[i]? = some c → α[i]? = some a → RC P α H a c
  tab : LamX.Tabs P.T H
/-- the names of a frame -/
structure RE (P : Pm) (α : List Addr) (H : Hp) (ρ : Env) (σ : L2.St) : Prop where
  len : ρ.length = σ.length
  at_ : ∀ (i : Nat) (d : D), ρ[i]? = some (some d) → ∃ v, σ[i]? = some (some v) ∧ RD P α H v d
/-- the memory has grown -/
structure Ext (P : Pm) (α : List Addr) (H : Hp) (α' : List Addr) (H' : Hp) : Prop where
  pre : ∃ β, α' = α ++ β
  keep : ∀ b o, H b = some o → b ∉ α → (∀ ps, o ≠ .tbl ps) → H' b = some o ∧ b ∉ α'
  tup : ∀ b xs, SqT P.K H b xs → SqT P.K H' b xs
  frz : ∀ b xs, FrzL P.K H b xs → FrzL P.K H' b xs

section
variable {P : Pm} {α α1 α2 : List Addr} {H H1 H2 : Hp}
theorem Ext.refl : Ext P α H α H := ⟨⟨[], by simp⟩, fun _ _ h n _ => ⟨h, n⟩, fun _ _ h => h, fun _ _ h => h⟩
theorem Ext.trans (a : Ext P α H α1 H1) (b : Ext P α1 H1 α2 H2) : Ext P α H α2 H2 := by
  refine ⟨?_, fun c o h n t => ?_, fun c xs h => b.tup c xs (a.tup c xs h), fun c xs h => b.frz c xs (a.frz c xs h)⟩
  · obtain ⟨β, rfl⟩ := a.pre
    obtain ⟨γ, rfl⟩ := b.pre
    exact ⟨β ++ γ, by rw [List.append_assoc]⟩
  · obtain ⟨h1, n1⟩ := a.keep c o h n t
    exact b.keep c o h1 n1 t
theorem Ext.at_ (e : Ext P α H α1 H1) {n : Nat} {a : Addr} (h : α[n]? = some a) : α1[n]? = some a := by
  obtain ⟨β, rfl⟩ := e.pre
  rw [List.getElem?_append_left (List.getElem?_eq_some_iff.mp h).1]
  exact h
mutual
theorem RD.mono (e : Ext P α H α1 H1) : ∀ {v : V} {d : D}, RD P α H v d → RD P α1 H1 v d
  | _, _, .non => .non
  | _, _, .bl b => .bl b
  | _, _, .int i => .int i
  | _, _, .str x => .str x
  | _, _, .tup h r => .tup (e.tup _ _ h) (RDs.mono e r)
  | _, _, .fl h r => .fl (e.frz _ _ h) (RDs.mono e r)
  | _, _, .ref h => .ref (e.at_ h)
theorem RDs.mono (e : Ext P α H α1 H1) : ∀ {vs : List V} {ds : List D}, RDs P α H vs ds → RDs P α1 H1 vs ds
  | _, _, .nil => .nil
  | _, _, .cons r rs => .cons (RD.mono e r) (RDs.mono e rs)
end
theorem RFs.mono (e : Ext P α H α1 H1) : ∀ {vs : List (Str × V)} {ds : List (Str × D)}, RFs P α H vs ds → RFs P α1 H1 vs ds
  | _, _, .nil => .nil
  | _, _, .cons r rs => .cons (r.mono e) (RFs.mono e rs)
theorem RKs.mono (e : Ext P α H α1 H1) : ∀ {vs : List (Key × V)} {ds : List (Key × D)}, RKs P α H vs ds → RKs P α1 H1 vs ds
  | _, _, .nil => .nil
  | _, _, .cons r rs => .cons (r.mono e) (RKs.mono e rs)
theorem RE.mono (e : Ext P α H α1 H1) {ρ : Env} {σ : L2.St} (r : RE P α H ρ σ) : RE P α1 H1 ρ σ :=
  ⟨r.len, fun i d h => let ⟨v, h1, h2⟩ := r.at_ i d h; ⟨v, h1, h2.mono e⟩⟩
theorem RDs.length : ∀ {vs : List V} {ds : List D}, RDs P α H vs ds → vs.length = ds.length
  | _, _, .nil => rfl
  | _, _, .cons _ rs => by rw [List.length_cons, List.length_cons, RDs.length rs]
theorem RKs.length : ∀ {vs : List (Key × V)} {ds : List (Key × D)}, RKs P α H vs ds → vs.length = ds.length
  | _, _, .nil => rfl
  | _, _, .cons _ rs => by rw [List.length_cons, List.length_cons, RKs.length rs]
theorem RDs.get : ∀ {vs : List V} {ds : List D} {i : Nat} {d : D}, RDs P α H vs ds → ds[i]? = some d → ∃ v, vs[i]? = some v ∧ RD P α H v d
  | _, _, _, _, .nil, h => by simp at h
  | _, _, 0, _, .cons r _, h => by simp at h; subst h; exact ⟨_, rfl, r⟩
  | _, _, i + 1, d, .cons _ rs, h => by
    obtain ⟨v, h1, h2⟩ := RDs.get (i := i) (d := d) rs (by simpa using h)
    exact ⟨v, by simpa using h1, h2⟩
theorem RDs.getV : ∀ {vs : List V} {ds : List D} {i : Nat} {v : V}, RDs P α H vs ds → vs[i]? = some v → ∃ d, ds[i]? = some d ∧ RD P α H v d
  | _, _, _, _, .nil, h => by simp at h
  | _, _, 0, _, .cons r _, h => by simp at h; subst h; exact ⟨_, rfl, r⟩
  | _, _, i + 1, d, .cons _ rs, h => by
    obtain ⟨v, h1, h2⟩ := RDs.getV (i := i) rs (by simpa using h)
    exact ⟨v, by simpa using h1, h2⟩
theorem RDs.append : ∀ {vs ws : List V} {ds es : List D}, RDs P α H vs ds → RDs P α H ws es → RDs P α H (vs ++ ws) (ds ++ es)
  | _, _, _, _, .nil, h => h
  | _, _, _, _, .cons r rs, h => .cons r (RDs.append rs h)
theorem RDs.take : ∀ {vs : List V} {ds : List D} (n : Nat), RDs P α H vs ds → RDs P α H (vs.take n) (ds.take n)
  | _, _, 0, _ => .nil
  | _, _, _ + 1, .nil => .nil
  | _, _, n + 1, .cons r rs => .cons r (RDs.take n rs)
theorem RDs.drop : ∀ {vs : List V} {ds : List D} (n : Nat), RDs P α H vs ds → RDs P α H (vs.drop n) (ds.drop n)
  | _, _, 0, h => h
  | _, _, _ + 1, .nil => .nil
  | _, _, n + 1, .cons _ rs => RDs.drop n rs
theorem RDs.set {v : V} {d : D} (r : RD P α H v d) : ∀ {vs : List V} {ds : List D} (i : Nat), RDs P α H vs ds → RDs P α H (vs.set i v) (ds.set i d)
  | _, _, _, .nil => .nil
  | _, _, 0, .cons _ rs => .cons r rs
  | _, _, i + 1, .cons q rs => .cons q (RDs.set r i rs)
theorem RDs.dropLast : ∀ {vs : List V} {ds : List D}, RDs P α H vs ds → RDs P α H vs.dropLast ds.dropLast
  | _, _, .nil => .nil
  | _, _, .cons r .nil => .nil
  | _, _, .cons r (.cons r2 rs) => .cons r (RDs.dropLast (.cons r2 rs))
theorem RDs.rep {vs : List V} {ds : List D} (r : RDs P α H vs ds) : ∀ k : Nat, RDs P α H (List.replicate k vs).flatten (List.replicate k ds).flatten
  | 0 => .nil
  | k + 1 => by
    rw [List.replicate_succ, List.replicate_succ, List.flatten_cons, List.flatten_cons]
    exact r.append (RDs.rep r k)
/-- all numbers in related data stand in α -/
theorem RD.ltLen : ∀ {v : V} {n : Nat}, RD P α H v (.ref n) → n < α.length
  | _, _, .ref h => (List.getElem?_eq_some_iff.mp h).1
end

/-! ### 3. what is wanted behind a computation -/
/-- an exception's relation: its class by name, its fields -/
def ExcR (P : Pm) (α : List Addr) (H : Hp) (cls : Value) (dd : Option Addr) (c : Str) (fs : List (Str × D)) : Prop :=
  ∃ (C d : Addr) (fv : List (Str × V)), cls = .ref C ∧ P.mg c = some (.ref C) ∧ dd = some d ∧ H d = some (.xd fv) ∧ RFs P α H fv fs
def Post {β : Type} (P : Pm) (W : WX) (σ : L2.St) (α : List Addr) (H : Hp) (r : R β) (Φ : List Addr → Hp → β → Mem → Prop) : Prop :=
  match r with
  | .ok b m' => ∀ α' H', Ext P α H α' H' → RM P α' H' m' → Φ α' H' b m'
  | .exc c fs m' => ∀ α' H' cls dd, Ext P α H α' H' → RM P α' H' m' → ExcR P α' H' cls dd c fs → W cls dd σ H'
  | .bad => False
section
variable {P : Pm} {W : WX} {σ : L2.St} {α α1 : List Addr} {H H1 : Hp} {β γ : Type} {r : R β} {f : β → Mem → R γ} {Φ Ψ : List Addr → Hp → β → Mem → Prop} {Θ : List Addr → Hp → γ → Mem → Prop}
theorem Post.mono (h : Post P W σ α H r Φ) (k : ∀ α' H' b m', Ext P α H α' H' → RM P α' H' m' → Φ α' H' b m' → Ψ α' H' b m') : Post P W σ α H r Ψ := by
  cases r with
  | ok b m => exact fun α' H' e r => k _ _ _ _ e r (h α' H' e r)
  | exc c fs m => exact h
  | bad => exact h
theorem Post.from (h : Post P W σ α H r Φ) (e : Ext P α H α1 H1) : Post P W σ α1 H1 r Φ := by
  cases r with
  | ok b m => exact fun α' H' e2 r => h α' H' (e.trans e2) r
  | exc c fs m => exact fun α' H' cls dd e2 r x => h α' H' cls dd (e.trans e2) r x
  | bad => exact h
theorem Post.bind (h : Post P W σ α H (r.bind f) Θ) : Post P W σ α H r fun α' H' b m' => Post P W σ α' H' (f b m') Θ := by
  cases r with
  | ok b m => exact fun α' H' e r => Post.from (show Post P W σ α H (f b m) Θ from h) e
  | exc c fs m => exact h
  | bad => exact h
theorem Post.ok {b : β} {m' : Mem} (h : Post P W σ α H (.ok b m') Φ) (e : Ext P α H α1 H1) (rm : RM P α1 H1 m') : Φ α1 H1 b m' := h _ _ e rm
end
/-- a value is wanted -/
abbrev wV (P : Pm) (Q : VK) : List Addr → Hp → D → Mem → Prop := fun α' H' d _ => ∀ v, RD P α' H' v d → Q v H'
abbrev G := Env → Mem → R D
abbrev GT := Env → Mem → R Bool
abbrev GA := Env → Mem → R (List D)
inductive Fl where
  | nx (ρ : Env) | ret (d : D) | brk (ρ : Env) | cnt (ρ : Env)
abbrev GS := Env → Mem → R Fl
abbrev GG := D → Env → Mem → R Env

def tE (P : Pm) (W : WX) (g : G) : TE := fun σ H Q => ∃ α ρ m, RM P α H m ∧ RE P α H ρ σ ∧ Post P W σ α H (g ρ m) (wV P Q)
def tT (P : Pm) (W : WX) (g : GT) : TT := fun σ H Q => ∃ α ρ m, RM P α H m ∧ RE P α H ρ σ ∧ Post P W σ α H (g ρ m) fun _ H' b _ => Q b H'
def tA (P : Pm) (W : WX) (g : GA) : TA := fun σ H Q => ∃ α ρ m, RM P α H m ∧ RE P α H ρ σ ∧ Post P W σ α H (g ρ m) fun α' H' ds _ => ∀ vs, RDs P α' H' vs ds → Q vs H'
def tG (P : Pm) (W : WX) (g : GG) : TG := fun v σ H Q => ∃ α ρ m d, RM P α H m ∧ RE P α H ρ σ ∧ RD P α H v d ∧ Post P W σ α H (g d ρ m) fun α' H' ρ' _ => ∀ σ', RE P α' H' ρ' σ' → Q σ' H'
def xW (E : XK) : WX := fun c d _ H => E c d H
def flD (P : Pm) (D : Ends) (α : List Addr) (H : Hp) (f : Fl) : Prop :=
  match f with
  | .nx ρ => ∀ σ, RE P α H ρ σ → D.nx σ H
  | .ret d => ∀ v, RD P α H v d → D.rt v H
  | .brk ρ => ∀ σ, RE P α H ρ σ → D.bk σ H
  | .cnt ρ => ∀ σ, RE P α H ρ σ → D.ct σ H
end Dw

namespace Dw
open PySem PySem.Spec PyProof.Rows L2

/-! ### 4. the memory changed -/
section
variable {P : Pm} {α α1 : List Addr} {H H1 : Hp} {m : Mem}
theorem sqt_upd {K : PySem.W.Frag} {H : Hp} {p b : Addr} {o : HO} {xs : List V} (hp : ∀ u, H p = some u → (∀ ys, u ≠ .tup ys) ∧ ∀ ob w, u ≠ .frz ob w) (h : SqT K H b xs) : SqT K (upd H p o) b xs := by
  rcases h with h | h
  · refine .inl ?_
    rcases h with h | ⟨ob, h⟩
    · refine .inl ?_
      rw [upd_ne]; exact h
      rintro rfl
      exact (hp _ h).1 _ rfl
    · refine .inr ⟨ob, ?_⟩
      rw [upd_ne]; exact h
      rintro rfl
      exact (hp _ h).2 _ _ rfl
  · exact .inr h
theorem sql_upd {K : PySem.W.Frag} {H : Hp} {p b : Addr} {o : HO} {xs : List V} (hp : b ≠ p) (h : SqL K H b xs) : SqL K (upd H p o) b xs := by
  rcases h with h | h
  · refine .inl ?_
    rcases h with h | ⟨ob, h⟩
    · exact .inl (by rw [upd_ne hp]; exact h)
    · exact .inr ⟨ob, by rw [upd_ne hp]; exact h⟩
  · exact .inr h
theorem frz_upd {K : PySem.W.Frag} {H : Hp} {p b : Addr} {o : HO} {xs : List V} (hp : ∀ u, H p = some u → (∀ ys, u ≠ .tup ys) ∧ ∀ ob w, u ≠ .frz ob w) (h : FrzL K H b xs) : FrzL K (upd H p o) b xs := by
  rcases h with ⟨ob, h⟩ | h
  · refine .inl ⟨ob, ?_⟩
    rw [upd_ne]; exact h
    rintro rfl
    exact (hp _ h).2 _ _ rfl
  · exact .inr h
theorem tabs_upd {T : List (Addr × Str)} {H : Hp} {p : Addr} {o : HO} (hp : ∀ u, H p = some u → (∀ ps, u ≠ .tbl ps) ∧ ∀ φ, u ≠ .ext φ) (t : LamX.Tabs T H) : LamX.Tabs T (upd H p o) := fun q hq => by
  obtain ⟨ps, h1, h2, h3⟩ := t q hq
  refine ⟨ps, ?_, h2, fun pos cv hc => ?_⟩
  · rw [upd_ne]; exact h1
    intro e
    rw [e] at h1
    exact (hp _ h1).1 _ rfl
  · obtain ⟨c, e1, e2⟩ := h3 pos cv hc
    refine ⟨c, e1, ?_⟩
    rw [upd_ne]; exact e2
    rintro rfl
    exact (hp _ e2).2 _ rfl
/-- a new object that is no cell (a tuple) -/
theorem Ext.side {p : Addr} {o : HO} (hp : H p = none) : Ext P α H α (upd H p o) := by
  refine ⟨⟨[], by simp⟩, fun b u h n _ => ⟨?_, n⟩, fun b xs h => sqt_upd (fun u q => by rw [hp] at q; cases q) h, fun b xs h => frz_upd (fun u q => by rw [hp] at q; cases q) h⟩
  rw [upd_ne (ne_of_none h hp)]; exact h
theorem Ext.new {p : Addr} {o : HO} (hp : H p = none) : Ext P α H (α ++ [p]) (upd H p o) := by
  refine ⟨⟨[p], rfl⟩, fun b u h n _ => ⟨?_, ?_⟩, fun b xs h => sqt_upd (fun u q => by rw [hp] at q; cases q) h, fun b xs h => frz_upd (fun u q => by rw [hp] at q; cases q) h⟩
  · rw [upd_ne (ne_of_none h hp)]; exact h
  · intro q
    rcases List.mem_append.mp q with q | q
    · exact n q
    · rw [List.mem_singleton] at q
      subst q
      rw [hp] at h; cases h
/-- what a cell of lists and dicts is written into -/
def Wr : Option HO → Prop
  | some (.lst _) => True
  | some (.dK _) => True
  | _ => False
theorem Wr.no {H : Hp} {p : Addr} (w : Wr (H p)) : ∀ u, H p = some u → (∀ ys, u ≠ .tup ys) ∧ (∀ ob w, u ≠ .frz ob w) ∧ (∀ ps, u ≠ .tbl ps) ∧ ∀ φ, u ≠ .ext φ := fun u q => by
  rw [q] at w
  cases u <;> first | exact False.elim w | exact ⟨(fun _ z => nomatch z), (fun _ _ z => nomatch z), (fun _ z => nomatch z), fun _ z => nomatch z⟩
theorem Ext.write {a : Addr} {o : HO} (ha : a ∈ α) (w : Wr (H a)) : Ext P α H α (upd H a o) := by
  refine ⟨⟨[], by simp⟩, fun b u h n _ => ⟨?_, n⟩, fun b xs h => sqt_upd (fun u q => ⟨(w.no u q).1, (w.no u q).2.1⟩) h, fun b xs h => frz_upd (fun u q => ⟨(w.no u q).1, (w.no u q).2.1⟩) h⟩
  rw [upd_ne]; exact h
  rintro rfl
  exact n ha

theorem RC.mutAt {a : Addr} {c : Cell} (h : RC P α H a c) : Wr (H a) := by
  cases c with
  | lst ds => obtain ⟨vs, e, _⟩ := h; rw [e]; trivial
  | dct kds => obtain ⟨vs, e, _⟩ := h; rw [e]; trivial
theorem Wr.ne {H : Hp} {a : Addr} (w : Wr (H a)) : H a ≠ none := fun e => by rw [e] at w; exact w
theorem FrzL.sql {K : PySem.W.Frag} {H : Hp} {a : Addr} {vs : List V} (h : FrzL K H a vs) : SqL K H a vs := by
  rcases h with ⟨o, h⟩ | h
  · exact .inl (.inr ⟨o, h⟩)
  · exact h H
theorem RC.keep (e : Ext P α H α1 H1) {b : Addr} {c : Cell} (hb : H b ≠ none → H1 b = H b) (h : RC P α H b c) : RC P α1 H1 b c := by
  cases c with
  | lst ds => obtain ⟨vs, q, r⟩ := h; exact ⟨vs, by rw [hb (by rw [q]; simp), q], r.mono e⟩
  | dct ds => obtain ⟨vs, q, r⟩ := h; exact ⟨vs, by rw [hb (by rw [q]; simp), q], r.mono e⟩
theorem RM.lt (r : RM P α H m) {i : Nat} {a : Addr} (h : α[i]? = some a) : i < m.length := by
  rw [← r.len]; exact (List.getElem?_eq_some_iff.mp h).1
theorem RM.at_ (r : RM P α H m) {i : Nat} {c : Cell} (h : m[i]? = some c) : ∃ a, α[i]? = some a ∧ RC P α H a c := by
  have hi : i < α.length := by rw [r.len]; exact (List.getElem?_eq_some_iff.mp h).1
  exact ⟨α[i], List.getElem?_eq_getElem hi, r.cell i c _ h (List.getElem?_eq_getElem hi)⟩
theorem RM.wr (r : RM P α H m) {a : Addr} (h : a ∈ α) : Wr (H a) := by
  obtain ⟨i, hi, e⟩ := List.mem_iff_getElem.mp h
  have h2 : i < m.length := by rw [← r.len]; exact hi
  exact (r.cell i _ a (List.getElem?_eq_getElem h2) (by rw [List.getElem?_eq_getElem hi, e])).mutAt
theorem RM.not_mem (r : RM P α H m) {p : Addr} (h : H p = none) : p ∉ α := fun hm => (r.wr hm).ne h
theorem RM.side (r : RM P α H m) {p : Addr} {o : HO} (hp : H p = none) : RM P α (upd H p o) m := by
  refine ⟨r.len, r.inj, fun i c a h1 h2 => (r.cell i c a h1 h2).keep (Ext.side hp) fun hn => upd_ne fun e => hn (by rw [e]; exact hp), tabs_upd (fun u q => by rw [hp] at q; cases q) r.tab⟩
theorem RM.new (r : RM P α H m) {p : Addr} {o : HO} {c : Cell} (hp : H p = none) (hc : RC P (α ++ [p]) (upd H p o) p c) : RM P (α ++ [p]) (upd H p o) (m ++ [c]) := by
  have hl := r.len
  have np := r.not_mem hp
  have two : ∀ (i : Nat) (a : Addr), (α ++ [p])[i]? = some a → α[i]? = some a ∨ (i = α.length ∧ a = p) := fun i a h => by
    by_cases hi : i < α.length
    · rw [List.getElem?_append_left hi] at h; exact .inl h
    · have hi2 : i < (α ++ [p]).length := (List.getElem?_eq_some_iff.mp h).1
      have e : i = α.length := by rw [List.length_append, List.length_singleton] at hi2; omega
      rw [e, List.getElem?_concat_length] at h
      exact .inr ⟨e, (Option.some.inj h).symm⟩
  refine ⟨by simp [hl], fun i j a a1 a2 => ?_, fun i c' a h1 h2 => ?_, tabs_upd (fun u q => by rw [hp] at q; cases q) r.tab⟩
  · rcases two i a a1 with x | ⟨x, rfl⟩
    · rcases two j a a2 with y | ⟨y, rfl⟩
      · exact r.inj i j a x y
      · exact absurd (List.mem_of_getElem? x) np
    · rcases two j a a2 with y | ⟨y, _⟩
      · exact absurd (List.mem_of_getElem? y) np
      · rw [x, y]
  · rcases two i a h2 with x | ⟨x, rfl⟩
    · rw [List.getElem?_append_left (by rw [← hl]; exact (List.getElem?_eq_some_iff.mp x).1)] at h1
      exact (r.cell i c' a h1 x).keep (Ext.new hp) fun hn => upd_ne fun e => hn (by rw [e]; exact hp)
    · rw [x, hl, List.getElem?_concat_length] at h1
      cases h1
      exact hc
theorem RM.write (r : RM P α H m) {i : Nat} {a : Addr} {c : Cell} {o : HO} (ha : α[i]? = some a) (hc : RC P α (upd H a o) a c) : RM P α (upd H a o) (m.set i c) := by
  have w := r.wr (List.mem_of_getElem? ha)
  have hi : i < m.length := r.lt ha
  have e : Ext P α H α (upd H a o) := Ext.write (List.mem_of_getElem? ha) w
  refine ⟨by rw [List.length_set]; exact r.len, r.inj, fun j c' b h1 h2 => ?_, tabs_upd (fun u q => ⟨(w.no u q).2.2.1, (w.no u q).2.2.2⟩) r.tab⟩
  by_cases hj : j = i
  · subst hj
    rw [List.getElem?_set_self hi] at h1
    rw [ha] at h2
    cases h1
    cases h2
    exact hc
  · rw [List.getElem?_set_ne (Ne.symm hj)] at h1
    exact (r.cell j c' b h1 h2).keep e fun _ => upd_ne fun z => hj (r.inj j i b h2 (by rw [z]; exact ha))
/-- a new tuple -/
theorem RD.newTup {p : Addr} {vs : List V} {ds : List D} (hp : H p = none) (r : RDs P α H vs ds) : RD P α (upd H p (.tup vs)) (.ref p) (.tup ds) :=
  .tup (SqT.of upd_same) (r.mono (Ext.side hp))
theorem RC.newLst {p : Addr} {vs : List V} {ds : List D} (hp : H p = none) (r : RDs P α H vs ds) : RC P (α ++ [p]) (upd H p (.lst vs)) p (.lst ds) :=
  ⟨vs, upd_same, r.mono (Ext.new hp)⟩
theorem RC.newDct {p : Addr} {vs : List (Key × V)} {ds : List (Key × D)} (hp : H p = none) (r : RKs P α H vs ds) : RC P (α ++ [p]) (upd H p (.dK vs)) p (.dct ds) :=
  ⟨vs, upd_same, r.mono (Ext.new hp)⟩
theorem RD.newRef (r : RM P α H m) {p : Addr} : RD P (α ++ [p]) H1 (.ref p) (.ref m.length) := .ref (by rw [← r.len, List.getElem?_concat_length])
end

/-! ### 5. from readings to functions -/
def PostO {β : Type} (P : Pm) (α : List Addr) (H : Hp) (r : Option (β × Mem)) (Φ : List Addr → Hp → β → Mem → Prop) : Prop :=
  match r with
  | some (b, m') => ∀ α' H', Ext P α H α' H' → RM P α' H' m' → Φ α' H' b m'
  | none => False
theorem Post.of {β : Type} {P : Pm} {W : WX} {σ : L2.St} {α : List Addr} {H : Hp} {r : Option (β × Mem)} {Φ : List Addr → Hp → β → Mem → Prop} (h : Post P W σ α H (R.of r) Φ) : PostO P α H r Φ := by
  cases r with
  | none => exact h
  | some z => exact h
section
variable {X : Cx} {P : Pm} {W : WX} {e a b c : Expr} {es : List Expr} {pos : Pos}
theorem _root_.L2.PE.weaken {t t' : TE} (h : PE X e t) (k : ∀ σ H Q, t' σ H Q → t σ H Q) : PE X e t' := ⟨fun pins s σ H Q I q => h.run pins s σ H Q I (k _ _ _ q)⟩
theorem _root_.L2.PT.weaken {t t' : TT} (h : PT X e t) (k : ∀ σ H Q, t' σ H Q → t σ H Q) : PT X e t' := ⟨fun pins s σ H Q I q => h.run pins s σ H Q I (k _ _ _ q)⟩
theorem _root_.L2.PA.weaken {t t' : TA} (h : PA X es t) (k : ∀ σ H Q, t' σ H Q → t σ H Q) : PA X es t' := ⟨fun pos pins s σ H Q I q => h.run pos pins s σ H Q I (k _ _ _ q)⟩
theorem _root_.L2.PS.weaken {st : Stmt} {t t' : TS} (h : PS X st t) (k : ∀ D σ H, t' D σ H → t D σ H) : PS X st t' := ⟨fun pins s σ H D I q => h.run pins s σ H D I (k _ _ _ q)⟩
theorem _root_.L2.PSs.weaken {st : List Stmt} {t t' : TS} (h : PSs X st t) (k : ∀ D σ H, t' D σ H → t D σ H) : PSs X st t' := ⟨fun pins s σ H D I q => h.run pins s σ H D I (k _ _ _ q)⟩
theorem _root_.L2.PG.weaken {t t' : TG} (h : PG X e t) (k : ∀ v σ H Q, t' v σ H Q → t v σ H Q) : PG X e t' := ⟨fun pins s σ H v u Q I r q => h.run pins s σ H v u Q I r (k _ _ _ _ q)⟩

/-! #### the readings of the parts, one by one -/
theorem tE_bind {β : Type} {ga : G} {k : D → Mem → R β} {Θ : List Addr → Hp → β → Mem → Prop} {σ : L2.St} {H : Hp} {α : List Addr} {ρ : Env} {m : Mem} (rm : RM P α H m) (re : RE P α H ρ σ)
    (h : Post P W σ α H ((ga ρ m).bind k) Θ) {Q : VK} (q : ∀ α' H' d m', Ext P α H α' H' → RM P α' H' m' → Post P W σ α' H' (k d m') Θ → ∀ v, RD P α' H' v d → Q v H') : tE P W ga σ H Q :=
  ⟨α, ρ, m, rm, re, h.bind.mono fun α' H' d m' e r p v rv => q α' H' d m' e r p v rv⟩
theorem tT_bind {β : Type} {ga : GT} {k : Bool → Mem → R β} {Θ : List Addr → Hp → β → Mem → Prop} {σ : L2.St} {H : Hp} {α : List Addr} {ρ : Env} {m : Mem} (rm : RM P α H m) (re : RE P α H ρ σ)
    (h : Post P W σ α H ((ga ρ m).bind k) Θ) {Q : Bool → Hp → Prop} (q : ∀ α' H' b m', Ext P α H α' H' → RM P α' H' m' → Post P W σ α' H' (k b m') Θ → Q b H') : tT P W ga σ H Q :=
  ⟨α, ρ, m, rm, re, h.bind.mono fun α' H' d m' e r p => q α' H' d m' e r p⟩
theorem tA_bind {β : Type} {ga : GA} {k : List D → Mem → R β} {Θ : List Addr → Hp → β → Mem → Prop} {σ : L2.St} {H : Hp} {α : List Addr} {ρ : Env} {m : Mem} (rm : RM P α H m) (re : RE P α H ρ σ)
    (h : Post P W σ α H ((ga ρ m).bind k) Θ) {Q : List V → Hp → Prop} (q : ∀ α' H' ds m', Ext P α H α' H' → RM P α' H' m' → Post P W σ α' H' (k ds m') Θ → ∀ vs, RDs P α' H' vs ds → Q vs H') : tA P W ga σ H Q :=
  ⟨α, ρ, m, rm, re, h.bind.mono fun α' H' d m' e r p v rv => q α' H' d m' e r p v rv⟩

/-! #### names and constants -/
def eVar (i : Nat) : G := fun ρ m => match ρ[i]? with
  | some (some d) => .ok d m
  | _ => .bad
def eLit (d : D) : G := fun _ m => .ok d m
theorem de_var {i : Nat} {x : Str} (hN : X.N[i]? = some x) (hv : Vis X.env.scope x) (hd : (x == ("__debug__" : Str)) = false := by decide) (hcd : (x == ("__classdict__" : Str)) = false := by decide) : PE X (.Name x pos) (tE P W (eVar i)) :=
  (pe_var (i := i) hN hv hd hcd).weaken fun σ H Q ⟨α, ρ, m, rm, re, h⟩ => by
    unfold eVar at h
    cases e : ρ[i]? with
    | none => rw [e] at h; exact False.elim h
    | some o =>
      cases o with
      | none => rw [e] at h; exact False.elim h
      | some d =>
        rw [e] at h
        obtain ⟨v, h1, h2⟩ := re.at_ i d e
        exact ⟨v, h1, h α H Ext.refl rm v h2⟩
theorem de_lit {v : V} {d : D} (h : PE X e (tC v)) (r : ∀ α H, RD P α H v d) : PE X e (tE P W (eLit d)) :=
  h.weaken fun σ H Q ⟨α, ρ, m, rm, re, q⟩ => q α H Ext.refl rm v (r α H)
theorem de_int {i : Int} {j : Nat} : PE X (.Constant (.int i) j pos) (tE P W (eLit (.int i))) := de_lit pe_int fun _ _ => .int i
theorem de_bl {i : Bool} {j : Nat} : PE X (.Constant (.bool i) j pos) (tE P W (eLit (.bl i))) := de_lit pe_bl fun _ _ => .bl i
theorem de_non {j : Nat} : PE X (.Constant .none j pos) (tE P W (eLit .non)) := de_lit pe_non fun _ _ => .non
theorem de_str {x : Str} {j : Nat} : PE X (.Constant (.str x) j pos) (tE P W (eLit (.str x))) := de_lit pe_str fun _ _ => .str x
/-- a constant of the module: what its name holds is told by d at every heap -/
theorem de_glob {x : Str} {v : V} {u : Value} {d : D} (hg : Gl X x) (hm : X.mg x = some u) (rv : RelV v u) (r : ∀ α H, RD P α H v d) (hd : (x == ("__debug__" : Str)) = false := by decide) : PE X (.Name x pos) (tE P W (eLit d)) :=
  de_lit (pe_glob hg hm rv hd) r

/-! #### arguments, displays -/
def aNil : GA := fun _ m => .ok [] m
def aCons (g : G) (a : GA) : GA := fun ρ m => (g ρ m).bind fun d m => (a ρ m).bind fun ds m => .ok (d :: ds) m
theorem da_nil : PA X [] (tA P W aNil) := pa_nil.weaken fun σ H Q ⟨α, ρ, m, rm, re, q⟩ => q α H Ext.refl rm [] .nil
theorem da_cons {g : G} {ga : GA} (ha : PE X e (tE P W g)) (hr : PA X es (tA P W ga)) (hs : starEach (e :: es) X.env = (false, eval e X.env) :: starEach es X.env := by rfl) : PA X (e :: es) (tA P W (aCons g ga)) :=
  (pa_cons ha hr hs).weaken fun σ H Q ⟨α, ρ, m, rm, re, h⟩ => by
    refine tE_bind rm re h fun α1 H1 d m1 e1 r1 p1 v rv => ?_
    refine tA_bind r1 (re.mono e1) p1 fun α2 H2 ds m2 e2 r2 p2 vs rvs => ?_
    exact p2 α2 H2 Ext.refl r2 (v :: vs) (.cons (rv.mono e2) rvs)
def mkTup (ds : List D) (m : Mem) : Option (D × Mem) := if ds.length ≤ sizeLine then some (.tup ds, m) else none
def mkLst (ds : List D) (m : Mem) : Option (D × Mem) := if ds.length ≤ sizeLine then some (.ref m.length, m ++ [.lst ds]) else none
def eArgs (f : List D → Mem → Option (D × Mem)) (a : GA) : G := fun ρ m => (a ρ m).bind fun ds m => R.of (f ds m)
theorem de_tup {ga : GA} {k : Nat} (h : PA X es (tA P W ga)) : PE X (.Tuple es k pos) (tE P W (eArgs mkTup ga)) :=
  (pe_tup h).weaken fun σ H Q ⟨α, ρ, m, rm, re, h⟩ => by
    refine tA_bind rm re h fun α1 H1 ds m1 e1 r1 p1 vs rvs => ?_
    have p1 := p1.of
    unfold mkTup at p1
    split at p1
    · rename_i hz
      refine ⟨by rw [rvs.length]; exact hz, fun p hp => ?_⟩
      exact p1 α1 _ (Ext.side hp) (r1.side hp) _ (.newTup hp rvs)
    · exact False.elim p1
theorem de_lst {ga : GA} (h : PA X es (tA P W ga)) : PE X (.List es pos) (tE P W (eArgs mkLst ga)) :=
  (pe_lst h).weaken fun σ H Q ⟨α, ρ, m, rm, re, h⟩ => by
    refine tA_bind rm re h fun α1 H1 ds m1 e1 r1 p1 vs rvs => ?_
    have p1 := p1.of
    unfold mkLst at p1
    split at p1
    · rename_i hz
      refine ⟨by rw [rvs.length]; exact hz, fun p hp => ?_⟩
      exact p1 (α1 ++ [p]) _ (Ext.new hp) (r1.new hp (.newLst hp rvs)) _ (.newRef r1)
    · exact False.elim p1
end
end Dw

namespace Dw
open PySem PySem.Spec PyProof.Rows L2

/-! ### 6. operators, by data -/
def rO (P : Pm) (f : D → D → Mem → Option (D × Mem)) : R2 := fun x y H Q => ∃ α m dx dy, RM P α H m ∧ RD P α H x dx ∧ RD P α H y dy ∧ PostO P α H (f dx dy m) (wV P Q)
def rU1 (P : Pm) (f : D → Mem → Option (D × Mem)) : V → Hp → VK → Prop := fun x H Q => ∃ α m dx, RM P α H m ∧ RD P α H x dx ∧ PostO P α H (f dx m) (wV P Q)
def rB (P : Pm) (f : List D → Mem → Option (D × Mem)) : List V → Hp → VK → Prop := fun vs H Q => ∃ α m ds, RM P α H m ∧ RDs P α H vs ds ∧ PostO P α H (f ds m) (wV P Q)
def rM (P : Pm) (f : D → List D → Mem → Option (D × Mem)) : V → List V → Hp → VK → Prop := fun x vs H Q => ∃ α m d ds, RM P α H m ∧ RD P α H x d ∧ RDs P α H vs ds ∧ PostO P α H (f d ds m) (wV P Q)
def eOp (f : D → D → Mem → Option (D × Mem)) (a b : G) : G := fun ρ m => (a ρ m).bind fun x m => (b ρ m).bind fun y m => R.of (f x y m)
def eUn (f : D → Mem → Option (D × Mem)) (a : G) : G := fun ρ m => (a ρ m).bind fun x m => R.of (f x m)
section
variable {X : Cx} {P : Pm} {W : WX} {e a b c : Expr} {es : List Expr} {pos : Pos} {ga gb gc g : G} {ta : GA}
theorem un2 {f : D → D → Mem → Option (D × Mem)} {σ : L2.St} {H : Hp} {Q : VK} (h : tE P W (eOp f ga gb) σ H Q) : tE P W ga σ H fun x H1 => tE P W gb σ H1 fun y H2 => rO P f x y H2 Q := by
  obtain ⟨α, ρ, m, rm, re, h⟩ := h
  refine tE_bind rm re h fun α1 H1 d1 m1 e1 r1 p1 v1 rv1 => ?_
  refine tE_bind r1 (re.mono e1) p1 fun α2 H2 d2 m2 e2 r2 p2 v2 rv2 => ?_
  exact ⟨α2, m2, d1, d2, r2, rv1.mono e2, rv2, p2.of⟩
theorem un1 {f : D → Mem → Option (D × Mem)} {σ : L2.St} {H : Hp} {Q : VK} (h : tE P W (eUn f ga) σ H Q) : tE P W ga σ H fun x H1 => rU1 P f x H1 Q := by
  obtain ⟨α, ρ, m, rm, re, h⟩ := h
  refine tE_bind rm re h fun α1 H1 d1 m1 e1 r1 p1 v1 rv1 => ?_
  exact ⟨α1, m1, d1, r1, rv1, p1.of⟩
theorem unA {f : List D → Mem → Option (D × Mem)} {σ : L2.St} {H : Hp} {Q : VK} (h : tE P W (eArgs f ta) σ H Q) : tA P W ta σ H fun vs H1 => rB P f vs H1 Q := by
  obtain ⟨α, ρ, m, rm, re, h⟩ := h
  refine tA_bind rm re h fun α1 H1 d1 m1 e1 r1 p1 v1 rv1 => ?_
  exact ⟨α1, m1, d1, r1, rv1, p1.of⟩
theorem de_op {op : Operator} {f : D → D → Mem → Option (D × Mem)} (ho : OpR X (binaryOp op) (rO P f)) (ha : PE X a (tE P W ga)) (hb : PE X b (tE P W gb)) : PE X (.BinOp a op b pos) (tE P W (eOp f ga gb)) :=
  (pe_op ho ha hb).weaken fun σ H Q h => un2 h
theorem de_un {op : UnaryOp} {f : D → Mem → Option (D × Mem)} (ho : UnR X (unaryOp op) (rU1 P f)) (ha : PE X a (tE P W ga)) : PE X (.UnaryOp op a pos) (tE P W (eUn f ga)) :=
  (pe_un ho ha).weaken fun σ H Q h => un1 h
theorem de_cmp {op : CmpOp} {f : D → D → Mem → Option (D × Mem)} (ho : OpR X (compareOp op) (rO P f)) (ha : PE X a (tE P W ga)) (hb : PE X b (tE P W gb)) (hm : behindInMarks op b = false := by rfl) : PE X (.Compare a [op] [b] pos) (tE P W (eOp f ga gb)) :=
  (pe_cmpR ho ha hb hm).weaken fun σ H Q h => un2 h
theorem de_ix {f : D → D → Mem → Option (D × Mem)} (ho : IxR X (rO P f)) (ha : PE X a (tE P W ga)) (hb : PE X b (tE P W gb)) (hs : PlainIx b := by intro _ _; rfl) : PE X (.Subscript a b pos) (tE P W (eOp f ga gb)) :=
  (pe_ix ho ha hb hs).weaken fun σ H Q h => un2 h
theorem de_bi {x : Str} {id : String} {p : Pos} {f : List D → Mem → Option (D × Mem)} (hc : CallR X (.builtin id) (rB P f)) (hg : Gl X x) (hm : X.mg x = none) (hv : bootBuiltins x = some (.builtin id)) (ha : PA X (e :: es) (tA P W ta)) (hn : x ≠ "__name__" := by decide) (hdb : (x == ("__debug__" : Str)) = false := by decide)
    (he : starEach (e :: es) X.env = (false, eval e X.env) :: starEach es X.env := by rfl) (hpl : (backTo pos (starEach es X.env)).any (·.1) = false := by rfl) : PE X (.Call (.Name x p) (e :: es) [] pos) (tE P W (eArgs f ta)) :=
  (pe_callB hc hg hm hv ha hn hdb he hpl).weaken fun σ H Q h => unA h
theorem de_bf {x : Str} {id : String} {p : Pos} {f : List D → Mem → Option (D × Mem)} (hc : CallR X (.builtin id) (rB P f)) (hg : Gl X x) (hm : X.mg x = some (.builtin id)) (ha : PA X (e :: es) (tA P W ta)) (hdb : (x == ("__debug__" : Str)) = false := by decide)
    (he : starEach (e :: es) X.env = (false, eval e X.env) :: starEach es X.env := by rfl) (hpl : (backTo pos (starEach es X.env)).any (·.1) = false := by rfl) : PE X (.Call (.Name x p) (e :: es) [] pos) (tE P W (eArgs f ta)) :=
  (pe_callBfun hc hg hm ha hdb he hpl).weaken fun σ H Q h => unA h
theorem de_ty {x : Str} {T : String} {p : Pos} {f : List D → Mem → Option (D × Mem)} (hc : CallR X (.type T) (rB P f)) (hg : Gl X x) (hm : X.mg x = none) (hv : bootBuiltins x = some (.type T)) (ha : PA X (e :: es) (tA P W ta)) (hn : x ≠ "__name__" := by decide) (hdb : (x == ("__debug__" : Str)) = false := by decide)
    (he : starEach (e :: es) X.env = (false, eval e X.env) :: starEach es X.env := by rfl) (hpl : (backTo pos (starEach es X.env)).any (·.1) = false := by rfl) : PE X (.Call (.Name x p) (e :: es) [] pos) (tE P W (eArgs f ta)) :=
  (pe_callTy hc hg hm hv ha hn hdb he hpl).weaken fun σ H Q h => unA h

/-! #### arithmetic -/
def addD (x y : D) (m : Mem) : Option (D × Mem) :=
  match x, y with
  | .int i, .int j => some (.int (i + j), m)
  | .str a, .str b => if a.length + b.length ≤ sizeLine then some (.str (a ++ b), m) else none
  | .tup xs, .tup ys => if xs.length + ys.length ≤ sizeLine then some (.tup (xs ++ ys), m) else none
  | .ref i, .ref j => match m[i]?, m[j]? with
    | some (.lst xs), some (.lst ys) => if xs.length + ys.length ≤ sizeLine then some (.ref m.length, m ++ [.lst (xs ++ ys)]) else none
    | _, _ => none
  | _, _ => none
theorem RM.lst_at {α : List Addr} {H : Hp} {m : Mem} (rm : RM P α H m) {n : Nat} {a : Addr} {ds : List D} (h : m[n]? = some (.lst ds)) (ha : α[n]? = some a) : ∃ vs, H a = some (.lst vs) ∧ RDs P α H vs ds := rm.cell n _ a h ha
theorem op_addD (hK : P.K = X.K) : OpR X (binaryOp .Add) (rO P addD) := by
  intro pins s σ H x y v u Q I rx ry ⟨α, m, dx, dy, rm, r1, r2, h⟩
  unfold addD at h
  split at h
  · cases r1; cases r2
    exact op_add pins s σ H _ _ v u Q I rx ry ⟨_, _, rfl, rfl, h α H Ext.refl rm _ (.int _)⟩
  · cases r1; cases r2
    split at h
    · rename_i hz
      exact op_add_str pins s σ H _ _ v u Q I rx ry ⟨_, _, rfl, rfl, hz, h α H Ext.refl rm _ (.str _)⟩
    · exact False.elim h
  · cases r1 with
    | tup t1 q1 =>
      cases r2 with
      | tup t2 q2 =>
        split at h
        · rename_i hz
          rw [hK] at t1 t2
          refine op_catA pins s σ H _ _ v u Q I rx ry ⟨_, _, _, _, rfl, rfl, t1, t2, by rw [q1.length, q2.length]; exact hz, fun e => ?_, fun _ e => ?_, fun _ _ p hp => ?_⟩
          · subst e; cases q1
            exact h α H Ext.refl rm _ (.tup (by rw [hK]; exact t2) q2)
          · subst e; cases q2
            exact h α H Ext.refl rm _ (.tup (by rw [hK]; exact t1) (by rw [List.append_nil]; exact q1))
          · exact h α _ (Ext.side hp) (rm.side hp) _ (.newTup hp (q1.append q2))
        · exact False.elim h
  · cases r1 with
    | ref a1 =>
      cases r2 with
      | ref a2 =>
        split at h
        · rename_i xs ys h1 h2
          split at h
          · rename_i hz
            obtain ⟨vs, e1, q1⟩ := rm.lst_at h1 a1
            obtain ⟨ws, e2, q2⟩ := rm.lst_at h2 a2
            refine op_cat pins s σ H _ _ v u Q I rx ry ⟨_, _, _, _, rfl, rfl, e1, e2, by rw [q1.length, q2.length]; exact hz, fun p hp => ?_⟩
            exact h _ _ (Ext.new hp) (rm.new hp (.newLst hp (q1.append q2))) _ (.newRef rm)
          · exact False.elim h
        · exact False.elim h
  · exact False.elim h
def subD (x y : D) (m : Mem) : Option (D × Mem) :=
  match x, y with
  | .int i, .int j => some (.int (i - j), m)
  | _, _ => none
theorem op_subD : OpR X (binaryOp .Sub) (rO P subD) := by
  intro pins s σ H x y v u Q I rx ry ⟨α, m, dx, dy, rm, r1, r2, h⟩
  unfold subD at h
  split at h
  · cases r1; cases r2
    exact op_sub pins s σ H _ _ v u Q I rx ry ⟨_, _, rfl, rfl, h α H Ext.refl rm _ (.int _)⟩
  · exact False.elim h
/-- a product has room -/
def MulOk (i j : Int) : Prop := i.natAbs.log2 + j.natAbs.log2 < 1000000 ∨ CMul i j
open Classical in
noncomputable def mulD (x y : D) (m : Mem) : Option (D × Mem) :=
  match x, y with
  | .int i, .int j => if MulOk i j then some (.int (i * j), m) else none
  | .ref n, .int k => match m[n]? with
    | some (.lst xs) => if -(2 ^ 63) ≤ k ∧ k < 2 ^ 63 ∧ xs.length * k.toNat ≤ sizeLine then some (.ref m.length, m ++ [.lst (List.replicate k.toNat xs).flatten]) else none
    | _ => none
  | _, _ => none
theorem op_mulD : OpR X (binaryOp .Mult) (rO P mulD) := by
  intro pins s σ H x y v u Q I rx ry ⟨α, m, dx, dy, rm, r1, r2, h⟩
  unfold mulD at h
  split at h
  · cases r1; cases r2
    split at h
    · rename_i hz
      rcases hz with hz | hz
      · exact op_mulW pins s σ H _ _ v u Q I rx ry ⟨_, _, rfl, rfl, hz, h α H Ext.refl rm _ (.int _)⟩
      · exact op_mul pins s σ H _ _ v u Q I rx ry ⟨_, _, rfl, rfl, hz, h α H Ext.refl rm _ (.int _)⟩
    · exact False.elim h
  · cases r1 with
    | ref a1 =>
      cases r2
      split at h
      · rename_i xs h1
        split at h
        · rename_i hz
          obtain ⟨vs, e1, q1⟩ := rm.lst_at h1 a1
          refine op_rep pins s σ H _ _ v u Q I rx ry ⟨_, _, _, rfl, rfl, e1, hz.1, hz.2.1, by rw [q1.length]; exact hz.2.2, fun p hp => ?_⟩
          exact h _ _ (Ext.new hp) (rm.new hp (.newLst hp (q1.rep _))) _ (.newRef rm)
        · exact False.elim h
      · exact False.elim h
  · exact False.elim h
def divD (x y : D) (m : Mem) : Option (D × Mem) :=
  match x, y with
  | .int i, .int j => if 0 < j ∧ j.natAbs.log2 < 9000 then some (.int (i / j), m) else none
  | _, _ => none
theorem op_divD : OpR X (binaryOp .FloorDiv) (rO P divD) := by
  intro pins s σ H x y v u Q I rx ry ⟨α, m, dx, dy, rm, r1, r2, h⟩
  unfold divD at h
  split at h
  · cases r1; cases r2
    split at h
    · rename_i hz
      exact op_fdivW pins s σ H _ _ v u Q I rx ry ⟨_, _, rfl, rfl, hz, h α H Ext.refl rm _ (.int _)⟩
    · exact False.elim h
  · exact False.elim h
def modD (x y : D) (m : Mem) : Option (D × Mem) :=
  match x, y with
  | .int i, .int j => if 0 < j then some (.int (i % j), m) else none
  | _, _ => none
theorem op_modD : OpR X (binaryOp .Mod) (rO P modD) := by
  intro pins s σ H x y v u Q I rx ry ⟨α, m, dx, dy, rm, r1, r2, h⟩
  unfold modD at h
  split at h
  · cases r1; cases r2
    split at h
    · rename_i hz
      exact op_mod pins s σ H _ _ v u Q I rx ry ⟨_, _, rfl, rfl, hz, h α H Ext.refl rm _ (.int _)⟩
    · exact False.elim h
  · exact False.elim h
def negD (x : D) (m : Mem) : Option (D × Mem) :=
  match x with
  | .int i => some (.int (-i), m)
  | _ => none
theorem un_negD : UnR X (unaryOp .USub) (rU1 P negD) := by
  intro pins s σ H x v Q I rx ⟨α, m, dx, rm, r1, h⟩
  unfold negD at h
  split at h
  · cases r1
    exact un_neg pins s σ H _ v Q I rx ⟨_, rfl, h α H Ext.refl rm _ (.int _)⟩
  · exact False.elim h

/-! #### order -/
def ordD (p : Int → Int → Bool) (x y : D) (m : Mem) : Option (D × Mem) :=
  match x, y with
  | .int i, .int j => some (.bl (p i j), m)
  | _, _ => none
theorem ordD_of {op : CmpOp} {p : Int → Int → Bool} (h0 : OpR X (compareOp op) (rI0 fun i j => .bl (p i j))) : OpR X (compareOp op) (rO P (ordD p)) := by
  intro pins s σ H x y v u Q I rx ry ⟨α, m, dx, dy, rm, r1, r2, h⟩
  unfold ordD at h
  split at h
  · cases r1; cases r2
    exact h0 pins s σ H _ _ v u Q I rx ry ⟨_, _, rfl, rfl, h α H Ext.refl rm _ (.bl _)⟩
  · exact False.elim h
abbrev ltD := ordD fun i j => decide (i < j)
abbrev leD := ordD fun i j => decide (i ≤ j)
abbrev gtD := ordD fun i j => decide (j < i)
abbrev geD := ordD fun i j => decide (j ≤ i)
theorem op_ltD : OpR X (compareOp .Lt) (rO P ltD) := ordD_of op_lt
theorem op_leD : OpR X (compareOp .LtE) (rO P leD) := ordD_of op_le
theorem op_gtD : OpR X (compareOp .Gt) (rO P gtD) := ordD_of op_gt
theorem op_geD : OpR X (compareOp .GtE) (rO P geD) := ordD_of op_ge
end
/-! #### equality: what is told by data without dicts -/
def toP : Nat → Mem → D → Option PyData
  | 0, _, _ => none
  | k + 1, m, d => match d with
    | .non => some .none
    | .bl b => some (.bool b)
    | .int i => some (.int i)
    | .str x => some (.str x)
    | .tup xs => (xs.mapM (toP k m)).map .tuple
    | .fl _ => none
    | .ref n => match m[n]? with
      | some (.lst xs) => (xs.mapM (toP k m)).map .list
      | _ => none
section
variable {P : Pm} {α : List Addr} {H : Hp} {m : Mem}
theorem dpAll_of {f : D → Option PyData} (hf : ∀ v d p, RD P α H v d → f d = some p → Dp P.K H v p) : ∀ {vs : List V} {ds : List D} {ps : List PyData}, RDs P α H vs ds → ds.mapM f = some ps → DpAll P.K H vs ps
  | _, _, ps, .nil, h => by simp at h; subst h; exact .nil
  | _, _, ps, .cons r rs, h => by
    rw [List.mapM_cons] at h
    simp only [Option.bind_eq_bind, Option.bind_eq_some_iff, Option.pure_def, Option.some.injEq] at h
    obtain ⟨p, h1, ps', h2, rfl⟩ := h
    exact .cons (hf _ _ _ r h1) (dpAll_of hf rs h2)
theorem dp_of (rm : RM P α H m) : ∀ (k : Nat) (v : V) (d : D) (p : PyData), RD P α H v d → toP k m d = some p → Dp P.K H v p
  | 0, _, _, _, _, h => by cases h
  | k + 1, v, d, p, r, h => by
    unfold toP at h
    cases r with
    | non => cases h; exact .non
    | bl b => cases h; exact .bl b
    | int i => cases h; exact .int i
    | str x => cases h; exact .str x
    | tup t rs =>
      simp only [Option.map_eq_some_iff] at h
      obtain ⟨ps, h1, rfl⟩ := h
      exact .tup t (dpAll_of (dp_of rm k) rs h1)
    | fl t rs => cases h
    | ref ha =>
      dsimp only at h
      split at h
      · rename_i xs h1
        simp only [Option.map_eq_some_iff] at h
        obtain ⟨ps, h2, rfl⟩ := h
        obtain ⟨vs, e, rs⟩ := rm.cell _ _ _ h1 ha
        exact .lst (SqL.of e) (dpAll_of (dp_of rm k) rs h2)
      · cases h
end
def eqvD (m : Mem) (x y : D) : Option Bool :=
  match x, y with
  | .str a, .str b => some (decide (a = b))
  | _, _ => match toP 66 m x, toP 66 m y with
    | some p, some q => if SeqAt.shaped p = true ∧ SeqAt.shaped q = true then some (PyData.eqv p q) else none
    | _, _ => none
def eqD (x y : D) (m : Mem) : Option (D × Mem) := (eqvD m x y).map fun b => (.bl b, m)
def neD (x y : D) (m : Mem) : Option (D × Mem) := (eqvD m x y).map fun b => (.bl (!b), m)
section
variable {X : Cx} {P : Pm}
theorem op_eqDD (hK : P.K = X.K) (hu : X.A.units + 64 < cLine) : OpR X (compareOp .Eq) (rO P eqD) := by
  intro pins s σ H x y v u Q I rx ry ⟨α, m, dx, dy, rm, r1, r2, h⟩
  unfold eqD eqvD at h
  split at h
  · cases r1; cases r2
    refine op_eq pins s σ H _ _ v u Q I rx ry ⟨rfl, ?_⟩
    have q := h α H Ext.refl rm _ (.bl _)
    have e : ∀ a b : Str, decide (V.str a = V.str b) = decide (a = b) := fun a b => by rw [dec_str]; first | rfl | (by_cases z : a = b <;> simp [z])
    rw [e]; exact q
  · split at h
    · rename_i p q h1 h2
      split at h
      · rename_i hs
        refine op_eqD hu pins s σ H _ _ v u Q I rx ry ⟨p, q, ?_, ?_, hs.1, hs.2, h α H Ext.refl rm _ (.bl _)⟩
        · rw [← hK]; exact dp_of rm _ _ _ _ r1 h1
        · rw [← hK]; exact dp_of rm _ _ _ _ r2 h2
      · exact False.elim h
    · exact False.elim h
theorem op_neDD (hK : P.K = X.K) (hu : X.A.units + 64 < cLine) : OpR X (compareOp .NotEq) (rO P neD) := by
  intro pins s σ H x y v u Q I rx ry ⟨α, m, dx, dy, rm, r1, r2, h⟩
  unfold neD eqvD at h
  split at h
  · cases r1; cases r2
    refine op_ne pins s σ H _ _ v u Q I rx ry ⟨rfl, ?_⟩
    have q := h α H Ext.refl rm _ (.bl _)
    have e : ∀ a b : Str, decide (V.str a = V.str b) = decide (a = b) := fun a b => by rw [dec_str]; first | rfl | (by_cases z : a = b <;> simp [z])
    rw [e]; exact q
  · split at h
    · rename_i p q h1 h2
      split at h
      · rename_i hs
        refine op_neD hu pins s σ H _ _ v u Q I rx ry ⟨p, q, ?_, ?_, hs.1, hs.2, h α H Ext.refl rm _ (.bl _)⟩
        · rw [← hK]; exact dp_of rm _ _ _ _ r1 h1
        · rw [← hK]; exact dp_of rm _ _ _ _ r2 h2
      · exact False.elim h
    · exact False.elim h
end
/-! #### is -/
def isD (x y : D) : Option Bool :=
  match y with
  | .non => some (match x with | .non => true | _ => false)
  | .bl b => some (match x with | .bl a => decide (a = b) | _ => false)
  | _ => none
def isVD (x y : D) (m : Mem) : Option (D × Mem) := (isD x y).map fun b => (.bl b, m)
def isntVD (x y : D) (m : Mem) : Option (D × Mem) := (isD x y).map fun b => (.bl (!b), m)
section
variable {X : Cx} {P : Pm}
theorem is_odd {M : Model} {A : Around} {E : Value → Shared → Prop} {x : V} {v : Value} {b : Bool} {s : Shared} {Q : Bool → Shared → Prop} (r : RelV x v) (hx : x = .non ∨ (∃ i, x = .int i) ∨ (∃ z, x = .str z) ∨ ∃ a, x = .ref a) (h : Q false s) : wpAny M A (isSame v (.bool b)) Q E s := by
  rcases hx with rfl | ⟨i, rfl⟩ | ⟨z, rfl⟩ | ⟨a, rfl⟩
  · cases r; exact wpAny_pure h
  · obtain ⟨t, rfl⟩ := r; exact wpAny_pure h
  · obtain ⟨t, rfl⟩ := r; exact wpAny_pure h
  · cases r; exact wpAny_pure h
theorem op_isDD : OpR X (compareOp .Is) (rO P isVD) := by
  intro pins s σ H x y v u Q I rx ry ⟨α, m, dx, dy, rm, r1, r2, h⟩
  unfold isVD isD at h
  split at h
  · cases r2
    refine op_isN pins s σ H _ _ v u Q I rx ry ⟨rfl, ?_⟩
    have q := h α H Ext.refl rm _ (.bl _)
    cases r1 <;> exact q
  · cases r2
    cases r1 with
    | bl a => exact op_is_bl pins s σ H _ _ v u Q I rx ry ⟨_, _, rfl, rfl, h α H Ext.refl rm _ (.bl _)⟩
    | non => cases (show u = Value.bool _ from ry); exact wpAny_bind (is_odd rx (.inl rfl) (wpAny_pure ⟨.bl false, H, I, rfl, h α H Ext.refl rm _ (.bl _)⟩))
    | int i => cases (show u = Value.bool _ from ry); exact wpAny_bind (is_odd rx (.inr (.inl ⟨_, rfl⟩)) (wpAny_pure ⟨.bl false, H, I, rfl, h α H Ext.refl rm _ (.bl _)⟩))
    | str z => cases (show u = Value.bool _ from ry); exact wpAny_bind (is_odd rx (.inr (.inr (.inl ⟨_, rfl⟩))) (wpAny_pure ⟨.bl false, H, I, rfl, h α H Ext.refl rm _ (.bl _)⟩))
    | tup t rs => cases (show u = Value.bool _ from ry); exact wpAny_bind (is_odd rx (.inr (.inr (.inr ⟨_, rfl⟩))) (wpAny_pure ⟨.bl false, H, I, rfl, h α H Ext.refl rm _ (.bl _)⟩))
    | fl t rs => cases (show u = Value.bool _ from ry); exact wpAny_bind (is_odd rx (.inr (.inr (.inr ⟨_, rfl⟩))) (wpAny_pure ⟨.bl false, H, I, rfl, h α H Ext.refl rm _ (.bl _)⟩))
    | ref z => cases (show u = Value.bool _ from ry); exact wpAny_bind (is_odd rx (.inr (.inr (.inr ⟨_, rfl⟩))) (wpAny_pure ⟨.bl false, H, I, rfl, h α H Ext.refl rm _ (.bl _)⟩))
  · exact False.elim h
theorem op_isntDD : OpR X (compareOp .IsNot) (rO P isntVD) := by
  intro pins s σ H x y v u Q I rx ry ⟨α, m, dx, dy, rm, r1, r2, h⟩
  unfold isntVD isD at h
  split at h
  · cases r2
    refine op_notN pins s σ H _ _ v u Q I rx ry ⟨rfl, ?_⟩
    have q := h α H Ext.refl rm _ (.bl _)
    cases r1 <;> exact q
  · cases r2
    cases r1 with
    | bl a => exact op_isnot_bl pins s σ H _ _ v u Q I rx ry ⟨_, _, rfl, rfl, h α H Ext.refl rm _ (.bl _)⟩
    | non => cases (show u = Value.bool _ from ry); exact wpAny_bind (is_odd rx (.inl rfl) (wpAny_pure ⟨.bl true, H, I, rfl, h α H Ext.refl rm _ (.bl _)⟩))
    | int i => cases (show u = Value.bool _ from ry); exact wpAny_bind (is_odd rx (.inr (.inl ⟨_, rfl⟩)) (wpAny_pure ⟨.bl true, H, I, rfl, h α H Ext.refl rm _ (.bl _)⟩))
    | str z => cases (show u = Value.bool _ from ry); exact wpAny_bind (is_odd rx (.inr (.inr (.inl ⟨_, rfl⟩))) (wpAny_pure ⟨.bl true, H, I, rfl, h α H Ext.refl rm _ (.bl _)⟩))
    | tup t rs => cases (show u = Value.bool _ from ry); exact wpAny_bind (is_odd rx (.inr (.inr (.inr ⟨_, rfl⟩))) (wpAny_pure ⟨.bl true, H, I, rfl, h α H Ext.refl rm _ (.bl _)⟩))
    | fl t rs => cases (show u = Value.bool _ from ry); exact wpAny_bind (is_odd rx (.inr (.inr (.inr ⟨_, rfl⟩))) (wpAny_pure ⟨.bl true, H, I, rfl, h α H Ext.refl rm _ (.bl _)⟩))
    | ref z => cases (show u = Value.bool _ from ry); exact wpAny_bind (is_odd rx (.inr (.inr (.inr ⟨_, rfl⟩))) (wpAny_pure ⟨.bl true, H, I, rfl, h α H Ext.refl rm _ (.bl _)⟩))
  · exact False.elim h
end
end Dw

namespace Dw
open PySem PySem.Spec PyProof.Rows L2

section
variable {P : Pm} {α : List Addr} {H : Hp} {m : Mem}
/-- what a cell's list is -/
def lstOf (m : Mem) (n : Nat) : Option (List D) := match m[n]? with
  | some (.lst xs) => some xs
  | _ => none
theorem RM.sql (rm : RM P α H m) {n : Nat} {a : Addr} {xs : List D} (h : lstOf m n = some xs) (ha : α[n]? = some a) : ∃ vs, SqL P.K H a vs ∧ RDs P α H vs xs := by
  unfold lstOf at h
  split at h
  · rename_i h1
    cases h
    obtain ⟨vs, e, r⟩ := rm.cell _ _ _ h1 ha
    exact ⟨vs, SqL.of e, r⟩
  · cases h
theorem RDs.atI {vs : List V} {ds : List D} (r : RDs P α H vs ds) {i : Int} {d : D} (h : L2.atI ds i = some d) : ∃ v, L2.atI vs i = some v ∧ RD P α H v d := by
  unfold L2.atI at h ⊢
  rw [r.length]
  cases e : ixN ds.length i with
  | none => rw [e] at h; cases h
  | some j =>
    rw [e] at h
    exact r.get h
end
/-! #### items, slices -/
def ixD (x y : D) (m : Mem) : Option (D × Mem) :=
  match x, y with
  | .tup xs, .int i => (L2.atI xs i).map fun d => (d, m)
  | .fl xs, .int i => (L2.atI xs i).map fun d => (d, m)
  | .ref n, .int i => (lstOf m n).bind fun xs => (L2.atI xs i).map fun d => (d, m)
  | .str z, .int i => if z.length ≤ sizeLine then (L2.atI z.cps.toList i).map fun c => (.str ⟨#[c]⟩, m) else none
  | _, _ => none
section
variable {X : Cx} {P : Pm} {W : WX} {e a b c : Expr} {es : List Expr} {pos : Pos} {ga gb gc g : G} {ta : GA}
theorem ix_D (hK : P.K = X.K) : IxR X (rO P ixD) := by
  intro value slice pins s σ H x y v u Q I rx ry ⟨α, m, dx, dy, rm, r1, r2, h⟩ hs
  unfold ixD at h
  split at h
  · rename_i xs i
    cases r2
    cases r1 with
    | tup t rs =>
      cases e : L2.atI xs i with
      | none => rw [e] at h; exact False.elim h
      | some d =>
        rw [e] at h
        obtain ⟨v', h1, h2⟩ := rs.atI e
        exact ix_tup value slice pins s σ H _ _ v u Q I rx ry ⟨_, _, _, _, rfl, rfl, by rw [← hK]; exact t, h1, h α H Ext.refl rm _ h2⟩ hs
  · rename_i xs i
    cases r2
    cases r1 with
    | fl t rs =>
      cases e : L2.atI xs i with
      | none => rw [e] at h; exact False.elim h
      | some d =>
        rw [e] at h
        obtain ⟨v', h1, h2⟩ := rs.atI e
        exact ix_list value slice pins s σ H _ _ v u Q I rx ry ⟨_, _, _, _, rfl, rfl, by rw [← hK]; exact t.sql, h1, h α H Ext.refl rm _ h2⟩ hs
  · rename_i n i
    cases r2
    cases r1 with
    | ref ha =>
      cases e0 : lstOf m n with
      | none => rw [e0] at h; exact False.elim h
      | some xs =>
        rw [e0, Option.bind_some] at h
        cases e : L2.atI xs i with
        | none => rw [e] at h; exact False.elim h
        | some d =>
          rw [e] at h
          obtain ⟨vs, q, rs⟩ := rm.sql e0 ha
          obtain ⟨v', h1, h2⟩ := rs.atI e
          exact ix_list value slice pins s σ H _ _ v u Q I rx ry ⟨_, _, _, _, rfl, rfl, by rw [← hK]; exact q, h1, h α H Ext.refl rm _ h2⟩ hs
  · rename_i z i
    cases r2
    cases r1
    split at h
    · rename_i hz
      cases e : L2.atI z.cps.toList i with
      | none => rw [e] at h; exact False.elim h
      | some d =>
        rw [e] at h
        exact ix_str value slice pins s σ H _ _ v u Q I rx ry ⟨_, _, _, rfl, rfl, hz, e, h α H Ext.refl rm _ (.str _)⟩ hs
    · exact False.elim h
  · exact False.elim h
def cutD (xs : List D) (lo hi : Option Int) : List D := (xs.drop (HT.sIx xs.length 0 lo)).take (HT.sIx xs.length xs.length hi - HT.sIx xs.length 0 lo)
theorem RDs.cut {α : List Addr} {H : Hp} {vs : List V} {ds : List D} (r : RDs P α H vs ds) (lo hi : Option Int) : RDs P α H (cutV vs lo hi) (cutD ds lo hi) := by
  unfold cutV cutD
  rw [r.length]
  exact (r.drop _).take _
def slD (x : D) (lo hi : Option Int) (m : Mem) : Option (D × Mem) :=
  match x with
  | .tup xs => some (.tup (cutD xs lo hi), m)
  | .ref n => (lstOf m n).map fun xs => (.ref m.length, m ++ [.lst (cutD xs lo hi)])
  | .str z => if z.length ≤ sizeLine then some (.str (cutS z lo hi), m) else none
  | _ => none
def rSl (P : Pm) : V → Option Int → Option Int → Hp → VK → Prop := fun x lo hi H Q => ∃ α m dx, RM P α H m ∧ RD P α H x dx ∧ PostO P α H (slD dx lo hi m) (wV P Q)
theorem cutV_whole (xs : List V) (lo hi : Option Int) (h : HT.sIx xs.length 0 lo = 0 ∧ HT.sIx xs.length xs.length hi = xs.length) : cutV xs lo hi = xs := by
  unfold cutV
  rw [h.1, h.2, List.drop_zero, Nat.sub_zero, List.take_length]
theorem sl_D (hK : P.K = X.K) : SlR X (rSl P) := by
  intro pins s σ H x v vl vu lo hi sl Q I rx hs pl pu ⟨α, m, dx, rm, r1, h⟩
  unfold slD at h
  split at h
  · cases r1 with
    | tup t rs =>
      refine sl_tupA pins s σ H _ v vl vu lo hi sl Q I rx hs pl pu ⟨_, _, rfl, by rw [← hK]; exact t, fun hw => ?_, fun _ p hp => ?_⟩
      · have q := rs.cut lo hi
        rw [cutV_whole _ _ _ hw] at q
        exact h α H Ext.refl rm _ (.tup t q)
      · exact h α _ (Ext.side hp) (rm.side hp) _ (.newTup hp (rs.cut lo hi))
  · rename_i n
    cases r1 with
    | ref ha =>
      cases e0 : lstOf m n with
      | none => rw [e0] at h; exact False.elim h
      | some xs =>
        rw [e0] at h
        obtain ⟨vs, q, rs⟩ := rm.sql e0 ha
        refine sl_list pins s σ H _ v vl vu lo hi sl Q I rx hs pl pu ⟨_, _, rfl, by rw [← hK]; exact q, fun p hp => ?_⟩
        exact h _ _ (Ext.new hp) (rm.new hp (.newLst hp (rs.cut lo hi))) _ (.newRef rm)
  · cases r1
    split at h
    · rename_i hz
      exact sl_str pins s σ H _ v vl vu lo hi sl Q I rx hs pl pu ⟨_, rfl, hz, h α H Ext.refl rm _ (.str _)⟩
    · exact False.elim h
  · exact False.elim h
/-- a bound of a slice -/
abbrev GO := Env → Mem → R (Option Int)
def oNone : GO := fun _ m => .ok none m
def oSome (g : G) : GO := fun ρ m => (g ρ m).bind fun d m => match d with
  | .int i => .ok (some i) m
  | _ => .bad
def tOD (P : Pm) (W : WX) (g : GO) : TO := fun σ H Q => ∃ α ρ m, RM P α H m ∧ RE P α H ρ σ ∧ Post P W σ α H (g ρ m) fun _ H' o _ => Q o H'
theorem do_none : PO X none (tOD P W oNone) := by
  have h := po_none (X := X)
  exact ⟨fun pins s σ H Q I ⟨α, ρ, m, rm, re, q⟩ => h.run pins s σ H Q I (q α H Ext.refl rm)⟩
theorem do_some (he : PE X e (tE P W g)) : PO X (some e) (tOD P W (oSome g)) := by
  have h := po_some he
  refine ⟨fun pins s σ H Q I ⟨α, ρ, m, rm, re, q⟩ => h.run pins s σ H Q I ?_⟩
  refine tE_bind rm re q fun α1 H1 d m1 e1 r1 p1 v rv => ?_
  cases rv with
  | int i => exact ⟨i, rfl, p1 α1 H1 Ext.refl r1⟩
  | _ => exact False.elim p1
def eSl (g : G) (lo hi : GO) : G := fun ρ m => (g ρ m).bind fun x m => (lo ρ m).bind fun l m => (hi ρ m).bind fun h m => R.of (slD x l h m)
theorem tO_bind {β : Type} {go : GO} {k : Option Int → Mem → R β} {Θ : List Addr → Hp → β → Mem → Prop} {σ : L2.St} {H : Hp} {α : List Addr} {ρ : Env} {m : Mem} (rm : RM P α H m) (re : RE P α H ρ σ)
    (h : Post P W σ α H ((go ρ m).bind k) Θ) {Q : Option Int → Hp → Prop} (q : ∀ α' H' b m', Ext P α H α' H' → RM P α' H' m' → Post P W σ α' H' (k b m') Θ → Q b H') : tOD P W go σ H Q :=
  ⟨α, ρ, m, rm, re, h.bind.mono fun α' H' d m' e r p => q α' H' d m' e r p⟩
theorem de_sl {lo hi : Option Expr} {gl gh : GO} {p2 : Pos} (hK : P.K = X.K) (he : PE X e (tE P W g)) (hl : PO X lo (tOD P W gl)) (hu : PO X hi (tOD P W gh)) : PE X (.Subscript e (.Slice lo hi none p2) pos) (tE P W (eSl g gl gh)) :=
  (pe_slice (sl_D hK) he hl hu).weaken fun σ H Q ⟨α, ρ, m, rm, re, h⟩ => by
    refine tE_bind rm re h fun α1 H1 d1 m1 e1 r1 p1 v1 rv1 => ?_
    refine tO_bind r1 (re.mono e1) p1 fun α2 H2 l m2 e2 r2 p2 => ?_
    refine tO_bind r2 ((re.mono e1).mono e2) p2 fun α3 H3 u m3 e3 r3 p3 => ?_
    exact ⟨α3, m3, d1, r3, (rv1.mono e2).mono e3, p3.of⟩
/-! #### in -/
def flV : D → Option V
  | .non => some .non
  | .bl b => some (.bl b)
  | .int i => some (.int i)
  | .str x => some (.str x)
  | _ => none
theorem flV_rel {α : List Addr} {H : Hp} {v w : V} {d : D} (r : RD P α H v d) (h : flV d = some w) : v = w ∧ flatV v = true := by
  cases r <;> cases h <;> exact ⟨rfl, rfl⟩
theorem flVs_rel {α : List Addr} {H : Hp} : ∀ {vs ws : List V} {ds : List D}, RDs P α H vs ds → ds.mapM flV = some ws → vs = ws ∧ vs.all flatV = true
  | _, ws, _, .nil, h => by simp at h; subst h; exact ⟨rfl, rfl⟩
  | _, ws, _, .cons r rs, h => by
    rw [List.mapM_cons] at h
    simp only [Option.bind_eq_bind, Option.bind_eq_some_iff, Option.pure_def, Option.some.injEq] at h
    obtain ⟨p, h1, ps', h2, rfl⟩ := h
    obtain ⟨rfl, f1⟩ := flV_rel r h1
    obtain ⟨rfl, f2⟩ := flVs_rel rs h2
    exact ⟨rfl, by rw [List.all_cons, f1, f2]; rfl⟩
def inD (m : Mem) (x y : D) : Option Bool :=
  match y with
  | .str z => match x with
    | .str ⟨⟨[c]⟩⟩ => some (decide (c ∈ z.cps.toList))
    | _ => none
  | .tup ys => match flV x, ys.mapM flV with
    | some w, some ws => some (inV w ws)
    | _, _ => none
  | .ref n => match toP 66 m x, toP 66 m (.ref n) with
    | some p, some (.list ps) => if SeqAt.shaped p = true ∧ SeqAt.shaped (.list ps) = true then some (ps.any fun z => PyData.eqv z p) else none
    | _, _ => none
  | _ => none
def inVD (x y : D) (m : Mem) : Option (D × Mem) := (inD m x y).map fun b => (.bl b, m)
def notInVD (x y : D) (m : Mem) : Option (D × Mem) := (inD m x y).map fun b => (.bl (!b), m)
theorem op_inDD (hK : P.K = X.K) (hu : X.A.units + 65 < cLine) : OpR X (compareOp .In) (rO P inVD) := by
  intro pins s σ H x y v u Q I rx ry ⟨α, m, dx, dy, rm, r1, r2, h⟩
  unfold inVD inD at h
  split at h
  · cases r2
    split at h
    · rename_i z _ c
      cases r1
      exact op_in_sign pins s σ H _ _ v u Q I rx ry ⟨c, z, rfl, rfl, h α H Ext.refl rm _ (.bl _)⟩
    · exact False.elim h
  · cases r2 with
    | tup t rs =>
      split at h
      · rename_i w ws h1 h2
        obtain ⟨rfl, f1⟩ := flV_rel r1 h1
        obtain ⟨rfl, f2⟩ := flVs_rel rs h2
        exact op_in_seq pins s σ H _ _ v u Q I rx ry ⟨_, _, rfl, .inr (by rw [← hK]; exact t), f1, f2, h α H Ext.refl rm _ (.bl _)⟩
      · exact False.elim h
  · split at h
    · rename_i p ps h1 h2
      split at h
      · rename_i hs
        refine op_inD hu pins s σ H _ _ v u Q I rx ry ⟨p, ps, ?_, ?_, hs.1, hs.2, h α H Ext.refl rm _ (.bl _)⟩
        · rw [← hK]; exact dp_of rm _ _ _ _ r1 h1
        · rw [← hK]; exact dp_of rm _ _ _ _ r2 h2
      · exact False.elim h
    · exact False.elim h
  · exact False.elim h
theorem op_notInDD (hK : P.K = X.K) (hu : X.A.units + 65 < cLine) : OpR X (compareOp .NotIn) (rO P notInVD) := by
  intro pins s σ H x y v u Q I rx ry ⟨α, m, dx, dy, rm, r1, r2, h⟩
  unfold notInVD inD at h
  split at h
  · cases r2
    split at h
    · rename_i z _ c
      cases r1
      exact op_notIn_sign pins s σ H _ _ v u Q I rx ry ⟨c, z, rfl, rfl, h α H Ext.refl rm _ (.bl _)⟩
    · exact False.elim h
  · cases r2 with
    | tup t rs =>
      split at h
      · rename_i w ws h1 h2
        obtain ⟨rfl, f1⟩ := flV_rel r1 h1
        obtain ⟨rfl, f2⟩ := flVs_rel rs h2
        exact op_notIn_seq pins s σ H _ _ v u Q I rx ry ⟨_, _, rfl, .inr (by rw [← hK]; exact t), f1, f2, h α H Ext.refl rm _ (.bl _)⟩
      · exact False.elim h
  · split at h
    · rename_i p ps h1 h2
      split at h
      · rename_i hs
        refine op_notInD hu pins s σ H _ _ v u Q I rx ry ⟨p, ps, ?_, ?_, hs.1, hs.2, h α H Ext.refl rm _ (.bl _)⟩
        · rw [← hK]; exact dp_of rm _ _ _ _ r1 h1
        · rw [← hK]; exact dp_of rm _ _ _ _ r2 h2
      · exact False.elim h
    · exact False.elim h
  · exact False.elim h
/-! #### built-in calls -/
def lenD (ds : List D) (m : Mem) : Option (D × Mem) :=
  match ds with
  | [.str z] => if z.length ≤ sizeLine then some (.int z.length, m) else none
  | [.tup xs] => some (.int xs.length, m)
  | [.fl xs] => some (.int xs.length, m)
  | [.ref n] => (lstOf m n).map fun xs => (.int xs.length, m)
  | _ => none
theorem bi_len (hK : P.K = X.K) : CallR X (.builtin "len") (rB P lenD) := by
  intro pins s σ H xs us Q I r ⟨α, m, ds, rm, rs, h⟩
  unfold lenD at h
  split at h
  · cases rs with
    | cons r1 rs =>
      cases rs; cases r1
      split at h
      · rename_i hz
        exact call_len pins s σ H _ us Q I r ⟨_, _, rfl, ⟨hz, rfl⟩, h α H Ext.refl rm _ (.int _)⟩
      · exact False.elim h
  · cases rs with
    | cons r1 rs =>
      cases rs
      cases r1 with
      | tup t q =>
        exact call_len pins s σ H _ us Q I r ⟨_, _, rfl, .inr ⟨_, by rw [← hK]; exact t, q.length.symm⟩, h α H Ext.refl rm _ (.int _)⟩
  · cases rs with
    | cons r1 rs =>
      cases rs
      cases r1 with
      | fl t q =>
        exact call_len pins s σ H _ us Q I r ⟨_, _, rfl, .inl ⟨_, by rw [← hK]; exact t.sql, q.length.symm⟩, h α H Ext.refl rm _ (.int _)⟩
  · rename_i n
    cases rs with
    | cons r1 rs =>
      cases rs
      cases r1 with
      | ref ha =>
        cases e0 : lstOf m n with
        | none => rw [e0] at h; exact False.elim h
        | some xs =>
          rw [e0] at h
          obtain ⟨vs, q, rs⟩ := rm.sql e0 ha
          exact call_len pins s σ H _ us Q I r ⟨_, _, rfl, .inl ⟨_, by rw [← hK]; exact q, rs.length.symm⟩, h α H Ext.refl rm _ (.int _)⟩
  · exact False.elim h
def intD (ds : List D) (m : Mem) : Option (D × Mem) :=
  match ds with
  | [.int i] => some (.int i, m)
  | [.bl b] => some (.int (if b then 1 else 0), m)
  | [.str z] => if z.length ≤ 640 then (PySem.intText? z).map fun n => (.int n, m) else none
  | _ => none
theorem ty_int : CallR X (.type "int") (rB P intD) := by
  intro pins s σ H xs us Q I r ⟨α, m, ds, rm, rs, h⟩
  unfold intD at h
  split at h
  · cases rs with
    | cons r1 rs => cases rs; cases r1; exact call_int1 pins s σ H _ us Q I r (.inl ⟨_, rfl, h α H Ext.refl rm _ (.int _)⟩)
  · cases rs with
    | cons r1 rs => cases rs; cases r1; exact call_int1 pins s σ H _ us Q I r (.inr ⟨_, rfl, h α H Ext.refl rm _ (.int _)⟩)
  · rename_i z
    cases rs with
    | cons r1 rs =>
      cases rs; cases r1
      split at h
      · rename_i hz
        cases e : PySem.intText? z with
        | none => rw [e] at h; exact False.elim h
        | some n =>
          rw [e] at h
          exact call_int_str pins s σ H _ us Q I r ⟨_, _, rfl, e, hz, h α H Ext.refl rm _ (.int _)⟩
      · exact False.elim h
  · exact False.elim h
def strD (ds : List D) (m : Mem) : Option (D × Mem) :=
  match ds with
  | [.int i] => if i.natAbs.log2 < 1920 then some (.str (toString i), m) else none
  | _ => none
theorem ty_str : CallR X (.type "str") (rB P strD) := by
  intro pins s σ H xs us Q I r ⟨α, m, ds, rm, rs, h⟩
  unfold strD at h
  split at h
  · cases rs with
    | cons r1 rs =>
      cases rs; cases r1
      split at h
      · rename_i hz
        exact call_str_int pins s σ H _ us Q I r ⟨_, rfl, hz, h α H Ext.refl rm _ (.str _)⟩
      · exact False.elim h
  · exact False.elim h
def gcdD (ds : List D) (m : Mem) : Option (D × Mem) :=
  match ds with
  | [.int i, .int j] => some (.int ((Nat.gcd i.natAbs j.natAbs : Nat) : Int), m)
  | _ => none
theorem bi_gcd : CallR X (.builtin "math.gcd") (rB P gcdD) := by
  intro pins s σ H xs us Q I r ⟨α, m, ds, rm, rs, h⟩
  unfold gcdD at h
  split at h
  · cases rs with
    | cons r1 rs => cases rs with
      | cons r2 rs => cases rs; cases r1; cases r2; exact cr_gcd pins s σ H _ us Q I r ⟨_, _, rfl, h α H Ext.refl rm _ (.int _)⟩
  · exact False.elim h
def blV : D → Option Bool
  | .bl b => some b
  | _ => none
theorem blVs_rel {α : List Addr} {H : Hp} : ∀ {vs : List V} {ds : List D} {bs : List Bool}, RDs P α H vs ds → ds.mapM blV = some bs → vs = bs.map V.bl
  | _, _, bs, .nil, h => by simp at h; subst h; rfl
  | _, _, bs, .cons r rs, h => by
    rw [List.mapM_cons] at h
    simp only [Option.bind_eq_bind, Option.bind_eq_some_iff, Option.pure_def, Option.some.injEq] at h
    obtain ⟨p, h1, ps', h2, rfl⟩ := h
    cases r <;> cases h1
    rw [blVs_rel rs h2]; rfl
def allD (ds : List D) (m : Mem) : Option (D × Mem) :=
  match ds with
  | [.ref n] => (lstOf m n).bind fun xs => (xs.mapM blV).map fun bs => (.bl (bs.all id), m)
  | _ => none
def anyD (ds : List D) (m : Mem) : Option (D × Mem) :=
  match ds with
  | [.ref n] => (lstOf m n).bind fun xs => (xs.mapM blV).map fun bs => (.bl (bs.any id), m)
  | _ => none
theorem bi_all (hK : P.K = X.K) (hc : X.calm = true) : CallR X (.builtin "all") (rB P allD) := by
  intro pins s σ H xs us Q I r ⟨α, m, ds, rm, rs, h⟩
  unfold allD at h
  split at h
  · rename_i n
    cases rs with
    | cons r1 rs =>
      cases rs
      cases r1 with
      | ref ha =>
        cases e0 : lstOf m n with
        | none => rw [e0] at h; exact False.elim h
        | some ys =>
          rw [e0, Option.bind_some] at h
          cases e1 : ys.mapM blV with
          | none => rw [e1] at h; exact False.elim h
          | some bs =>
            rw [e1] at h
            obtain ⟨vs, q, rs⟩ := rm.sql e0 ha
            rw [blVs_rel rs e1, hK] at q
            exact cr_all hc pins s σ H _ us Q I r ⟨_, _, rfl, q, h α H Ext.refl rm _ (.bl _)⟩
  · exact False.elim h
theorem bi_any (hK : P.K = X.K) (hc : X.calm = true) : CallR X (.builtin "any") (rB P anyD) := by
  intro pins s σ H xs us Q I r ⟨α, m, ds, rm, rs, h⟩
  unfold anyD at h
  split at h
  · rename_i n
    cases rs with
    | cons r1 rs =>
      cases rs
      cases r1 with
      | ref ha =>
        cases e0 : lstOf m n with
        | none => rw [e0] at h; exact False.elim h
        | some ys =>
          rw [e0, Option.bind_some] at h
          cases e1 : ys.mapM blV with
          | none => rw [e1] at h; exact False.elim h
          | some bs =>
            rw [e1] at h
            obtain ⟨vs, q, rs⟩ := rm.sql e0 ha
            rw [blVs_rel rs e1, hK] at q
            exact cr_any hc pins s σ H _ us Q I r ⟨_, _, rfl, q, h α H Ext.refl rm _ (.bl _)⟩
  · exact False.elim h
def tupleD (ds : List D) (m : Mem) : Option (D × Mem) :=
  match ds with
  | [.ref n] => (lstOf m n).map fun xs => (.tup xs, m)
  | [.tup xs] => some (.tup xs, m)
  | _ => none
theorem ty_tuple (hK : P.K = X.K) : CallR X (.type "tuple") (rB P tupleD) := by
  intro pins s σ H xs us Q I r ⟨α, m, ds, rm, rs, h⟩
  unfold tupleD at h
  split at h
  · rename_i n
    cases rs with
    | cons r1 rs =>
      cases rs
      cases r1 with
      | ref ha =>
        cases e0 : lstOf m n with
        | none => rw [e0] at h; exact False.elim h
        | some ys =>
          rw [e0] at h
          obtain ⟨vs, q, rs⟩ := rm.sql e0 ha
          exact call_tuple_of pins s σ H _ us Q I r ⟨_, _, rfl, .inl ⟨by rw [← hK]; exact q, fun p hp => h α _ (Ext.side hp) (rm.side hp) _ (.newTup hp rs)⟩⟩
  · cases rs with
    | cons r1 rs =>
      cases rs
      cases r1 with
      | tup t q => exact call_tuple_of pins s σ H _ us Q I r ⟨_, _, rfl, .inr ⟨by rw [← hK]; exact t, h α H Ext.refl rm _ (.tup t q)⟩⟩
  · exact False.elim h
def listD (ds : List D) (m : Mem) : Option (D × Mem) :=
  match ds with
  | [.ref n] => (lstOf m n).map fun xs => (.ref m.length, m ++ [.lst xs])
  | [.tup xs] => some (.ref m.length, m ++ [.lst xs])
  | _ => none
theorem ty_list (hK : P.K = X.K) : CallR X (.type "list") (rB P listD) := by
  intro pins s σ H xs us Q I r ⟨α, m, ds, rm, rs, h⟩
  unfold listD at h
  split at h
  · rename_i n
    cases rs with
    | cons r1 rs =>
      cases rs
      cases r1 with
      | ref ha =>
        cases e0 : lstOf m n with
        | none => rw [e0] at h; exact False.elim h
        | some ys =>
          rw [e0] at h
          obtain ⟨vs, q, rs⟩ := rm.sql e0 ha
          exact call_list_of pins s σ H _ us Q I r ⟨_, _, rfl, .inl (by rw [← hK]; exact q), fun p hp => h _ _ (Ext.new hp) (rm.new hp (.newLst hp rs)) _ (.newRef rm)⟩
  · cases rs with
    | cons r1 rs =>
      cases rs
      cases r1 with
      | tup t q => exact call_list_of pins s σ H _ us Q I r ⟨_, _, rfl, .inr (by rw [← hK]; exact t), fun p hp => h _ _ (Ext.new hp) (rm.new hp (.newLst hp q)) _ (.newRef rm)⟩
  · exact False.elim h
def maxD (ds : List D) (m : Mem) : Option (D × Mem) :=
  match ds with
  | [.int i, .int j] => some (.int (if j > i then j else i), m)
  | _ => none
theorem bi_max (hc : X.calm = true) : CallR X (.builtin "max") (rB P maxD) := by
  intro pins s σ H xs us Q I r ⟨α, m, ds, rm, rs, h⟩
  unfold maxD at h
  split at h
  · cases rs with
    | cons r1 rs => cases rs with
      | cons r2 rs => cases rs; cases r1; cases r2; exact call_max2 hc pins s σ H _ us Q I r ⟨_, _, rfl, h α H Ext.refl rm _ (.int _)⟩
  · exact False.elim h
/-! repr -/
def reprD (ds : List D) (m : Mem) : Option (D × Mem) :=
  match ds with
  | [d] => match toP 66 m d with
    | some p => if p.showable = true ∧ p.hasDict = false ∧ p.depth ≤ 64 ∧ p.shown.length ≤ sizeLine then some (.str p.shown, m) else none
    | none => none
  | _ => none
theorem bi_repr (hK : P.K = X.K) (hu : X.A.units + 66 < cLine) (hg : X.A.guards = some []) : CallR X (.builtin "repr") (rB P reprD) := by
  intro pins s σ H xs us Q I r ⟨α, m, ds, rm, rs, h⟩
  unfold reprD at h
  split at h
  · rename_i d
    split at h
    · rename_i p hp
      split at h
      · rename_i hz
        obtain ⟨h1, h2, h3, h4⟩ := hz
        cases rs with
        | cons r1 rs =>
          cases rs
          obtain ⟨u, rfl, ru⟩ := vals1 r
          have q := h α H Ext.refl rm _ (.str _)
          have dp := dp_of rm _ _ _ _ r1 hp
          rw [hK] at dp
          obtain ⟨as, rd⟩ := Dp.reads I p _ u dp ru
          have fin : ∀ h' u tk, (∀ b o, s.heap.get? b = some o → h'.get? b = some o) → EP X pins σ Q (.str p.shown u) { s with heap := h', toks := tk } := fun h' u tk k => ⟨.str p.shown, H, I.kept k, ⟨_, rfl⟩, q⟩
          have big : ∀ a, u = Value.ref a → wpAny (model X.prog X.w) X.A (call (.builtin "repr") [.ref a]) (EP X pins σ Q) X.xe s := fun a e => by
            subst e
            exact repr_of_reads' rd h1 (PyData.noDict_hsm h2) hg (by omega) (fun _ _ e => e) fin h4
          cases dp with
          | non => cases ru; exact PySem.P.repr_of_none (fin s.heap _ _ fun _ _ e => e)
          | bl b => cases ru; exact PySem.P.repr_of_bool (fin s.heap _ _ fun _ _ e => e)
          | int i => obtain ⟨t, rfl⟩ := ru; exact PySem.P.repr_of_int (by simpa [PyData.showable] using h1) (fin s.heap _ _ fun _ _ e => e)
          | str x => obtain ⟨t, rfl⟩ := ru; exact PySem.P.repr_of_str (fin s.heap _ _ fun _ _ e => e) h4
          | lst q1 q2 => cases ru; exact big _ rfl
          | tup q1 q2 => cases ru; exact big _ rfl
      · exact False.elim h
    · exact False.elim h
  · exact False.elim h
/-! isinstance -/
inductive Ty where | int | bool | str | tuple | list | dict
def Ty.nm : Ty → String
  | .int => "int" | .bool => "bool" | .str => "str" | .tuple => "tuple" | .list => "list" | .dict => "dict"
def tyB (T : Ty) (x : D) (m : Mem) : Option Bool :=
  match x with
  | .non => some false
  | .int _ => some (match T with | .int => true | _ => false)
  | .bl _ => some (match T with | .int => true | .bool => true | _ => false)
  | .str _ => some (match T with | .str => true | _ => false)
  | .tup _ => some (match T with | .tuple => true | _ => false)
  | .fl _ => none
  | .ref n => match m[n]? with
    | some (.lst _) => some (match T with | .list => true | _ => false)
    | some (.dct _) => some (match T with | .dict => true | _ => false)
    | _ => none
def isD1 (T : Ty) (x : D) (m : Mem) : Option (D × Mem) := (tyB T x m).map fun b => (.bl b, m)
theorem kit1 (K : PySem.W.Frag) (T : Ty) (x : D) (m : Mem) (b : Bool) (h : tyB T x m = some b) : ∀ t, (match x with | .non => t = "NoneType" | .int _ => t = "int" | .bl _ => t = "bool" | .str _ => t = "str" | .tup _ => t = "tuple" | .fl _ => False | .ref n => (match m[n]? with | some (.lst _) => t = "list" | some (.dct _) => t = "dict" | _ => False)) →
    PySem.W.kitOne K (.type t) (.type T.nm) = some b := by
  intro t ht
  cases x <;> first
    | (dsimp only at ht; subst ht; simp only [tyB, Option.some.injEq] at h; subst h; cases T <;> exact kit_ty (by decide +kernel))
    | (exact False.elim ht)
    | skip
  rename_i n
  dsimp only at ht
  unfold tyB at h
  dsimp only at h
  split at ht
  · rename_i e; rw [e] at h; subst ht; simp only [Option.some.injEq] at h; subst h; cases T <;> exact kit_ty (by decide +kernel)
  · rename_i e; rw [e] at h; subst ht; simp only [Option.some.injEq] at h; subst h; cases T <;> exact kit_ty (by decide +kernel)
  · exact False.elim ht
theorem tyX_tup {K : PySem.W.Frag} {H : Hp} {a : Addr} {vs : List V} (t : SqT K H a vs) : TyX K H (.ref a) (.type "tuple") := by
  rcases t with (t | ⟨o, t⟩) | ⟨o, its, n, h1, h2, _⟩
  · exact .base (.tup t)
  · exact .fTuple t
  · exact .kTuple h1 h2
theorem de_isi {T : Ty} {pf p2 : Pos} (hK : P.K = X.K) (hg : Gl X "isinstance") (hm : X.mg "isinstance" = none) (hgT : Gl X (Str.ofString T.nm)) (hmT : X.mg (Str.ofString T.nm) = none) (hvT : bootBuiltins (Str.ofString T.nm) = some (.type T.nm))
    (hn : Str.ofString T.nm ≠ "__name__") (hd : (Str.ofString T.nm == ("__debug__" : Str)) = false) (ha : PE X a (tE P W g)) (hs : starEach [a, .Name (Str.ofString T.nm) p2] X.env = (false, eval a X.env) :: starEach [.Name (Str.ofString T.nm) p2] X.env := by rfl) :
    PE X (.Call (.Name "isinstance" pf) [a, .Name (Str.ofString T.nm) p2] [] pos) (tE P W (eUn (isD1 T) g)) :=
  (pe_callB call_isi hg hm (by decide +kernel) (pa_cons ha (pa_cons (pe_bltn (v := .ty T.nm) hgT hmT hvT rfl hn hd) pa_nil) hs) (by decide) (by decide) hs).weaken fun σ H Q h => by
    have q := un1 h
    refine (show tE P W g σ H _ from ?_)
    obtain ⟨α, ρ, m, rm, re, q⟩ := q
    refine ⟨α, ρ, m, rm, re, q.mono fun α' H' d m' e r p v rv => ?_⟩
    obtain ⟨α2, m2, dx, r2, rv2, p2⟩ := p v rv
    unfold isD1 at p2
    cases et : tyB T dx m2 with
    | none => rw [et] at p2; exact False.elim p2
    | some b =>
      rw [et] at p2
      have kk := kit1 X.K T dx m2 b et
      have fin := p2 α2 H' Ext.refl r2 _ (.bl b)
      refine ⟨v, .ty T.nm, ?_⟩
      cases rv2 with
      | non => exact ⟨_, _, b, rfl, .ty _, .base .non, kk _ rfl, fin⟩
      | bl z => exact ⟨_, _, b, rfl, .ty _, .base (.bl z), kk _ rfl, fin⟩
      | int z => exact ⟨_, _, b, rfl, .ty _, .base (.int z), kk _ rfl, fin⟩
      | str z => exact ⟨_, _, b, rfl, .ty _, .base (.str z), kk _ rfl, fin⟩
      | tup t rs => exact ⟨_, _, b, rfl, .ty _, tyX_tup (by rw [← hK]; exact t), kk _ rfl, fin⟩
      | fl t rs => cases et
      | @ref a n ha =>
        unfold tyB at et
        dsimp only at et kk
        cases ec : m2[n]? with
        | none => rw [ec] at et; cases et
        | some c =>
          rw [ec] at et kk
          cases c with
          | lst xs =>
            obtain ⟨vs, e1, _⟩ := r2.cell n _ a ec ha
            exact ⟨_, _, b, rfl, .ty _, .base (.lst e1), kk _ rfl, fin⟩
          | dct xs =>
            obtain ⟨vs, e1, _⟩ := r2.cell n _ a ec ha
            exact ⟨_, _, b, rfl, .ty _, .base (.dK e1), kk _ rfl, fin⟩
end
end Dw

namespace Dw
open PySem PySem.Spec PyProof.Rows L2

/-! ### 7. the memory made small again -/
section
variable {P : Pm} {α β : List Addr} {H H1 : Hp} {m m' : Mem}
mutual
theorem RD.fits : ∀ {v : V} {d : D}, RD P α H v d → d.fits α.length = true
  | _, _, .non => rfl
  | _, _, .bl _ => rfl
  | _, _, .int _ => rfl
  | _, _, .str _ => rfl
  | _, _, .tup _ r => by rw [D.fits]; exact RDs.fits r
  | _, _, .fl _ r => by rw [D.fits]; exact RDs.fits r
  | _, _, .ref h => by rw [D.fits]; exact decide_eq_true (List.getElem?_eq_some_iff.mp h).1
theorem RDs.fits : ∀ {vs : List V} {ds : List D}, RDs P α H vs ds → D.fitsL α.length ds = true
  | _, _, .nil => rfl
  | _, _, .cons r rs => by rw [D.fitsL, RD.fits r, RDs.fits rs]; rfl
end
mutual
theorem RD.shrink : ∀ {v : V} {d : D}, RD P (α ++ β) H v d → d.fits α.length = true → RD P α H v d
  | _, _, .non, _ => .non
  | _, _, .bl b, _ => .bl b
  | _, _, .int i, _ => .int i
  | _, _, .str x, _ => .str x
  | _, _, .tup t r, h => .tup t (RDs.shrink r (by rw [D.fits] at h; exact h))
  | _, _, .fl t r, h => .fl t (RDs.shrink r (by rw [D.fits] at h; exact h))
  | _, _, .ref e, h => .ref (by rw [D.fits] at h; rw [List.getElem?_append_left (of_decide_eq_true h)] at e; exact e)
theorem RDs.shrink : ∀ {vs : List V} {ds : List D}, RDs P (α ++ β) H vs ds → D.fitsL α.length ds = true → RDs P α H vs ds
  | _, _, .nil, _ => .nil
  | _, _, .cons r rs, h => by
    rw [D.fitsL, Bool.and_eq_true] at h
    exact .cons (RD.shrink r h.1) (RDs.shrink rs h.2)
end
theorem RKs.fits : ∀ {vs : List (Key × V)} {ds : List (Key × D)}, RKs P α H vs ds → D.fitsL α.length (ds.map (·.2)) = true
  | _, _, .nil => rfl
  | _, _, .cons r rs => by rw [List.map_cons, D.fitsL, r.fits, RKs.fits rs]; rfl
theorem RKs.shrink : ∀ {vs : List (Key × V)} {ds : List (Key × D)}, RKs P (α ++ β) H vs ds → D.fitsL α.length (ds.map (·.2)) = true → RKs P α H vs ds
  | _, _, .nil, _ => .nil
  | _, _, .cons r rs, h => by
    rw [List.map_cons, D.fitsL, Bool.and_eq_true] at h
    exact .cons (r.shrink h.1) (RKs.shrink rs h.2)
theorem RFs.shrink : ∀ {vs : List (Str × V)} {ds : List (Str × D)}, RFs P (α ++ β) H vs ds → D.fitsL α.length (ds.map (·.2)) = true → RFs P α H vs ds
  | _, _, .nil, _ => .nil
  | _, _, .cons r rs, h => by
    rw [List.map_cons, D.fitsL, Bool.and_eq_true] at h
    exact .cons (r.shrink h.1) (RFs.shrink rs h.2)
theorem RC.fits {a : Addr} {c : Cell} (h : RC P α H a c) : c.fits α.length = true := by
  cases c with
  | lst ds => obtain ⟨_, _, r⟩ := h; exact r.fits
  | dct ds => obtain ⟨_, _, r⟩ := h; exact r.fits
theorem RC.shrink {a : Addr} {c : Cell} (h : RC P (α ++ β) H a c) (f : c.fits α.length = true) : RC P α H a c := by
  cases c with
  | lst ds => obtain ⟨vs, e, r⟩ := h; exact ⟨vs, e, r.shrink f⟩
  | dct ds => obtain ⟨vs, e, r⟩ := h; exact ⟨vs, e, r.shrink f⟩
/-- the cells of m are in m' as they were, or hold nothing newer -/
def KeepOk (m m' : Mem) : Prop := m.length ≤ m'.length ∧ ∀ i c, i < m.length → m'[i]? = some c → m[i]? = some c ∨ c.fits m.length = true
theorem Ext.shrink {α' : List Addr} (e : Ext P α H α' H1) : Ext P α H α H1 := ⟨⟨[], by simp⟩, fun b o h n t => ⟨(e.keep b o h n t).1, n⟩, e.tup, e.frz⟩
theorem RM.shrink {α' : List Addr} (rm : RM P α H m) (e : Ext P α H α' H1) (rm' : RM P α' H1 m') (k : KeepOk m m') : RM P α H1 (m'.take m.length) := by
  obtain ⟨γ, rfl⟩ := e.pre
  have lt : ∀ {i : Nat} {c : Cell}, (m'.take m.length)[i]? = some c → i < m.length ∧ m'[i]? = some c := fun {i c} h => by
    have h1 := (List.getElem?_eq_some_iff.mp h).1
    rw [List.length_take] at h1
    have hi : i < m.length := by omega
    rw [List.getElem?_take_of_lt hi] at h
    exact ⟨hi, h⟩
  have up : ∀ {i : Nat} {a : Addr}, α[i]? = some a → (α ++ γ)[i]? = some a := fun {i a} h => by
    rw [List.getElem?_append_left (List.getElem?_eq_some_iff.mp h).1]; exact h
  refine ⟨by rw [List.length_take, rm.len]; have := k.1; omega, fun i j a a1 a2 => rm'.inj i j a (up a1) (up a2), fun i c a h1 h2 => ?_, rm'.tab⟩
  obtain ⟨hi, h1⟩ := lt h1
  have rc := rm'.cell i c a h1 (up h2)
  refine rc.shrink ?_
  rw [rm.len]
  rcases k.2 i c hi h1 with q | q
  · have := (rm.cell i c a q h2).fits
    rw [rm.len] at this
    exact this
  · exact q
end
def Env.fits (n : Nat) (ρ : Env) : Bool := ρ.all fun o => match o with
  | some d => d.fits n
  | none => true
def Fl.fits (n : Nat) : Fl → Bool
  | .nx ρ => Env.fits n ρ
  | .ret d => d.fits n
  | .brk ρ => Env.fits n ρ
  | .cnt ρ => Env.fits n ρ
open Classical in
noncomputable def gcR {β : Type} (fit : Nat → β → Bool) (m : Mem) (r : R β) : R β :=
  match r with
  | .ok b m' => if fit m.length b = true ∧ KeepOk m m' then .ok b (m'.take m.length) else .ok b m'
  | .exc c fs m' => if D.fitsL m.length (fs.map (·.2)) = true ∧ KeepOk m m' then .exc c fs (m'.take m.length) else .exc c fs m'
  | .bad => .bad
section
variable {P : Pm} {W : WX} {σ : L2.St} {α : List Addr} {H : Hp} {m : Mem}
theorem ExcR.shrink {β : List Addr} {cls : Value} {dd : Option Addr} {c : Str} {fs : List (Str × D)} (h : ExcR P (α ++ β) H cls dd c fs) (f : D.fitsL α.length (fs.map (·.2)) = true) : ExcR P α H cls dd c fs := by
  obtain ⟨C, d, fv, h1, h2, h3, h4, h5⟩ := h
  exact ⟨C, d, fv, h1, h2, h3, h4, h5.shrink f⟩
theorem Post.gc {β : Type} {fit : Nat → β → Bool} {r : R β} {Φ Ψ : List Addr → Hp → β → Mem → Prop} (rm : RM P α H m) (h : Post P W σ α H (gcR fit m r) Φ)
    (k : ∀ α' H' b m', Ext P α H α' H' → RM P α' H' m' → Φ α' H' b m' → Ψ α' H' b m')
    (ks : ∀ γ H' b m', Ext P α H (α ++ γ) H' → RM P (α ++ γ) H' m' → fit α.length b = true → RM P α H' (m'.take m.length) → Ext P α H α H' → Φ α H' b (m'.take m.length) → Ψ (α ++ γ) H' b m') : Post P W σ α H r Ψ := by
  cases r with
  | ok b m' =>
    unfold gcR at h
    dsimp only at h
    intro α' H' e rm'
    split at h
    · rename_i hz
      obtain ⟨γ, rfl⟩ := e.pre
      have r2 := rm.shrink e rm' hz.2
      exact ks γ H' b m' e rm' (by rw [rm.len]; exact hz.1) r2 e.shrink (h α H' e.shrink r2)
    · exact k α' H' b m' e rm' (h α' H' e rm')
  | exc c fs m' =>
    unfold gcR at h
    dsimp only at h
    intro α' H' cls dd e rm' x
    split at h
    · rename_i hz
      obtain ⟨γ, rfl⟩ := e.pre
      have r2 := rm.shrink e rm' hz.2
      exact h α H' cls dd e.shrink r2 (x.shrink (by rw [rm.len]; exact hz.1))
    · exact h α' H' cls dd e rm' x
  | bad => exact h
noncomputable def gcD (m : Mem) (r : R D) : R D := gcR D.fits m r
noncomputable def gcT (m : Mem) (r : R Bool) : R Bool := gcR (fun _ _ => true) m r
noncomputable def gcF (m : Mem) (r : R Fl) : R Fl := gcR Fl.fits m r
theorem Post.gcD {r : R D} {Q : VK} (rm : RM P α H m) (h : Post P W σ α H (gcD m r) (wV P Q)) : Post P W σ α H r (wV P Q) :=
  Post.gc rm h (fun _ _ _ _ _ _ q => q) fun γ H' b m' e r f _ _ q v rv => q v (rv.shrink f)
theorem Post.gcT {r : R Bool} {Q : Bool → Hp → Prop} (rm : RM P α H m) (h : Post P W σ α H (gcT m r) fun _ H' b _ => Q b H') : Post P W σ α H r fun _ H' b _ => Q b H' :=
  Post.gc rm h (fun _ _ _ _ _ _ q => q) fun γ H' b m' e r f _ _ q => q
theorem RE.shrink {β : List Addr} {ρ : Env} {σ : L2.St} (re : RE P (α ++ β) H ρ σ) (f : Env.fits α.length ρ = true) : RE P α H ρ σ :=
  ⟨re.len, fun i d h => by
    obtain ⟨v, h1, h2⟩ := re.at_ i d h
    refine ⟨v, h1, h2.shrink ?_⟩
    exact List.all_eq_true.mp f _ (List.mem_of_getElem? h)⟩
end

/-! ### 8. tests -/
def truD (x : D) (m : Mem) : Option Bool :=
  match x with
  | .non => some false
  | .bl b => some b
  | .int i => some (i != 0)
  | .str z => if z.length ≤ sizeLine then some ((z.length : Int) != 0) else none
  | .tup xs => some (!xs.isEmpty)
  | .fl xs => some (!xs.isEmpty)
  | .ref n => match m[n]? with
    | some (.lst xs) => some (!xs.isEmpty)
    | some (.dct kvs) => some (!kvs.isEmpty)
    | none => none
noncomputable def tTru (g : G) : GT := fun ρ m => gcT m ((g ρ m).bind fun d m => R.of ((truD d m).map fun b => (b, m)))
noncomputable def tOp' (f : D → D → Mem → Option (D × Mem)) (a b : G) : GT := fun ρ m => gcT m ((a ρ m).bind fun x m => (b ρ m).bind fun y m => R.of ((f x y m).bind fun z => (blV z.1).map fun k => (k, z.2)))
def tNot' (t : GT) : GT := fun ρ m => (t ρ m).bind fun b m => .ok (!b) m
def tAnd' (t u : GT) : GT := fun ρ m => (t ρ m).bind fun b m => if b = true then u ρ m else .ok false m
def tOr' (t u : GT) : GT := fun ρ m => (t ρ m).bind fun b m => if b = true then .ok true m else u ρ m
def eAnd (a b : G) : G := fun ρ m => (a ρ m).bind fun d m => match d with
  | .bl true => b ρ m
  | .bl false => .ok (.bl false) m
  | _ => .bad
def eOr (a b : G) : G := fun ρ m => (a ρ m).bind fun d m => match d with
  | .bl true => .ok (.bl true) m
  | .bl false => b ρ m
  | _ => .bad
def eNot (a : G) : G := fun ρ m => (a ρ m).bind fun d m => match d with
  | .bl b => .ok (.bl (!b)) m
  | _ => .bad
def eIf (t : GT) (a b : G) : G := fun ρ m => (t ρ m).bind fun k m => if k = true then a ρ m else b ρ m
def chainK (f' : D → D → Mem → Option (D × Mem)) (c : G) (ρ : Env) (y : D) (z : D × Mem) : R D := match z.1 with
  | .bl true => (c ρ z.2).bind fun w m => R.of (f' y w m)
  | .bl false => .ok (.bl false) z.2
  | _ => .bad
def eChain (f f' : D → D → Mem → Option (D × Mem)) (a b c : G) : G := fun ρ m => (a ρ m).bind fun x m => (b ρ m).bind fun y m => (R.of (f x y m)).bind fun z m => chainK f' c ρ y (z, m)
noncomputable def tOfE (g : G) : GT := fun ρ m => gcT m ((g ρ m).bind fun d m => match d with
  | .bl b => .ok b m
  | _ => .bad)
section
variable {X : Cx} {P : Pm} {W : WX} {e a b c : Expr} {es rest : List Expr} {pos : Pos} {ga gb gc g : G} {ta : GA} {t u : GT}
theorem truV_of {α : List Addr} {H : Hp} {m : Mem} {v : V} {d : D} {k : Bool} (hK : P.K = X.K) (rm : RM P α H m) (rv : RD P α H v d) (h : truD d m = some k) : TruV X.K v H k := by
  unfold truD at h
  cases rv with
  | non => cases h; rfl
  | bl b => cases h; rfl
  | int i => cases h; rfl
  | str z =>
    dsimp only at h
    split at h
    · rename_i hz; cases h; exact ⟨hz, rfl⟩
    · cases h
  | @tup a vs ds t rs =>
    cases h
    refine .inr (.inl ⟨vs, by rw [← hK]; exact t, ?_⟩)
    cases rs <;> rfl
  | @fl a vs ds t rs =>
    cases h
    refine .inl ⟨vs, by rw [← hK]; exact t.sql, ?_⟩
    cases rs <;> rfl
  | @ref a n ha =>
    dsimp only at h
    split at h
    · rename_i xs e1
      cases h
      obtain ⟨vs, e2, r⟩ := rm.cell n _ a e1 ha
      exact .inl ⟨vs, SqL.of e2, by cases r <;> rfl⟩
    · rename_i xs e1
      cases h
      obtain ⟨vs, e2, r⟩ := rm.cell n _ a e1 ha
      exact .inr (.inr ⟨vs, e2, by cases r <;> rfl⟩)
    · cases h
theorem dt_tru (hK : P.K = X.K) (ha : PE X a (tE P W g)) (he : ∀ whole, isTrue a X.env whole = (do let v ← whole; standAt a.pos; holding [v] (truthy v)) := by intro _; rfl) : PT X a (tT P W (tTru g)) :=
  (pt_truth ha he).weaken fun σ H Q ⟨α, ρ, m, rm, re, h⟩ => by
    refine tE_bind rm re (h.gcT rm) fun α1 H1 d m1 e1 r1 p1 v rv => ?_
    have p1 := p1.of
    cases et : truD d m1 with
    | none => rw [et] at p1; exact False.elim p1
    | some k =>
      rw [et] at p1
      exact ⟨k, truV_of hK r1 rv et, p1 α1 H1 Ext.refl r1⟩
theorem dt_cmp {op : CmpOp} {f : D → D → Mem → Option (D × Mem)} (ho : OpR X (compareOp op) (rO P f)) (ha : PE X a (tE P W ga)) (hb : PE X b (tE P W gb)) (hm : behindInMarks op b = false := by rfl) : PT X (.Compare a [op] [b] pos) (tT P W (tOp' f ga gb)) :=
  (pt_cmpR ho ha hb hm).weaken fun σ H Q ⟨α, ρ, m, rm, re, h⟩ => by
    refine tE_bind rm re (h.gcT rm) fun α1 H1 d1 m1 e1 r1 p1 v1 rv1 => ?_
    refine tE_bind r1 (re.mono e1) p1 fun α2 H2 d2 m2 e2 r2 p2 v2 rv2 => ?_
    refine ⟨α2, m2, d1, d2, r2, rv1.mono e2, rv2, ?_⟩
    have p2 := p2.of
    cases ef : f d1 d2 m2 with
    | none => rw [ef] at p2; exact False.elim p2
    | some z =>
      rw [ef, Option.bind_some] at p2
      obtain ⟨z, mz⟩ := z
      intro α3 H3 e3 r3 v rv
      cases rv with
      | bl k => exact ⟨k, rfl, p2 α3 H3 e3 r3⟩
      | _ => exact False.elim p2
theorem dt_not (ha : PT X a (tT P W t)) : PT X (.UnaryOp .Not a pos) (tT P W (tNot' t)) :=
  (pt_not ha).weaken fun σ H Q ⟨α, ρ, m, rm, re, h⟩ => by
    refine tT_bind rm re h fun α1 H1 b m1 e1 r1 p1 => ?_
    exact p1 α1 H1 Ext.refl r1
theorem _root_.L2.PW.weaken {t t' : TT} (h : PW X e t) (k : ∀ σ H Q, t' σ H Q → t σ H Q) : PW X e t' := ⟨fun wh pins s σ H Q I q => h.run wh pins s σ H Q I (k _ _ _ q)⟩
theorem dw_and1 (ha : PT X a (tT P W t)) : PW X (.BoolOp .And [a] pos) (tT P W t) := pw_and1 ha
theorem dw_or1 (ha : PT X a (tT P W t)) : PW X (.BoolOp .Or [a] pos) (tT P W t) := pw_or1 ha
theorem dw_and (ha : PT X a (tT P W t)) (hb : PW X (.BoolOp .And (b :: rest) pos) (tT P W u)) : PW X (.BoolOp .And (a :: b :: rest) pos) (tT P W (tAnd' t u)) :=
  (pw_and ha hb).weaken fun σ H Q ⟨α, ρ, m, rm, re, h⟩ => by
    refine tT_bind rm re h fun α1 H1 b m1 e1 r1 p1 => ?_
    cases b with
    | true => exact ⟨α1, ρ, m1, r1, re.mono e1, p1⟩
    | false => exact p1 α1 H1 Ext.refl r1
theorem dw_or (ha : PT X a (tT P W t)) (hb : PW X (.BoolOp .Or (b :: rest) pos) (tT P W u)) : PW X (.BoolOp .Or (a :: b :: rest) pos) (tT P W (tOr' t u)) :=
  (pw_or ha hb).weaken fun σ H Q ⟨α, ρ, m, rm, re, h⟩ => by
    refine tT_bind rm re h fun α1 H1 b m1 e1 r1 p1 => ?_
    cases b with
    | true => exact p1 α1 H1 Ext.refl r1
    | false => exact ⟨α1, ρ, m1, r1, re.mono e1, p1⟩
theorem de_one {op : BoolOp} (h : PE X a (tE P W g)) : PE X (.BoolOp op [a] pos) (tE P W g) := pe_one h
theorem de_and (ha : PE X a (tE P W ga)) (hb : PE X (.BoolOp .And (b :: rest) pos) (tE P W gb)) : PE X (.BoolOp .And (a :: b :: rest) pos) (tE P W (eAnd ga gb)) :=
  (pe_and ha hb).weaken fun σ H Q ⟨α, ρ, m, rm, re, h⟩ => by
    refine tE_bind rm re h fun α1 H1 d m1 e1 r1 p1 v rv => ?_
    cases rv with
    | bl k =>
      cases k with
      | true => exact ⟨true, rfl, α1, ρ, m1, r1, re.mono e1, p1⟩
      | false => exact ⟨false, rfl, p1 α1 H1 Ext.refl r1 _ (.bl false)⟩
    | _ => exact False.elim p1
theorem de_or (ha : PE X a (tE P W ga)) (hb : PE X (.BoolOp .Or (b :: rest) pos) (tE P W gb)) : PE X (.BoolOp .Or (a :: b :: rest) pos) (tE P W (eOr ga gb)) :=
  (pe_or ha hb).weaken fun σ H Q ⟨α, ρ, m, rm, re, h⟩ => by
    refine tE_bind rm re h fun α1 H1 d m1 e1 r1 p1 v rv => ?_
    cases rv with
    | bl k =>
      cases k with
      | true => exact ⟨true, rfl, p1 α1 H1 Ext.refl r1 _ (.bl true)⟩
      | false => exact ⟨false, rfl, α1, ρ, m1, r1, re.mono e1, p1⟩
    | _ => exact False.elim p1
theorem de_not (ha : PE X a (tE P W g)) : PE X (.UnaryOp .Not a pos) (tE P W (eNot g)) :=
  (pe_not ha).weaken fun σ H Q ⟨α, ρ, m, rm, re, h⟩ => by
    refine tE_bind rm re h fun α1 H1 d m1 e1 r1 p1 v rv => ?_
    cases rv with
    | bl k => exact ⟨k, rfl, p1 α1 H1 Ext.refl r1 _ (.bl _)⟩
    | _ => exact False.elim p1
theorem de_if (hc : PT X c (tT P W t)) (ha : PE X a (tE P W ga)) (hb : PE X b (tE P W gb)) : PE X (.IfExp c a b pos) (tE P W (eIf t ga gb)) :=
  (pe_ifExp hc ha hb).weaken fun σ H Q ⟨α, ρ, m, rm, re, h⟩ => by
    refine tT_bind rm re h fun α1 H1 b m1 e1 r1 p1 => ?_
    cases b with
    | true => exact ⟨α1, ρ, m1, r1, re.mono e1, p1⟩
    | false => exact ⟨α1, ρ, m1, r1, re.mono e1, p1⟩
theorem chain_un {f f' : D → D → Mem → Option (D × Mem)} {σ : L2.St} {H : Hp} {Q : VK} {α : List Addr} {ρ : Env} {m : Mem} (rm : RM P α H m) (re : RE P α H ρ σ) (h : Post P W σ α H (eChain f f' ga gb gc ρ m) (wV P Q)) :
    tChain (rO P f) (rO P f') (tE P W ga) (tE P W gb) (tE P W gc) σ H Q := by
  refine tE_bind rm re h fun α1 H1 d1 m1 e1 r1 p1 v1 rv1 => ?_
  refine tE_bind r1 (re.mono e1) p1 fun α2 H2 d2 m2 e2 r2 p2 v2 rv2 => ?_
  refine ⟨α2, m2, d1, d2, r2, rv1.mono e2, rv2, ?_⟩
  cases ef : f d1 d2 m2 with
  | none => rw [ef] at p2; exact False.elim p2
  | some z =>
    rw [ef] at p2
    obtain ⟨z, mz⟩ := z
    intro α3 H3 e3 r3 v rv
    have p3 : Post P W σ α3 H3 (chainK f' gc ρ d2 (z, mz)) (wV P Q) := Post.from p2 e3
    unfold chainK at p3
    cases rv with
    | bl k =>
      refine ⟨k, rfl, ?_⟩
      cases k with
      | true =>
        rw [if_pos rfl]
        refine tE_bind r3 (((re.mono e1).mono e2).mono e3) p3 fun α4 H4 d4 m4 e4 r4 p4 v4 rv4 => ?_
        exact ⟨α4, m4, d2, d4, r4, (rv2.mono e3).mono e4, rv4, p4.of⟩
      | false =>
        rw [if_neg Bool.false_ne_true]
        exact p3 α3 H3 Ext.refl r3 _ (.bl false)
    | _ => exact False.elim p3
theorem de_chain {op op' : CmpOp} {f f' : D → D → Mem → Option (D × Mem)} (ho : OpR X (compareOp op) (rO P f)) (ho' : OpR X (compareOp op') (rO P f')) (ha : PE X a (tE P W ga)) (hb : PE X b (tE P W gb)) (hc : PE X c (tE P W gc))
    (hm : lastMarks [op, op'] [b, c] = false := by with_unfolding_all rfl) : PE X (.Compare a [op, op'] [b, c] pos) (tE P W (eChain f f' ga gb gc)) :=
  (pe_chain ho ho' ha hb hc hm).weaken fun σ H Q ⟨α, ρ, m, rm, re, h⟩ => chain_un rm re h
theorem dt_chain {op op' : CmpOp} {f f' : D → D → Mem → Option (D × Mem)} (ho : OpR X (compareOp op) (rO P f)) (ho' : OpR X (compareOp op') (rO P f')) (ha : PE X a (tE P W ga)) (hb : PE X b (tE P W gb)) (hc : PE X c (tE P W gc))
    (hm : lastMarks [op, op'] [b, c] = false := by with_unfolding_all rfl) : PT X (.Compare a [op, op'] [b, c] pos) (tT P W (tOfE (eChain f f' ga gb gc))) :=
  (pt_chain ho ho' ha hb hc hm).weaken fun σ H Q ⟨α, ρ, m, rm, re, h⟩ => by
    refine chain_un rm re ((h.gcT rm).bind.mono fun α1 H1 d m1 e1 r1 p1 v rv => ?_)
    cases rv with
    | bl k => exact ⟨k, rfl, p1 α1 H1 Ext.refl r1⟩
    | _ => exact False.elim p1
end
end Dw

namespace Dw
open PySem PySem.Spec PyProof.Rows L2

/-! ### 9. targets -/
def gN (i : Nat) : GG := fun d ρ m => .ok (ρ.set i (some d)) m
abbrev GGs := List D → Env → Mem → R Env
def gsNil : GGs := fun ds ρ m => match ds with
  | [] => .ok ρ m
  | _ => .bad
def gsCons (g : GG) (gs : GGs) : GGs := fun ds ρ m => match ds with
  | d :: r => (g d ρ m).bind fun ρ' m' => gs r ρ' m'
  | [] => .bad
def gT (n : Nat) (gs : GGs) : GG := fun d ρ m => match d with
  | .tup ds => if ds.length = n then gs ds ρ m else .bad
  | _ => .bad
def setD (o i d : D) (m : Mem) : Option Mem :=
  match o, i with
  | .ref n, .int k => match m[n]? with
    | some (.lst xs) => (ixN xs.length k).map fun j => m.set n (.lst (xs.set j d))
    | _ => none
  | _, _ => none
def gSb (go gi : G) : GG := fun d ρ m => (go ρ m).bind fun o m1 => (gi ρ m1).bind fun i m2 => match setD o i d m2 with
  | some m3 => .ok ρ m3
  | none => .bad
def tGs (P : Pm) (W : WX) (g : GGs) : TGs := fun vs σ H Q => ∃ α ρ m ds, RM P α H m ∧ RE P α H ρ σ ∧ RDs P α H vs ds ∧ Post P W σ α H (g ds ρ m) fun α' H' ρ' _ => ∀ σ', RE P α' H' ρ' σ' → Q σ' H'
section
variable {X : Cx} {P : Pm} {W : WX} {E : XK} {e a b c : Expr} {es rest : List Expr} {pos : Pos} {ga gb gc g : G} {ta : GA} {t u : GT}
theorem RE.set {α : List Addr} {H : Hp} {ρ : Env} {σ : L2.St} {v : V} {d : D} (re : RE P α H ρ σ) (rv : RD P α H v d) (i : Nat) : RE P α H (ρ.set i (some d)) (σ.set i (some v)) := by
  refine ⟨by rw [List.length_set, List.length_set]; exact re.len, fun j d' h => ?_⟩
  by_cases hj : i = j
  · subst hj
    by_cases hi : i < ρ.length
    · rw [List.getElem?_set_self hi] at h
      cases h
      exact ⟨v, List.getElem?_set_self (by rw [← re.len]; exact hi), rv⟩
    · rw [List.getElem?_eq_none (by rw [List.length_set]; omega)] at h
      cases h
  · rw [List.getElem?_set_ne hj] at h
    rw [List.getElem?_set_ne hj]
    exact re.at_ j d' h
theorem RE.setNone {α : List Addr} {H : Hp} {ρ : Env} {σ : L2.St} (re : RE P α H ρ σ) (i : Nat) : RE P α H (ρ.set i none) (σ.set i none) := by
  refine ⟨by rw [List.length_set, List.length_set]; exact re.len, fun j d' h => ?_⟩
  by_cases hj : i = j
  · subst hj
    by_cases hi : i < ρ.length
    · rw [List.getElem?_set_self hi] at h; cases h
    · rw [List.getElem?_eq_none (by rw [List.length_set]; omega)] at h; cases h
  · rw [List.getElem?_set_ne hj] at h
    rw [List.getElem?_set_ne hj]
    exact re.at_ j d' h
theorem Post.sig {β : Type} {σ σ' : L2.St} {α : List Addr} {H : Hp} {r : R β} {Φ : List Addr → Hp → β → Mem → Prop} (h : Post P (xW E) σ α H r Φ) : Post P (xW E) σ' α H r Φ := by
  cases r <;> exact h
theorem dg_name {i : Nat} {x : Str} (hN : X.N.Nodup) (hi : X.N[i]? = some x) (hx : Loc X.env.scope x) (hf : X.fn x = true ∨ X.env.scope.names.lookup x = some .local) : PG X (.Name x pos) (tG P W (gN i)) :=
  (pg_name hN hi hx hf).weaken fun v σ H Q ⟨α, ρ, m, d, rm, re, rv, h⟩ => h α H Ext.refl rm _ (re.set rv i)
theorem dgs_nil : PGs X [] (tGs P (xW E) gsNil) := by
  have h := pgs_nil (X := X)
  refine ⟨fun pins s σ H vs us Q I r ⟨α, ρ, m, ds, rm, re, rs, q⟩ => h.run pins s σ H vs us Q I r ?_⟩
  unfold gsNil at q
  cases rs with
  | nil => exact ⟨rfl, q α H Ext.refl rm _ re⟩
  | cons _ _ => exact False.elim q
theorem dgs_cons {gg : GG} {gs : GGs} (h1 : PG X e (tG P (xW E) gg)) (h2 : PGs X es (tGs P (xW E) gs)) (hs : (assignEach (e :: es) X.env).map (·.2) = assign e X.env :: (assignEach es X.env).map (·.2) := by rfl) : PGs X (e :: es) (tGs P (xW E) (gsCons gg gs)) := by
  have h := pgs_cons h1 h2 hs
  refine ⟨fun pins s σ H vs us Q I r ⟨α, ρ, m, ds, rm, re, rs, q⟩ => h.run pins s σ H vs us Q I r ?_⟩
  unfold gsCons at q
  cases rs with
  | nil => exact False.elim q
  | cons r0 rs =>
    refine ⟨_, _, rfl, α, ρ, m, _, rm, re, r0, q.bind.mono fun α1 H1 ρ1 m1 e1 r1 p1 σ1 re1 => ?_⟩
    exact ⟨α1, ρ1, m1, _, r1, re1, rs.mono e1, p1.sig⟩
theorem dg_tup {gs : GGs} {k n : Nat} (hK : P.K = X.K) (hc : X.calm = true) (h : PGs X es (tGs P (xW E) gs)) (hn : (assignEach es X.env).length = n := by rfl) (hst : (assignEach es X.env).findIdx? (·.1) = none := by rfl) :
    PG X (.Tuple es k pos) (tG P (xW E) (gT n gs)) :=
  (pg_tup hc h hn hst).weaken fun v σ H Q ⟨α, ρ, m, d, rm, re, rv, q⟩ => by
    unfold gT at q
    cases rv with
    | tup t rs =>
      dsimp only at q
      split at q
      · rename_i hz
        exact ⟨_, _, rfl, by rw [← hK]; exact t, by rw [rs.length]; exact hz, α, ρ, m, _, rm, re, rs, q⟩
      · exact False.elim q
    | _ => exact False.elim q
def rSet (P : Pm) : TSet := fun o i v H Q => ∃ α m d1 d2 d3, RM P α H m ∧ RD P α H o d1 ∧ RD P α H i d2 ∧ RD P α H v d3 ∧ (match setD d1 d2 d3 m with
  | some m' => ∀ α' H', Ext P α H α' H' → RM P α' H' m' → Q H'
  | none => False)
theorem set_D : PSet X (rSet P) := by
  intro pins s σ H o i v ov iv u Q I ro ri rv ⟨α, m, d1, d2, d3, rm, r1, r2, r3, h⟩
  unfold setD at h
  split at h
  · rename_i m' hm
    split at hm
    · rename_i n k
      cases r2
      cases r1 with
      | @ref a n ha =>
        split at hm
        · rename_i xs e1
          cases e2 : ixN xs.length k with
          | none => rw [e2] at hm; cases hm
          | some j =>
            rw [e2] at hm
            cases hm
            obtain ⟨vs, e3, rs⟩ := rm.cell n _ a e1 ha
            refine set_list pins s σ H _ _ v ov iv u Q I ro ri rv ⟨a, vs, k, j, rfl, rfl, e3, by rw [rs.length]; exact e2, ?_⟩
            have ex : Ext P α H α (upd H a (.lst (vs.set j v))) := Ext.write (List.mem_of_getElem? ha) (by rw [e3]; trivial)
            exact h α _ ex (rm.write ha ⟨_, upd_same, (rs.set r3 j).mono ex⟩)
        · cases hm
    · cases hm
  · exact False.elim h
theorem dg_sub {o i : Expr} {go gi : G} (ho : PE X o (tE P (xW E) go)) (hi : PE X i (tE P (xW E) gi))
    (ha : ∀ v, assign (.Subscript o i pos) X.env v = (do
      let ov ← holding [v] (eval o X.env)
      let iv ← holding [v, ov] (eval i X.env)
      standAt pos
      holding [v, ov, iv] (setItem ov iv v)
      release [v, ov, iv] []) := by intro _; rfl) : PG X (.Subscript o i pos) (tG P (xW E) (gSb go gi)) :=
  (pg_sub ho hi (set_D (P := P)) ha).weaken fun v σ H Q ⟨α, ρ, m, d, rm, re, rv, q⟩ => by
    refine tE_bind rm re q fun α1 H1 d1 m1 e1 r1 p1 v1 rv1 => ?_
    refine tE_bind r1 (re.mono e1) p1 fun α2 H2 d2 m2 e2 r2 p2 v2 rv2 => ?_
    refine ⟨α2, m2, d1, d2, d, r2, rv1.mono e2, rv2, (rv.mono e1).mono e2, ?_⟩
    cases es : setD d1 d2 d m2 with
    | none => rw [es] at p2; exact p2
    | some m3 =>
      rw [es] at p2
      exact fun α3 H3 e3 r3 => p2 α3 H3 e3 r3 σ (((re.mono e1).mono e2).mono e3)

/-! ### 10. statements -/
def tS (P : Pm) (E : XK) (g : GS) : TS := fun D σ H => ∃ α ρ m, RM P α H m ∧ RE P α H ρ σ ∧ Post P (xW E) σ α H (g ρ m) fun α' H' f _ => flD P D α' H' f
def sNil : GS := fun ρ m => .ok (.nx ρ) m
def contK (b : GS) (f : Fl) (m : Mem) : R Fl := match f with
  | .nx ρ => b ρ m
  | .ret d => .ok (.ret d) m
  | .brk ρ => .ok (.brk ρ) m
  | .cnt ρ => .ok (.cnt ρ) m
def sSeq (a b : GS) : GS := fun ρ m => (a ρ m).bind fun f m => contK b f m
def sBrk : GS := fun ρ m => .ok (.brk ρ) m
def sCnt : GS := fun ρ m => .ok (.cnt ρ) m
def sRet (g : G) : GS := fun ρ m => (g ρ m).bind fun d m => .ok (.ret d) m
def sRetN : GS := fun ρ m => .ok (.ret .non) m
def sExpr (g : G) : GS := fun ρ m => (g ρ m).bind fun _ m => .ok (.nx ρ) m
def sAsg (g : G) (t : GG) : GS := fun ρ m => (g ρ m).bind fun d m => (t d ρ m).bind fun ρ m => .ok (.nx ρ) m
def sPar (i j : Nat) (a b : G) : GS := fun ρ m => (a ρ m).bind fun x m => (b ρ m).bind fun y m => .ok (.nx ((ρ.set i (some x)).set j (some y))) m
def sIf (t : GT) (a b : GS) : GS := fun ρ m => (t ρ m).bind fun k m => if k = true then a ρ m else b ρ m
def sAug (f : D → D → Mem → Option (D × Mem)) (i : Nat) (g : G) : GS := fun ρ m => (eVar i ρ m).bind fun x m => (g ρ m).bind fun y m => (R.of (f x y m)).bind fun z m => .ok (.nx (ρ.set i (some z))) m
theorem ds_nil : PSs X [] (tS P E sNil) := pss_nil.weaken fun D σ H ⟨α, ρ, m, rm, re, q⟩ => q α H Ext.refl rm _ re
theorem ds_pass : PS X (.Pass pos) (tS P E sNil) := ps_pass.weaken fun D σ H ⟨α, ρ, m, rm, re, q⟩ => q α H Ext.refl rm _ re
theorem ds_doc {x : Str} {j : Nat} {p : Pos} : PS X (.Expr (.Constant (.str x) j p) pos) (tS P E sNil) := ps_doc.weaken fun D σ H ⟨α, ρ, m, rm, re, q⟩ => q α H Ext.refl rm _ re
theorem ds_break : PS X (.Break pos) (tS P E sBrk) := ps_break.weaken fun D σ H ⟨α, ρ, m, rm, re, q⟩ => q α H Ext.refl rm _ re
theorem ds_continue : PS X (.Continue pos) (tS P E sCnt) := ps_continue.weaken fun D σ H ⟨α, ρ, m, rm, re, q⟩ => q α H Ext.refl rm _ re
theorem ds_cons {st : Stmt} {sts : List Stmt} {g1 g2 : GS} (h1 : PS X st (tS P E g1)) (h2 : PSs X sts (tS P E g2)) : PSs X (st :: sts) (tS P E (sSeq g1 g2)) :=
  (pss_cons h1 h2).weaken fun D σ H ⟨α, ρ, m, rm, re, q⟩ => by
    refine ⟨α, ρ, m, rm, re, q.bind.mono fun α1 H1 f m1 e1 r1 p1 => ?_⟩
    unfold contK at p1
    cases f with
    | nx ρ1 => exact fun σ1 re1 => ⟨α1, ρ1, m1, r1, re1, p1.sig⟩
    | ret d => exact p1 α1 H1 Ext.refl r1
    | brk ρ1 => exact p1 α1 H1 Ext.refl r1
    | cnt ρ1 => exact p1 α1 H1 Ext.refl r1
theorem ds_one {st : Stmt} {g1 : GS} (h1 : PS X st (tS P E g1)) : PSs X [st] (tS P E g1) := pss_one h1
theorem ds_expr (he : PE X e (tE P (xW E) g)) (hs : swapsWith e none pos.line X.env = pure false := by rfl) : PS X (.Expr e pos) (tS P E (sExpr g)) :=
  (ps_expr he hs).weaken fun D σ H ⟨α, ρ, m, rm, re, q⟩ => by
    refine tE_bind rm re q fun α1 H1 d m1 e1 r1 p1 v rv => ?_
    exact p1 α1 H1 Ext.refl r1 σ (re.mono e1)
theorem ds_ret (he : PE X e (tE P (xW E) g)) : PS X (.Return (some e) pos) (tS P E (sRet g)) :=
  (ps_ret he).weaken fun D σ H ⟨α, ρ, m, rm, re, q⟩ => by
    refine tE_bind rm re q fun α1 H1 d m1 e1 r1 p1 v rv => ?_
    exact p1 α1 H1 Ext.refl r1 v rv
theorem ds_retN : PS X (.Return none pos) (tS P E sRetN) := ps_retN.weaken fun D σ H ⟨α, ρ, m, rm, re, q⟩ => q α H Ext.refl rm _ .non
theorem ds_asg {tg : Expr} {gg : GG} (he : PE X e (tE P (xW E) g)) (hg : PG X tg (tG P (xW E) gg)) (hs : swapsWithSole [tg] e pos.line X.env = pure false := by rfl) (hw : swappedStores [tg] e X.env = pure none := by rfl)
    (h1 : (assignEach [tg] X.env).map (·.2) = [assign tg X.env] := by rfl) : PS X (.Assign [tg] e pos) (tS P E (sAsg g gg)) :=
  (ps_asg he hg hs hw h1).weaken fun D σ H ⟨α, ρ, m, rm, re, q⟩ => by
    refine tE_bind rm re q fun α1 H1 d m1 e1 r1 p1 v rv => ?_
    refine ⟨α1, ρ, m1, d, r1, re.mono e1, rv, p1.bind.mono fun α2 H2 ρ2 m2 e2 r2 p2 σ2 re2 => ?_⟩
    exact p2 α2 H2 Ext.refl r2 σ2 re2
theorem ds_set {i : Nat} {x : Str} {pos' : Pos} (hN : X.N.Nodup) (hi : X.N[i]? = some x) (hx : Loc X.env.scope x) (he : PE X e (tE P (xW E) g)) (hf : X.fn x = true ∨ X.env.scope.names.lookup x = some .local) (hs : swapsWith e (some (.Name x pos')) pos.line X.env = pure false := by rfl) :
    PS X (.Assign [.Name x pos'] e pos) (tS P E (sAsg g (gN i))) :=
  (ps_set hN hi hx he hs hf).weaken fun D σ H ⟨α, ρ, m, rm, re, q⟩ => by
    refine tE_bind rm re q fun α1 H1 d m1 e1 r1 p1 v rv => ?_
    exact p1 α1 H1 Ext.refl r1 _ ((re.mono e1).set rv i)
theorem ds_par {i j : Nat} {x y : Str} {a b : Expr} {px py pt : Pos} {kt k2 : Nat} {pt2 : Pos} (hc : X.calm = true) (hN : X.N.Nodup) (hi : X.N[i]? = some x) (hj : X.N[j]? = some y) (hij : i ≠ j)
    (hx : X.env.scope.names.lookup x = some .local) (hy : X.env.scope.names.lookup y = some .local) (ha : PE X a (tE P (xW E) ga)) (hb : PE X b (tE P (xW E) gb))
    (hw : swappedStores [.Tuple [.Name x px, .Name y py] kt pt] (.Tuple [a, b] k2 pt2) X.env = pure (some [x, y]))
    (hs1 : starEach [a, b] X.env = (false, eval a X.env) :: starEach [b] X.env := by rfl) (hs2 : starEach [b] X.env = (false, eval b X.env) :: starEach [] X.env := by rfl)
    (hs : swapsWithSole [.Tuple [.Name x px, .Name y py] kt pt] (.Tuple [a, b] k2 pt2) pos.line X.env = pure false := by rfl) :
    PS X (.Assign [.Tuple [.Name x px, .Name y py] kt pt] (.Tuple [a, b] k2 pt2) pos) (tS P E (sPar i j ga gb)) :=
  (ps_par hc hN hi hj hij hx hy (pa_cons ha (pa_cons hb pa_nil hs2) hs1) hw hs).weaken fun D σ H ⟨α, ρ, m, rm, re, q⟩ => by
    refine tE_bind rm re q fun α1 H1 d1 m1 e1 r1 p1 v1 rv1 => ?_
    refine tE_bind r1 (re.mono e1) p1 fun α2 H2 d2 m2 e2 r2 p2 v2 rv2 => ?_
    exact ⟨v1, v2, rfl, p2 α2 H2 Ext.refl r2 _ ((((re.mono e1).mono e2).set (rv1.mono e2) i).set rv2 j)⟩
theorem ds_if {c : Expr} {a b : List Stmt} {g1 g2 : GS} (hc : PT X c (tT P (xW E) t)) (ha : PSs X a (tS P E g1)) (hb : PSs X b (tS P E g2)) : PS X (.If c a b pos) (tS P E (sIf t g1 g2)) :=
  (ps_if hc ha hb).weaken fun D σ H ⟨α, ρ, m, rm, re, q⟩ => by
    refine tT_bind rm re q fun α1 H1 k m1 e1 r1 p1 => ?_
    cases k with
    | true => exact ⟨α1, ρ, m1, r1, re.mono e1, p1⟩
    | false => exact ⟨α1, ρ, m1, r1, re.mono e1, p1⟩
def rIp (P : Pm) (f : D → D → Mem → Option (D × Mem)) : TIp := rO P f
theorem ds_aug {i : Nat} {x : Str} {op : Operator} {f : D → D → Mem → Option (D × Mem)} {pos' : Pos} (hN : X.N.Nodup) (hi : X.N[i]? = some x) (hx : Loc X.env.scope x) (he : PE X e (tE P (xW E) g)) (ho : PIp X op (rO P f)) (hf : X.fn x = true ∨ X.env.scope.names.lookup x = some .local) :
    PS X (.AugAssign (.Name x pos') op e pos) (tS P E (sAug f i g)) :=
  (ps_aug hN hi hx he ho hf).weaken fun D σ H ⟨α, ρ, m, rm, re, q⟩ => by
    have q0 : Post P (xW E) σ α H ((eVar i ρ m).bind fun x m => (g ρ m).bind fun y m => (R.of (f x y m)).bind fun z m => .ok (.nx (ρ.set i (some z))) m) (fun α' H' f _ => flD P D α' H' f) := q
    unfold eVar at q0
    cases ei : ρ[i]? with
    | none => rw [ei] at q0; exact False.elim q0
    | some o =>
      cases o with
      | none => rw [ei] at q0; exact False.elim q0
      | some d =>
        rw [ei] at q0
        obtain ⟨v, h1, h2⟩ := re.at_ i d ei
        refine ⟨v, h1, ?_⟩
        refine tE_bind rm re q0 fun α1 H1 d1 m1 e1 r1 p1 v1 rv1 => ?_
        refine ⟨α1, m1, d, d1, r1, h2.mono e1, rv1, ?_⟩
        cases ef : f d d1 m1 with
        | none => rw [ef] at p1; exact False.elim p1
        | some z =>
          rw [ef] at p1
          obtain ⟨z, mz⟩ := z
          intro α2 H2 e2 r2 v2 rv2
          exact p1 α2 H2 e2 r2 _ (((re.mono e1).mono e2).set rv2 i)
def iaddD (x y : D) (m : Mem) : Option (D × Mem) :=
  match x, y with
  | .int i, .int j => some (.int (i + j), m)
  | _, _ => none
theorem ip_addD : PIp X .Add (rO P iaddD) := by
  intro pins s σ H x y v u Q I rx ry ⟨α, m, dx, dy, rm, r1, r2, h⟩
  unfold iaddD at h
  split at h
  · cases r1; cases r2
    exact ip_add pins s σ H _ _ v u Q I rx ry ⟨_, _, rfl, rfl, h α H Ext.refl rm _ (.int _)⟩
  · exact False.elim h
theorem ip_subD : PIp X .Sub (rO P subD) := by
  intro pins s σ H x y v u Q I rx ry ⟨α, m, dx, dy, rm, r1, r2, h⟩
  unfold subD at h
  split at h
  · cases r1; cases r2
    exact ip_sub pins s σ H _ _ v u Q I rx ry ⟨_, _, rfl, rfl, h α H Ext.refl rm _ (.int _)⟩
  · exact False.elim h

/-! ### 11. loops -/
structure Itn where
  items : List D
  live : List (Nat × List D)
def LiveOk (m : Mem) (l : List (Nat × List D)) : Prop := ∀ p ∈ l, lstOf m p.1 = some p.2
structure ItOk (P : Pm) (α : List Addr) (H : Hp) (J : It) (it : Itn) : Prop where
  go : ∀ i α1 H1 m d, Ext P α H α1 H1 → RM P α1 H1 m → LiveOk m it.live → it.items[i]? = some d → J.go i H1 ∧ ∀ v H2, J.yld i H1 v H2 → Ext P α1 H1 α1 H2 ∧ RM P α1 H2 m ∧ RD P α1 H2 v d ∧ ∀ b o, H1 b = some o → H2 b = some o
  stop : ∀ i α1 H1 m, Ext P α H α1 H1 → RM P α1 H1 m → LiveOk m it.live → it.items.length ≤ i → J.stop i H1
abbrev GI := Env → Mem → R Itn
def iD (P : Pm) (W : WX) (gi : GI) : TI := fun σ H R => ∃ α ρ m, RM P α H m ∧ RE P α H ρ σ ∧ Post P W σ α H (gi ρ m) fun α' H' it _ => ∀ J, ItOk P α' H' J it → R J H'
open Classical in
noncomputable def forG (l : List (Nat × List D)) (tg : GG) (body : GS) : List D → Env → Mem → R Fl
  | [], ρ, m => if LiveOk m l then .ok (.nx ρ) m else .bad
  | x :: xs, ρ, m => if LiveOk m l then (gcF m ((tg x ρ m).bind fun ρ1 m1 => body ρ1 m1)).bind fun f m2 => match f with
      | .nx ρ2 => forG l tg body xs ρ2 m2
      | .cnt ρ2 => forG l tg body xs ρ2 m2
      | .brk ρ2 => .ok (.nx ρ2) m2
      | .ret d => .ok (.ret d) m2
    else .bad
noncomputable def sFor (gi : GI) (tg : GG) (body : GS) : GS := fun ρ m => (gi ρ m).bind fun it m1 => forG it.live tg body it.items ρ m1
theorem Post.gcF {σ : L2.St} {α : List Addr} {H : Hp} {m : Mem} {r : R Fl} {Ψ : List Addr → Hp → Fl → Mem → Prop} (rm : RM P α H m) (h : Post P W σ α H (gcF m r) Ψ)
    (ks : ∀ γ H' f m', Ext P α H (α ++ γ) H' → RM P (α ++ γ) H' m' → Fl.fits α.length f = true → RM P α H' (m'.take m.length) → Ext P α H α H' → Ψ α H' f (m'.take m.length) → Ψ (α ++ γ) H' f m') : Post P W σ α H r Ψ :=
  Post.gc rm h (fun _ _ _ _ _ _ q => q) ks
theorem ds_for {tg iter : Expr} {body : List Stmt} {gi : GI} {gg : GG} {gb : GS} (hp : PassesOwn (model X.prog X.w) X.A X.env X.xe) (hc : X.calm = true) (hi : PI X tg iter (iD P (xW E) gi)) (hg : PG X tg (tG P (xW E) gg)) (hb : PSs X body (tS P E gb)) (hs : ∀ x, foldedSetIterable iter X.env x = pure x := by intro _; rfl) :
    PS X (.For tg iter body [] pos) (tS P E (sFor gi gg gb)) :=
  (ps_for hp hc hi hg hb hs).weaken fun D σ H ⟨α, ρ, m, rm, re, q⟩ => by
    refine ⟨α, ρ, m, rm, re, q.bind.mono fun α1 H1 it m1 e1 r1 p1 J ok => ?_⟩
    refine ⟨fun i k σ H => k = it.items.length - i ∧ i ≤ it.items.length ∧ ∃ α' ρ m, Ext P α1 H1 α' H ∧ RM P α' H m ∧ RE P α' H ρ σ ∧ Post P (xW E) σ α' H (forG it.live gg gb (it.items.drop i) ρ m) (fun α' H' f _ => flD P D α' H' f),
      ⟨it.items.length, by omega, by omega, α1, ρ, m1, Ext.refl, r1, re.mono e1, by rw [List.drop_zero]; exact p1⟩, ?_⟩
    rintro i k σ2 H2 ⟨rfl, hi, α2, ρ2, m2, e2, r2, re2, p2⟩
    by_cases hlt : i < it.items.length
    · obtain ⟨d, hd⟩ : ∃ d, it.items[i]? = some d := ⟨it.items[i], List.getElem?_eq_getElem hlt⟩
      have hdrop : it.items.drop i = d :: it.items.drop (i + 1) := by
        rw [List.drop_eq_getElem_cons hlt]
        rw [List.getElem?_eq_getElem hlt] at hd
        rw [Option.some.inj hd]
      rw [hdrop] at p2
      unfold forG at p2
      split at p2
      · rename_i hl
        obtain ⟨g1, g2⟩ := ok.go i α2 H2 m2 d e2 r2 hl hd
        refine .inr ⟨g1, fun σ' H' => ∃ k', k' < it.items.length - i ∧ (k' = it.items.length - (i + 1) ∧ i + 1 ≤ it.items.length ∧ ∃ α' ρ m, Ext P α1 H1 α' H' ∧ RM P α' H' m ∧ RE P α' H' ρ σ' ∧ Post P (xW E) σ' α' H' (forG it.live gg gb (it.items.drop (i + 1)) ρ m) (fun α' H' f _ => flD P D α' H' f)),
          fun σ' H' h => h, fun v H3 y => ?_⟩
        obtain ⟨e3, r3, rv, _⟩ := g2 v H3 y
        have p3 := Post.gcF (Ψ := fun α' H' f m' => match f with
            | .nx ρ' => ∀ σ', RE P α' H' ρ' σ' → ∃ α2 m, Ext P α1 H1 α2 H' ∧ RM P α2 H' m ∧ RE P α2 H' ρ' σ' ∧ Post P (xW E) σ' α2 H' (forG it.live gg gb (it.items.drop (i + 1)) ρ' m) (fun α' H' f _ => flD P D α' H' f)
            | .cnt ρ' => ∀ σ', RE P α' H' ρ' σ' → ∃ α2 m, Ext P α1 H1 α2 H' ∧ RM P α2 H' m ∧ RE P α2 H' ρ' σ' ∧ Post P (xW E) σ' α2 H' (forG it.live gg gb (it.items.drop (i + 1)) ρ' m) (fun α' H' f _ => flD P D α' H' f)
            | .brk ρ' => ∀ σ', RE P α' H' ρ' σ' → D.nx σ' H'
            | .ret d => ∀ v, RD P α' H' v d → D.rt v H') r3 ((p2.bind.mono fun α' H' f m' e' r' p => by
          cases f with
          | nx ρ' => exact fun σ' re' => ⟨α', m', e2.trans e', r', re', p.sig⟩
          | cnt ρ' => exact fun σ' re' => ⟨α', m', e2.trans e', r', re', p.sig⟩
          | brk ρ' => exact fun σ' re' => p α' H' Ext.refl r' σ' re'
          | ret d => exact p α' H' Ext.refl r').from e3) (fun γ H' f m' e' r' hf r'' e'' p => by
          cases f with
          | nx ρ' => exact fun σ' re' => p σ' (re'.shrink hf)
          | cnt ρ' => exact fun σ' re' => p σ' (re'.shrink hf)
          | brk ρ' => exact fun σ' re' => p σ' (re'.shrink hf)
          | ret d => exact fun v rv => p v (rv.shrink hf))
        refine ⟨α2, ρ2, m2, d, r3, re2.mono e3, rv, p3.bind.mono fun α4 H4 ρ4 m4 e4 r4 p4 σ4 re4 => ?_⟩
        refine ⟨α4, ρ4, m4, r4, re4, p4.sig.mono fun α5 H5 f m5 e5 r5 p5 => ?_⟩
        have fin : ∀ {ρ' : Env}, (∀ σ', RE P α5 H5 ρ' σ' → ∃ α2 m, Ext P α1 H1 α2 H5 ∧ RM P α2 H5 m ∧ RE P α2 H5 ρ' σ' ∧ Post P (xW E) σ' α2 H5 (forG it.live gg gb (it.items.drop (i + 1)) ρ' m) (fun α' H' f _ => flD P D α' H' f)) →
            ∀ σ', RE P α5 H5 ρ' σ' → ∃ k', k' < it.items.length - i ∧ (k' = it.items.length - (i + 1) ∧ i + 1 ≤ it.items.length ∧ ∃ α' ρ m, Ext P α1 H1 α' H5 ∧ RM P α' H5 m ∧ RE P α' H5 ρ σ' ∧ Post P (xW E) σ' α' H5 (forG it.live gg gb (it.items.drop (i + 1)) ρ m) (fun α' H' f _ => flD P D α' H' f)) := fun {ρ'} h σ' re' => by
          obtain ⟨a6, m6, x1, x2, x3, x4⟩ := h σ' re'
          exact ⟨_, by omega, rfl, by omega, a6, ρ', m6, x1, x2, x3, x4⟩
        cases f with
        | nx ρ' => exact fin p5
        | cnt ρ' => exact fin p5
        | brk ρ' => exact p5
        | ret d => exact p5
      · exact False.elim p2
    · have hi2 : it.items.length ≤ i := Nat.le_of_not_lt hlt
      rw [List.drop_eq_nil_of_le hi2] at p2
      unfold forG at p2
      split at p2
      · rename_i hl
        exact .inl ⟨ok.stop i α2 H2 m2 e2 r2 hl hi2, p2 α2 H2 Ext.refl r2 σ2 re2⟩
      · exact False.elim p2
/-! while -/
noncomputable def whileG (t : GT) (body : GS) : Nat → Env → Mem → R Fl
  | 0, _, _ => .bad
  | k + 1, ρ, m => (t ρ m).bind fun b m1 => if b = true then (gcF m1 (body ρ m1)).bind fun f m2 => match f with
      | .nx ρ2 => whileG t body k ρ2 m2
      | .cnt ρ2 => whileG t body k ρ2 m2
      | .brk ρ2 => .ok (.nx ρ2) m2
      | .ret d => .ok (.ret d) m2
    else .ok (.nx ρ) m1
@[irreducible] def whileTop : Nat := 18446744073709551616
noncomputable def sWhile (t : GT) (body : GS) : GS := fun ρ m => whileG t body whileTop ρ m
theorem ds_while {c : Expr} {body : List Stmt} {gb : GS} (hp : PassesOwn (model X.prog X.w) X.A X.env X.xe) (hc : PT X c (tT P (xW E) t)) (hb : PSs X body (tS P E gb)) : PS X (.While c body [] pos) (tS P E (sWhile t gb)) :=
  (ps_while hp hc hb).weaken fun D σ H ⟨α, ρ, m, rm, re, q⟩ => by
    refine ⟨fun k σ H => ∃ α ρ m, RM P α H m ∧ RE P α H ρ σ ∧ Post P (xW E) σ α H (whileG t gb k ρ m) (fun α' H' f _ => flD P D α' H' f), ⟨whileTop, α, ρ, m, rm, re, q⟩, ?_⟩
    rintro k σ1 H1 ⟨α1, ρ1, m1, r1, re1, p1⟩
    cases k with
    | zero => exact False.elim p1
    | succ k =>
      unfold whileG at p1
      refine tT_bind r1 re1 p1 fun α2 H2 b m2 e2 r2 p2 => ?_
      cases b with
      | false =>
        rw [if_neg Bool.false_ne_true] at p2 ⊢
        exact p2 α2 H2 Ext.refl r2 _ (re1.mono e2)
      | true =>
        rw [if_pos rfl] at p2 ⊢
        refine ⟨fun σ' H' => ∃ α ρ m, RM P α H' m ∧ RE P α H' ρ σ' ∧ Post P (xW E) σ' α H' (whileG t gb k ρ m) (fun α' H' f _ => flD P D α' H' f), fun σ' H' h => ⟨k, by omega, h⟩, ?_⟩
        have p3 := Post.gcF (Ψ := fun α' H' f m' => match f with
            | .nx ρ' => ∀ σ', RE P α' H' ρ' σ' → ∃ α2 m, RM P α2 H' m ∧ RE P α2 H' ρ' σ' ∧ Post P (xW E) σ' α2 H' (whileG t gb k ρ' m) (fun α' H' f _ => flD P D α' H' f)
            | .cnt ρ' => ∀ σ', RE P α' H' ρ' σ' → ∃ α2 m, RM P α2 H' m ∧ RE P α2 H' ρ' σ' ∧ Post P (xW E) σ' α2 H' (whileG t gb k ρ' m) (fun α' H' f _ => flD P D α' H' f)
            | .brk ρ' => ∀ σ', RE P α' H' ρ' σ' → D.nx σ' H'
            | .ret d => ∀ v, RD P α' H' v d → D.rt v H') r2 (p2.bind.mono fun α' H' f m' e' r' p => by
          cases f with
          | nx ρ' => exact fun σ' re' => ⟨α', m', r', re', p.sig⟩
          | cnt ρ' => exact fun σ' re' => ⟨α', m', r', re', p.sig⟩
          | brk ρ' => exact fun σ' re' => p α' H' Ext.refl r' σ' re'
          | ret d => exact p α' H' Ext.refl r') (fun γ H' f m' e' r' hf r'' e'' p => by
          cases f with
          | nx ρ' => exact fun σ' re' => p σ' (re'.shrink hf)
          | cnt ρ' => exact fun σ' re' => p σ' (re'.shrink hf)
          | brk ρ' => exact fun σ' re' => p σ' (re'.shrink hf)
          | ret d => exact fun v rv => p v (rv.shrink hf))
        refine ⟨α2, ρ1, m2, r2, re1.mono e2, p3.mono fun α5 H5 f m5 e5 r5 p5 => ?_⟩
        cases f with
        | nx ρ' => exact fun σ' re' => let ⟨a, m, x⟩ := p5 σ' re'; ⟨a, ρ', m, x⟩
        | cnt ρ' => exact fun σ' re' => let ⟨a, m, x⟩ := p5 σ' re'; ⟨a, ρ', m, x⟩
        | brk ρ' => exact p5
        | ret d => exact p5
end
end Dw

namespace Dw
open PySem PySem.Spec PyProof.Rows L2

/-! ### 12. what is walked -/
def iSeq (g : G) : GI := fun ρ m => (g ρ m).bind fun d m => match d with
  | .tup xs => .ok ⟨xs, []⟩ m
  | .ref n => match lstOf m n with
    | some xs => .ok ⟨xs, [(n, xs)]⟩ m
    | none => .bad
  | .str z => .ok ⟨z.cps.toList.map fun c => .str ⟨#[c]⟩, []⟩ m
  | _ => .bad
def rngD (lo : Int) (n : Nat) : List D := (List.range n).map fun (k : Nat) => D.int (lo + (k : Int))
def iRg1 (a : G) : GI := fun ρ m => (a ρ m).bind fun d m => match d with
  | .int j => if -(2 ^ 62) ≤ j ∧ j < 2 ^ 62 then .ok ⟨rngD 0 j.toNat, []⟩ m else .bad
  | _ => .bad
def rg2 (d e : D) (m : Mem) : R Itn := match d, e with
  | .int i, .int j => if -(2 ^ 62) ≤ i ∧ i < 2 ^ 62 ∧ -(2 ^ 62) ≤ j ∧ j < 2 ^ 62 then .ok ⟨rngD i (j - i).toNat, []⟩ m else .bad
  | _, _ => .bad
def iRg2 (a b : G) : GI := fun ρ m => (a ρ m).bind fun d m => (b ρ m).bind fun e m => rg2 d e m
def zip2 (d e : D) (m : Mem) : R Itn := match d, e with
  | .tup xs, .tup ys => .ok ⟨(xs.zip ys).map fun p => .tup [p.1, p.2], []⟩ m
  | .ref i, .ref j => match lstOf m i, lstOf m j with
    | some xs, some ys => .ok ⟨(xs.zip ys).map fun p => .tup [p.1, p.2], [(i, xs), (j, ys)]⟩ m
    | _, _ => .bad
  | _, _ => .bad
def iZip (a b : G) : GI := fun ρ m => (a ρ m).bind fun d m => (b ρ m).bind fun e m => zip2 d e m
section
variable {X : Cx} {P : Pm} {W : WX} {E : XK} {tg e e2 a b : Expr} {es : List Expr} {pos p tpos : Pos} {ga g : G} {ta : GA}
theorem _root_.L2.PI.weaken {w w' : TI} (h : PI X tg e w) (k : ∀ σ H R, w' σ H R → w σ H R) : PI X tg e w' := ⟨fun pins s σ H R I q => h.run pins s σ H R I (k _ _ _ q)⟩
theorem _root_.L2.PI.or {w w' : TI} (h : PI X tg e w) (h' : PI X tg e w') : PI X tg e fun σ H R => w σ H R ∨ w' σ H R := ⟨fun pins s σ H R I q => q.elim (h.run pins s σ H R I) (h'.run pins s σ H R I)⟩
theorem di_seq (hK : P.K = X.K) (he : PE X e (tE P W g)) : PI X tg e (iD P W (iSeq g)) :=
  (((pi_list he).or (pi_tup he)).or (pi_str he)).weaken fun σ H Q ⟨α, ρ, m, rm, re, h⟩ => by
    unfold iSeq at h
    cases hg : g ρ m with
    | bad => rw [hg] at h; exact False.elim h
    | exc c fs m1 => exact .inl (.inl ⟨α, ρ, m, rm, re, by rw [hg] at h ⊢; exact h⟩)
    | ok d m1 =>
      rw [hg] at h
      cases d with
      | tup xs =>
        refine .inl (.inr ⟨α, ρ, m, rm, re, ?_⟩)
        rw [hg]
        intro α1 H1 e1 r1 v rv
        cases rv with
        | @tup ad vs ds t rs =>
          have t' : SqT X.K H1 ad vs := by rw [← hK]; exact t
          refine ⟨ad, rfl, ⟨vs, t'⟩, h α1 H1 e1 r1 _ ⟨fun i α2 H2 m2 d e2 r2 l hd => ?_, fun i α2 H2 m2 e2 r2 l hi => ?_⟩⟩
          · have t2 : SqT X.K H2 ad vs := by have := e2.tup _ _ t; rw [hK] at this; exact this
            obtain ⟨v, h3, h4⟩ := rs.get hd
            refine ⟨⟨vs, v, t2, h3⟩, fun w H3 y => ?_⟩
            obtain ⟨rfl, y⟩ := y
            have z := y vs t2
            rw [h3] at z
            cases z
            exact ⟨Ext.refl, r2, h4.mono e2, fun _ _ h => h⟩
          · have t2 : SqT X.K H2 ad vs := by have := e2.tup _ _ t; rw [hK] at this; exact this
            exact ⟨vs, t2, by rw [rs.length]; exact hi⟩
      | ref n =>
        dsimp only [Dw.R.bind_ok] at h
        cases hl : lstOf m1 n with
        | none => rw [hl] at h; exact False.elim h
        | some xs =>
          rw [hl] at h
          refine .inl (.inl ⟨α, ρ, m, rm, re, ?_⟩)
          rw [hg]
          intro α1 H1 e1 r1 v rv
          cases rv with
          | @ref ad n ha =>
            obtain ⟨vs, q1, q2⟩ := r1.sql hl ha
            refine ⟨ad, rfl, ⟨vs, by rw [← hK]; exact q1⟩, h α1 H1 e1 r1 _ ?_⟩
            have get : ∀ α2 H2 m, Ext P α1 H1 α2 H2 → RM P α2 H2 m → LiveOk m [(n, xs)] → ∃ vs, SqL X.K H2 ad vs ∧ RDs P α2 H2 vs xs := fun α2 H2 m e r l => by
              obtain ⟨vs, h1, h2⟩ := r.sql (l _ (List.mem_singleton.mpr rfl)) (e.at_ ha)
              exact ⟨vs, by rw [← hK]; exact h1, h2⟩
            refine ⟨fun i α2 H2 m2 d e2 r2 l hd => ?_, fun i α2 H2 m2 e2 r2 l hi => ?_⟩
            · obtain ⟨vs, h1, h2⟩ := get α2 H2 m2 e2 r2 l
              obtain ⟨v, h3, h4⟩ := h2.get hd
              refine ⟨⟨vs, v, h1, h3⟩, fun w H3 y => ?_⟩
              obtain ⟨rfl, y⟩ := y
              have z := y vs h1
              rw [h3] at z
              cases z
              exact ⟨Ext.refl, r2, h4, fun _ _ h => h⟩
            · obtain ⟨vs, h1, h2⟩ := get α2 H2 m2 e2 r2 l
              exact ⟨vs, h1, by rw [h2.length]; exact hi⟩
      | str z =>
        refine .inr ⟨α, ρ, m, rm, re, ?_⟩
        rw [hg]
        intro α1 H1 e1 r1 v rv
        cases rv with
        | str z =>
          refine ⟨z, rfl, h α1 H1 e1 r1 _ ⟨fun i α2 H2 m2 d e2 r2 l hd => ?_, fun i α2 H2 m2 e2 r2 l hi => ?_⟩⟩
          · rw [List.getElem?_map, Array.getElem?_toList] at hd
            cases hc : z.cps[i]? with
            | none => rw [hc] at hd; cases hd
            | some c =>
              rw [hc] at hd
              cases hd
              refine ⟨(Array.getElem?_eq_some_iff.mp hc).1, fun w H3 y => ?_⟩
              obtain ⟨rfl, c', hc', rfl⟩ := y
              rw [hc] at hc'
              cases hc'
              exact ⟨Ext.refl, r2, .str _, fun _ _ h => h⟩
          · have hi2 : (z.cps.toList.map fun c => D.str ⟨#[c]⟩).length ≤ i := hi
            rw [List.length_map, Array.length_toList] at hi2
            exact hi2
      | non => exact False.elim h
      | fl xs => exact False.elim h
      | bl b => exact False.elim h
      | int i => exact False.elim h
theorem itok_range {α : List Addr} {H : Hp} (lo : Int) (n : Nat) : ItOk P α H (Itr lo n) ⟨rngD lo n, []⟩ := by
  have len : (rngD lo n).length = n := by simp [rngD]
  refine ⟨fun i α1 H1 m d e r l hd => ?_, fun i α1 H1 m e r l hi => ?_⟩
  · have hi : i < n := by rw [← len]; exact (List.getElem?_eq_some_iff.mp hd).1
    have hd' : d = .int (lo + (i : Int)) := by
      have : (rngD lo n)[i]? = some (.int (lo + (i : Int))) := by simp [rngD, hi]
      have hd : (rngD lo n)[i]? = some d := hd
      rw [this] at hd
      exact (Option.some.inj hd).symm
    subst hd'
    refine ⟨hi, fun v H2 y => ?_⟩
    obtain ⟨rfl, rfl⟩ := y
    exact ⟨Ext.refl, r, .int _, fun _ _ h => h⟩
  · have hi : (rngD lo n).length ≤ i := hi
    rw [len] at hi
    exact hi
theorem di_range1 (hg : Gl X "range") (hm : X.mg "range" = none) (ha : PE X a (tE P W ga)) (hs : starEach [a] X.env = [(false, eval a X.env)] := by rfl) : PI X tg (.Call (.Name "range" p) [a] [] pos) (iD P W (iRg1 ga)) :=
  (pi_range1 hg hm (pa_cons ha pa_nil hs) hs).weaken fun σ H Q ⟨α, ρ, m, rm, re, h⟩ => by
    refine tE_bind rm re h fun α1 H1 d m1 e1 r1 p1 v rv => ?_
    cases rv with
    | int j =>
      dsimp only at p1
      split at p1
      · rename_i hz
        exact ⟨j, rfl, hz.1, hz.2, p1 α1 H1 Ext.refl r1 _ (itok_range 0 _)⟩
      · exact False.elim p1
    | _ => exact False.elim p1
theorem di_range2 (hg : Gl X "range") (hm : X.mg "range" = none) (ha : PE X a (tE P W ga)) (hb : PE X b (tE P W g)) (hs : starEach [a, b] X.env = [(false, eval a X.env), (false, eval b X.env)] := by rfl) (hs2 : starEach [b] X.env = [(false, eval b X.env)] := by rfl) :
    PI X tg (.Call (.Name "range" p) [a, b] [] pos) (iD P W (iRg2 ga g)) :=
  (pi_range2 hg hm (pa_cons ha (pa_cons hb pa_nil hs2) (by rw [hs, hs2])) hs hs2).weaken fun σ H Q ⟨α, ρ, m, rm, re, h⟩ => by
    refine tE_bind rm re h fun α1 H1 d1 m1 e1 r1 p1 v1 rv1 => ?_
    refine tE_bind r1 (re.mono e1) p1 fun α2 H2 d2 m2 e2 r2 p2 v2 rv2 => ?_
    unfold rg2 at p2
    cases rv1 with
    | int i =>
      cases rv2 with
      | int j =>
        dsimp only at p2
        split at p2
        · rename_i hz
          exact ⟨i, j, rfl, hz, p2 α2 H2 Ext.refl r2 _ (itok_range i _)⟩
        · exact False.elim p2
      | _ => exact False.elim p2
    | _ => exact False.elim p2
theorem zip_get {xs ys : List D} {i : Nat} {d : D} (h : ((xs.zip ys).map fun p => D.tup [p.1, p.2])[i]? = some d) : ∃ x y, xs[i]? = some x ∧ ys[i]? = some y ∧ d = .tup [x, y] := by
  rw [List.getElem?_map] at h
  cases hz : (xs.zip ys)[i]? with
  | none => rw [hz] at h; cases h
  | some p =>
    rw [hz] at h
    cases h
    obtain ⟨h1, h2⟩ := List.getElem?_zip_eq_some.mp hz
    exact ⟨p.1, p.2, h1, h2, rfl⟩
theorem di_zip {elts : List Expr} {kk : Nat} (hK : P.K = X.K) (hg : Gl X "zip") (hm : X.mg "zip" = none) (ha : PE X a (tE P W ga)) (hb : PE X b (tE P W g)) (hs : starEach [a, b] X.env = (false, eval a X.env) :: starEach [b] X.env := by rfl) (hs2 : starEach [b] X.env = (false, eval b X.env) :: starEach [] X.env := by rfl)
    (hpl : (backTo pos (starEach [b] X.env)).any (·.1) = false := by rfl) : PI X (.Tuple elts kk tpos) (.Call (.Name "zip" p) [a, b] [] pos) (iD P W (iZip ga g)) :=
  (RZ.pi_zipA hg hm (pa_cons ha (pa_cons hb pa_nil hs2) hs) hs hpl).weaken fun σ H Q ⟨α, ρ, m, rm, re, h⟩ => by
    refine tE_bind rm re h fun α1 H1 d1 m1 e1 r1 p1 v1 rv1 => ?_
    refine tE_bind r1 (re.mono e1) p1 fun α2 H2 d2 m2 e2 r2 p2 v2 rv2 => ?_
    unfold zip2 at p2
    replace rv1 := rv1.mono e2
    cases rv1 with
    | @tup a1 vs xs t1 q1 =>
      cases rv2 with
      | @tup a2 ws ys t2 q2 =>
        have s1 : SqT X.K H2 a1 vs := by rw [← hK]; exact t1
        have s2 : SqT X.K H2 a2 ws := by rw [← hK]; exact t2
        refine ⟨a1, a2, vs, ws, rfl, .inr ⟨s1, s2, p2 α2 H2 Ext.refl r2 _ ⟨fun i α3 H3 m3 d e3 r3 l hd => ?_, fun i α3 H3 m3 e3 r3 l hi => ?_⟩⟩⟩
        · have z1 : SqT X.K H3 a1 vs := by have := e3.tup _ _ t1; rw [hK] at this; exact this
          have z2 : SqT X.K H3 a2 ws := by have := e3.tup _ _ t2; rw [hK] at this; exact this
          obtain ⟨x, y, h1, h2, rfl⟩ := zip_get hd
          obtain ⟨v, g1, g2⟩ := q1.get h1
          obtain ⟨w, g3, g4⟩ := q2.get h2
          refine ⟨⟨vs, ws, v, w, z1, z2, g1, g3⟩, fun u H4 yl => ?_⟩
          obtain ⟨T, v', w', rfl, hT, rfl, y1, y2⟩ := yl
          have w1 := y1 _ z1
          have w2 := y2 _ z2
          rw [g1] at w1; rw [g3] at w2
          cases w1; cases w2
          exact ⟨Ext.side hT, r3.side hT, .newTup hT (.cons (g2.mono e3) (.cons (g4.mono e3) .nil)), fun b o h => by rw [upd_ne (ne_of_none h hT)]; exact h⟩
        · have z1 : SqT X.K H3 a1 vs := by have := e3.tup _ _ t1; rw [hK] at this; exact this
          have z2 : SqT X.K H3 a2 ws := by have := e3.tup _ _ t2; rw [hK] at this; exact this
          have hi : ((xs.zip ys).map fun p => D.tup [p.1, p.2]).length ≤ i := hi
          rw [List.length_map, List.length_zip] at hi
          refine ⟨vs, ws, z1, z2, ?_⟩
          rw [q1.length, q2.length]
          omega
      | _ => exact False.elim p2
    | @ref a1 n1 h1 =>
      cases rv2 with
      | @ref a2 n2 h2 =>
        dsimp only at p2
        split at p2
        · rename_i xs ys l1 l2
          obtain ⟨vs, t1, q1⟩ := r2.sql l1 h1
          obtain ⟨ws, t2, q2⟩ := r2.sql l2 h2
          refine ⟨a1, a2, vs, ws, rfl, .inl ⟨by rw [← hK]; exact t1, by rw [← hK]; exact t2, p2 α2 H2 Ext.refl r2 _ ?_⟩⟩
          have get : ∀ α3 H3 m, Ext P α2 H2 α3 H3 → RM P α3 H3 m → LiveOk m [(n1, xs), (n2, ys)] → ∃ vs ws, SqL X.K H3 a1 vs ∧ RDs P α3 H3 vs xs ∧ SqL X.K H3 a2 ws ∧ RDs P α3 H3 ws ys := fun α3 H3 m e r l => by
            obtain ⟨vs, g1, g2⟩ := r.sql (l (n1, xs) (by simp)) (e.at_ h1)
            obtain ⟨ws, g3, g4⟩ := r.sql (l (n2, ys) (by simp)) (e.at_ h2)
            exact ⟨vs, ws, by rw [← hK]; exact g1, g2, by rw [← hK]; exact g3, g4⟩
          refine ⟨fun i α3 H3 m3 d e3 r3 l hd => ?_, fun i α3 H3 m3 e3 r3 l hi => ?_⟩
          · obtain ⟨vs, ws, z1, q1, z2, q2⟩ := get α3 H3 m3 e3 r3 l
            obtain ⟨x, y, h1, h2, rfl⟩ := zip_get hd
            obtain ⟨v, g1, g2⟩ := q1.get h1
            obtain ⟨w, g3, g4⟩ := q2.get h2
            refine ⟨⟨vs, ws, v, w, z1, z2, g1, g3⟩, fun u H4 yl => ?_⟩
            obtain ⟨T, v', w', rfl, hT, rfl, y1, y2⟩ := yl
            have w1 := y1 _ z1
            have w2 := y2 _ z2
            rw [g1] at w1; rw [g3] at w2
            cases w1; cases w2
            exact ⟨Ext.side hT, r3.side hT, .newTup hT (.cons g2 (.cons g4 .nil)), fun b o h => by rw [upd_ne (ne_of_none h hT)]; exact h⟩
          · obtain ⟨vs, ws, z1, q1, z2, q2⟩ := get α3 H3 m3 e3 r3 l
            have hi : ((xs.zip ys).map fun p => D.tup [p.1, p.2]).length ≤ i := hi
            rw [List.length_map, List.length_zip] at hi
            refine ⟨vs, ws, z1, z2, ?_⟩
            rw [q1.length, q2.length]
            omega
        · exact False.elim p2
      | _ => exact False.elim p2
    | _ => exact False.elim p2

/-! ### 13. comprehensions -/
/-- a target of names alone, in a comprehension whose own slots are vs -/
structure TgN (P : Pm) (vs : List Nat) (g : TG) (gg : GG) : Prop where
  run : ∀ (α : List Addr) (H : Hp) (m : Mem) (v : V) (d : D) (ρ ρ1 : Env) (m1 : Mem) (σ : L2.St) (Q : L2.St → Hp → Prop), RM P α H m → RD P α H v d → RE P α H ρ σ → gg d ρ m = .ok ρ1 m1 →
    (m1 = m → ∀ σ2, RE P α H ρ1 σ2 → wipe σ2 vs = wipe σ vs → Q σ2 H) → g v σ H Q
  noexc : ∀ (d : D) (ρ : Env) (m : Mem) c fs m1, gg d ρ m ≠ .exc c fs m1
theorem wipe_get : ∀ (l : List Nat) (σ : L2.St) (j : Nat), (wipe σ l)[j]? = if j ∈ l then (if j < σ.length then some none else none) else σ[j]? := by
  intro l σ j
  induction l with
  | nil => rfl
  | cons a l ih =>
    show ((wipe σ l).set a none)[j]? = _
    by_cases ha : a = j
    · subst ha
      rw [if_pos List.mem_cons_self]
      by_cases hl : a < σ.length
      · rw [List.getElem?_set_self (by rw [wipe_length]; exact hl), if_pos hl]
      · rw [List.getElem?_eq_none (by rw [List.length_set, wipe_length]; omega), if_neg hl]
    · rw [List.getElem?_set_ne ha, ih]
      have e : (j ∈ a :: l) ↔ j ∈ l := by simp [Ne.symm ha]
      by_cases hj : j ∈ l
      · rw [if_pos hj, if_pos (e.mpr hj)]
      · rw [if_neg hj, if_neg fun z => hj (e.mp z)]
theorem wipe_set {vs : List Nat} {i : Nat} (h : i ∈ vs) (σ : L2.St) (o : Option V) : wipe (σ.set i o) vs = wipe σ vs := by
  apply List.ext_getElem?
  intro j
  rw [wipe_get, wipe_get, List.length_set]
  by_cases hj : j ∈ vs
  · rw [if_pos hj, if_pos hj]
  · rw [if_neg hj, if_neg hj]
    exact List.getElem?_set_ne fun z => hj (by rw [← z]; exact h)
theorem wipe_wipe (vs : List Nat) (σ : L2.St) : wipe (wipe σ vs) vs = wipe σ vs := by
  apply List.ext_getElem?
  intro j
  rw [wipe_get, wipe_get, wipe_length]
  by_cases hj : j ∈ vs
  · rw [if_pos hj, if_pos hj]
  · rw [if_neg hj, if_neg hj]
theorem tgn_name {vs : List Nat} {i : Nat} (h : i ∈ vs) : TgN P vs (gName i) (gN i) :=
  ⟨fun α H m v d ρ ρ1 m1 σ Q rm rv re e k => by
    unfold gN at e
    cases e
    exact k rfl _ (re.set rv i) (wipe_set h σ _), fun d ρ m c fs m1 e => by unfold gN at e; cases e⟩
structure TgsN (P : Pm) (vs : List Nat) (g : TGs) (gg : GGs) : Prop where
  run : ∀ (α : List Addr) (H : Hp) (m : Mem) (us : List V) (ds : List D) (ρ ρ1 : Env) (m1 : Mem) (σ : L2.St) (Q : L2.St → Hp → Prop), RM P α H m → RDs P α H us ds → RE P α H ρ σ → gg ds ρ m = .ok ρ1 m1 →
    (m1 = m → ∀ σ2, RE P α H ρ1 σ2 → wipe σ2 vs = wipe σ vs → Q σ2 H) → g us σ H Q
  noexc : ∀ (ds : List D) (ρ : Env) (m : Mem) c fs m1, gg ds ρ m ≠ .exc c fs m1
theorem tgsn_nil {vs : List Nat} : TgsN P vs gNil gsNil := by
  refine ⟨fun α H m us ds ρ ρ1 m1 σ Q rm rs re e k => ?_, fun ds ρ m c fs m1 e => ?_⟩
  · cases rs with
    | nil => cases e; exact ⟨rfl, k rfl σ re rfl⟩
    | cons _ _ => cases e
  · unfold gsNil at e
    cases ds <;> cases e
theorem tgsn_cons {vs : List Nat} {g : TG} {gs : TGs} {gg : GG} {ggs : GGs} (h1 : TgN P vs g gg) (h2 : TgsN P vs gs ggs) : TgsN P vs (gCons g gs) (gsCons gg ggs) := by
  refine ⟨fun α H m us ds ρ ρ1 m1 σ Q rm rs re e k => ?_, fun ds ρ m c fs m1 e => ?_⟩
  · cases rs with
    | nil => cases e
    | cons r rs =>
      unfold gsCons at e
      dsimp only at e
      cases e2 : gg _ ρ m with
      | ok ρ2 m2 =>
        rw [e2] at e
        refine ⟨_, _, rfl, h1.run α H m _ _ ρ ρ2 m2 σ _ rm r re e2 fun em σ2 re2 w2 => ?_⟩
        subst em
        exact h2.run α H _ _ _ ρ2 ρ1 m1 σ2 Q rm rs re2 e fun em σ3 re3 w3 => k em σ3 re3 (w3.trans w2)
      | exc c fs m2 => rw [e2] at e; cases e
      | bad => rw [e2] at e; cases e
  · cases ds with
    | nil => cases e
    | cons d r =>
      unfold gsCons at e
      dsimp only at e
      cases e2 : gg d ρ m with
      | ok ρ2 m2 => rw [e2] at e; exact h2.noexc _ _ _ _ _ _ e
      | exc c' fs' m2 => exact h1.noexc _ _ _ _ _ _ e2
      | bad => rw [e2] at e; cases e
theorem tgn_tup {vs : List Nat} {n : Nat} {gs : TGs} {ggs : GGs} (h : TgsN P vs gs ggs) : TgN P vs (gTup P.K n gs) (gT n ggs) := by
  refine ⟨fun α H m v d ρ ρ1 m1 σ Q rm rv re e k => ?_, fun d ρ m c fs m1 e => ?_⟩
  · unfold gT at e
    cases rv with
    | tup t rs =>
      dsimp only at e
      split at e
      · rename_i hz
        exact ⟨_, _, rfl, t, by rw [rs.length]; exact hz, h.run α H m _ _ ρ ρ1 m1 σ Q rm rs re e k⟩
      · cases e
    | _ => cases e
  · unfold gT at e
    cases d with
    | tup xs =>
      dsimp only at e
      split at e
      · exact h.noexc _ _ _ _ _ _ e
      · cases e
    | _ => cases e
def wipeE (ρ : Env) : List Nat → Env
  | [] => ρ
  | v :: vs => (wipeE ρ vs).set v none
theorem RE.wipe {α : List Addr} {H : Hp} {ρ : Env} {σ : L2.St} (re : RE P α H ρ σ) : ∀ vs : List Nat, RE P α H (wipeE ρ vs) (L2.wipe σ vs)
  | [] => re
  | v :: vs => (RE.wipe re vs).setNone v
def oFit (n : Nat) (o : Option D) : Bool := match o with
  | some d => d.fits n
  | none => true
noncomputable def gcO (m : Mem) (r : R (Option D)) : R (Option D) := gcR oFit m r
def keepD (o : Option D) (acc : List D) : List D := match o with
  | some d => acc ++ [d]
  | none => acc
/-- one turn: the item kept, or not -/
def turnC (tg : GG) (t : GT) (g : G) (x : D) (ρ : Env) (m : Mem) : R (Option D) := (tg x ρ m).bind fun ρ1 m1 => (t ρ1 m1).bind fun b m2 => if b = true then (g ρ1 m2).bind fun d m3 => .ok (some d) m3 else .ok none m2
open Classical in
noncomputable def compG (l : List (Nat × List D)) (tg : GG) (t : GT) (g : G) (ρ : Env) : List D → List D → Mem → R (List D)
  | [], acc, m => if LiveOk m l then .ok acc m else .bad
  | x :: xs, acc, m => if LiveOk m l then (gcO m (turnC tg t g x ρ m)).bind fun o m4 => compG l tg t g ρ xs (keepD o acc) m4 else .bad
def R.noexc {β : Type} (r : R β) : R β := match r with
  | .exc _ _ _ => .bad
  | r => r
noncomputable def eComp (own : List Nat) (gi : GI) (tg : GG) (t : GT) (g : G) : G := fun ρ m => (gi ρ m).bind fun it m1 =>
  if it.items.length ≤ sizeLine then (R.noexc (compG it.live tg t g (wipeE ρ own) it.items [] m1)).bind fun acc m2 => .ok (.ref m2.length) (m2 ++ [.lst acc]) else .bad
def tYes' : GT := fun _ m => .ok true m
abbrev W0 : WX := fun _ _ _ _ => False
theorem compG_noexc {β : Type} {r : R β} {σ : L2.St} {α : List Addr} {H : Hp} {Θ : List Addr → Hp → β → Mem → Prop} (h : Post P W σ α H (R.noexc r) Θ) : Post P W0 σ α H r Θ := by
  cases r with
  | ok b m => exact h
  | exc c fs m => exact False.elim h
  | bad => exact h
theorem dc_pts {X' : Cx} : PTs X' [] (tT P W tYes') := by
  have h := pts_nil (X := X')
  exact ⟨fun pins s σ H Q I ⟨α, ρ, m, rm, re, q⟩ => h.run pins s σ H Q I (q α H Ext.refl rm)⟩
theorem dc_pts1 {X' : Cx} {c : Expr} {t : GT} (hc : PT X' c (tT P W t)) : PTs X' [c] (tT P W t) := pts_one hc
mutual
theorem RD.touch {α : List Addr} {H : Hp} {p : Addr} {o : HO} (w : Wr (H p)) : ∀ {v : V} {d : D}, RD P α H v d → RD P α (upd H p o) v d
  | _, _, .non => .non
  | _, _, .bl b => .bl b
  | _, _, .int i => .int i
  | _, _, .str x => .str x
  | _, _, .tup h r => .tup (sqt_upd (fun u q => ⟨(w.no u q).1, (w.no u q).2.1⟩) h) (RDs.touch w r)
  | _, _, .fl h r => .fl (frz_upd (fun u q => ⟨(w.no u q).1, (w.no u q).2.1⟩) h) (RDs.touch w r)
  | _, _, .ref h => .ref h
theorem RDs.touch {α : List Addr} {H : Hp} {p : Addr} {o : HO} (w : Wr (H p)) : ∀ {vs : List V} {ds : List D}, RDs P α H vs ds → RDs P α (upd H p o) vs ds
  | _, _, .nil => .nil
  | _, _, .cons r rs => .cons (RD.touch w r) (RDs.touch w rs)
end
theorem RKs.touch {α : List Addr} {H : Hp} {p : Addr} {o : HO} (w : Wr (H p)) : ∀ {vs : List (Key × V)} {ds : List (Key × D)}, RKs P α H vs ds → RKs P α (upd H p o) vs ds
  | _, _, .nil => .nil
  | _, _, .cons r rs => .cons (r.touch w) (RKs.touch w rs)
/-- a list that is ours but no cell is written -/
theorem RM.touch {α : List Addr} {H : Hp} {m : Mem} {p : Addr} {o : HO} (rm : RM P α H m) (w : Wr (H p)) (hp : p ∉ α) : RM P α (upd H p o) m := by
  refine ⟨rm.len, rm.inj, fun i c a h1 h2 => ?_, tabs_upd (fun u q => ⟨(w.no u q).2.2.1, (w.no u q).2.2.2⟩) rm.tab⟩
  have rc := rm.cell i c a h1 h2
  have ne : a ≠ p := fun z => hp (by rw [← z]; exact List.mem_of_getElem? h2)
  cases c with
  | lst ds => obtain ⟨vs, e, r⟩ := rc; exact ⟨vs, by rw [upd_ne ne]; exact e, r.touch w⟩
  | dct ds => obtain ⟨vs, e, r⟩ := rc; exact ⟨vs, by rw [upd_ne ne]; exact e, r.touch w⟩
theorem Ext.touch {α α' : List Addr} {H H' : Hp} {p : Addr} {o : HO} (e : Ext P α H α' H') (w : Wr (H' p)) (hp : H p = none) : Ext P α H α' (upd H' p o) := by
  refine ⟨e.pre, fun b u h n t => ?_, fun b xs h => sqt_upd (fun u q => ⟨(w.no u q).1, (w.no u q).2.1⟩) (e.tup b xs h), fun b xs h => frz_upd (fun u q => ⟨(w.no u q).1, (w.no u q).2.1⟩) (e.frz b xs h)⟩
  obtain ⟨h1, h2⟩ := e.keep b u h n t
  exact ⟨by rw [upd_ne (ne_of_none h hp)]; exact h1, h2⟩
/-- the list becomes a cell -/
theorem Ext.adopt {α α' : List Addr} {H H' : Hp} {p : Addr} (e : Ext P α H α' H') (hp : H p = none) : Ext P α H (α' ++ [p]) H' := by
  obtain ⟨β, hβ⟩ := e.pre
  refine ⟨⟨β ++ [p], by rw [hβ, List.append_assoc]⟩, fun b u h n t => ?_, e.tup, e.frz⟩
  obtain ⟨h1, h2⟩ := e.keep b u h n t
  refine ⟨h1, fun z => ?_⟩
  rcases List.mem_append.mp z with z | z
  · exact h2 z
  · rw [List.mem_singleton] at z
    exact ne_of_none h hp z
mutual
theorem RD.wide {α β : List Addr} {H : Hp} : ∀ {v : V} {d : D}, RD P α H v d → RD P (α ++ β) H v d
  | _, _, .non => .non
  | _, _, .bl b => .bl b
  | _, _, .int i => .int i
  | _, _, .str x => .str x
  | _, _, .tup h r => .tup h (RDs.wide r)
  | _, _, .fl h r => .fl h (RDs.wide r)
  | _, _, .ref h => .ref (by rw [List.getElem?_append_left (List.getElem?_eq_some_iff.mp h).1]; exact h)
theorem RDs.wide {α β : List Addr} {H : Hp} : ∀ {vs : List V} {ds : List D}, RDs P α H vs ds → RDs P (α ++ β) H vs ds
  | _, _, .nil => .nil
  | _, _, .cons r rs => .cons (RD.wide r) (RDs.wide rs)
end
theorem RKs.wide {α β : List Addr} {H : Hp} : ∀ {vs : List (Key × V)} {ds : List (Key × D)}, RKs P α H vs ds → RKs P (α ++ β) H vs ds
  | _, _, .nil => .nil
  | _, _, .cons r rs => .cons r.wide (RKs.wide rs)
theorem RM.adopt {α : List Addr} {H : Hp} {m : Mem} {p : Addr} {vs : List V} {ds : List D} (rm : RM P α H m) (hp : p ∉ α) (h : H p = some (.lst vs)) (r : RDs P α H vs ds) : RM P (α ++ [p]) H (m ++ [.lst ds]) := by
  have two : ∀ (i : Nat) (a : Addr), (α ++ [p])[i]? = some a → α[i]? = some a ∨ (i = α.length ∧ a = p) := fun i a h => by
    by_cases hi : i < α.length
    · rw [List.getElem?_append_left hi] at h; exact .inl h
    · have hi2 : i < (α ++ [p]).length := (List.getElem?_eq_some_iff.mp h).1
      have e : i = α.length := by rw [List.length_append, List.length_singleton] at hi2; omega
      rw [e, List.getElem?_concat_length] at h
      exact .inr ⟨e, (Option.some.inj h).symm⟩
  refine ⟨by simp [rm.len], fun i j a a1 a2 => ?_, fun i c' a h1 h2 => ?_, rm.tab⟩
  · rcases two i a a1 with x | ⟨x, rfl⟩
    · rcases two j a a2 with y | ⟨y, rfl⟩
      · exact rm.inj i j a x y
      · exact absurd (List.mem_of_getElem? x) hp
    · rcases two j a a2 with y | ⟨y, _⟩
      · exact absurd (List.mem_of_getElem? y) hp
      · rw [x, y]
  · rcases two i a h2 with x | ⟨x, rfl⟩
    · rw [List.getElem?_append_left (by rw [← rm.len]; exact (List.getElem?_eq_some_iff.mp x).1)] at h1
      have rc := rm.cell i c' a h1 x
      cases c' with
      | lst ds => obtain ⟨vs, e, r⟩ := rc; exact ⟨vs, e, r.wide⟩
      | dct ds => obtain ⟨vs, e, r⟩ := rc; exact ⟨vs, e, r.wide⟩
    · rw [x, rm.len, List.getElem?_concat_length] at h1
      cases h1
      exact ⟨vs, h, r.wide⟩
/-- the reading of a comprehension -/
theorem lc_un {gi : GI} {g0 : TG} {gg : GG} {t : GT} {ge : G} {own : List Nat} (ht : TgN P own g0 gg) {σ : L2.St} {H : Hp} {Q : VK} {α : List Addr} {ρ : Env} {m : Mem} (rm : RM P α H m) (re : RE P α H ρ σ)
    (h : Post P W σ α H (eComp own gi gg t ge ρ m) (wV P Q)) : tLc (iD P W gi) g0 (tT P W0 t) (tE P W0 ge) own σ H Q := by
  refine ⟨α, ρ, m, rm, re, h.bind.mono fun α1 H1 it m1 e1 r1 p1 J ok => ?_⟩
  intro D hD
  split at p1
  · rename_i hsz
    have re1 := (re.mono e1).wipe own
    refine ⟨fun i k H => k = it.items.length - i ∧ i ≤ it.items.length ∧ ∃ α2 m2 acc vacc, Ext P α1 H1 α2 H ∧ RM P α2 H m2 ∧ H D = some (.lst vacc) ∧ D ∉ α2 ∧ RDs P α2 H vacc acc ∧ acc.length ≤ i ∧
        Post P W σ α1 H1 ((R.noexc (compG it.live gg t ge (wipeE ρ own) (it.items.drop i) acc m2)).bind fun acc m2 => .ok (.ref m2.length) (m2 ++ [.lst acc])) (wV P Q),
      ⟨it.items.length, by omega, by omega, α1, m1, [], [], Ext.side hD, r1.side hD, upd_same, r1.not_mem hD, .nil, by simp, by rw [List.drop_zero]; exact p1⟩, ?_⟩
    rintro i k H2 ⟨rfl, hi, α2, m2, acc, vacc, e2, r2, hD2, nD, rs, hl, p2⟩
    have wD : Wr (H2 D) := by rw [hD2]; trivial
    by_cases hlt : i < it.items.length
    · obtain ⟨x, hx⟩ : ∃ x, it.items[i]? = some x := ⟨it.items[i], List.getElem?_eq_getElem hlt⟩
      have hdrop : it.items.drop i = x :: it.items.drop (i + 1) := by
        rw [List.drop_eq_getElem_cons hlt]
        rw [List.getElem?_eq_getElem hlt] at hx
        rw [Option.some.inj hx]
      rw [hdrop] at p2
      unfold compG at p2
      split at p2
      · rename_i hlive
        obtain ⟨g1, g2⟩ := ok.go i α2 H2 m2 x e2 r2 hlive hx
        refine .inr ⟨g1, fun H' => ∃ α2 m2 acc vacc, Ext P α1 H1 α2 H' ∧ RM P α2 H' m2 ∧ H' D = some (.lst vacc) ∧ D ∉ α2 ∧ RDs P α2 H' vacc acc ∧ acc.length ≤ i + 1 ∧
            Post P W σ α1 H1 ((R.noexc (compG it.live gg t ge (wipeE ρ own) (it.items.drop (i + 1)) acc m2)).bind fun acc m2 => .ok (.ref m2.length) (m2 ++ [.lst acc])) (wV P Q),
          fun H' hN => ⟨it.items.length - (i + 1), by omega, rfl, by omega, hN⟩, fun v H3 y => ?_⟩
        obtain ⟨e3, r3, rv, kp⟩ := g2 v H3 y
        have hD3 := kp D _ hD2
        have rs3 := rs.mono e3
        have re3 : RE P α2 H3 (wipeE ρ own) (L2.wipe σ own) := re1.mono (e2.trans e3)
        have e23 := e2.trans e3
        -- the turn's result
        cases hturn : turnC gg t ge x (wipeE ρ own) m2 with
        | bad => rw [hturn] at p2; exact False.elim p2
        | exc c fs mm => 
          rw [hturn] at p2
          exfalso
          unfold gcO gcR at p2
          dsimp only at p2
          split at p2 <;> exact p2
        | ok o mo =>
          rw [hturn] at p2
          have choose : ∀ (α4 : List Addr) (H4 : Hp), Ext P α2 H3 α4 H4 → RM P α4 H4 mo → ∃ α5 m5, Ext P α2 H3 α5 H4 ∧ RM P α5 H4 m5 ∧ (∀ d v, o = some d → RD P α4 H4 v d → RD P α5 H4 v d) ∧
              Post P W σ α1 H1 ((R.noexc (compG it.live gg t ge (wipeE ρ own) (it.items.drop (i + 1)) (keepD o acc) m5)).bind fun acc m2 => .ok (.ref m2.length) (m2 ++ [.lst acc])) (wV P Q) := fun α4 H4 e4 r4 => by
            unfold gcO gcR at p2
            dsimp only at p2
            split at p2
            · rename_i hz
              obtain ⟨γ, rfl⟩ := e4.pre
              refine ⟨α2, _, e4.shrink, r3.shrink e4 r4 hz.2, fun d v ho rv => rv.shrink ?_, p2⟩
              rw [r3.len]
              have := hz.1
              rw [ho] at this
              exact this
            · exact ⟨α4, mo, e4, r4, fun _ _ _ h => h, p2⟩
          -- the turn, part by part
          unfold turnC at hturn
          cases htg : gg x (wipeE ρ own) m2 with
          | bad => rw [htg] at hturn; cases hturn
          | exc c fs mm => rw [htg] at hturn; cases hturn
          | ok ρ1 mt =>
            rw [htg] at hturn
            refine ht.run α2 H3 m2 v x (wipeE ρ own) ρ1 mt _ _ r3 rv re3 htg fun em σ2 re4 w2 => ⟨w2.trans (wipe_wipe own σ), ?_⟩
            subst em
            dsimp only [Dw.R.bind_ok] at hturn
            cases htt : t ρ1 mt with
            | bad => rw [htt] at hturn; cases hturn
            | exc c fs mm => rw [htt] at hturn; cases hturn
            | ok bb mb =>
              rw [htt] at hturn
              refine ⟨α2, ρ1, mt, r3, re4, ?_⟩
              rw [htt]
              intro α6 H6 e6 r6
              have keepD6 := e6.keep D _ hD3 nD (fun _ z => nomatch z)
              cases bb with
              | false =>
                simp only [Bool.false_eq_true, if_false]
                cases hturn
                obtain ⟨α5, m5, e5, r5, _, p5⟩ := choose α6 H6 e6 r6
                have nD5 := (e5.keep D _ hD3 nD (fun _ z => nomatch z)).2
                exact ⟨α5, m5, acc, vacc, e23.trans e5, r5, keepD6.1, nD5, rs3.mono e5, by omega, p5⟩
              | true =>
                simp only [if_true]
                simp only [Dw.R.bind_ok, if_true] at hturn
                cases hge : ge ρ1 mb with
                | bad => rw [hge] at hturn; cases hturn
                | exc c fs mm => rw [hge] at hturn; cases hturn
                | ok d md =>
                  rw [hge] at hturn
                  cases hturn
                  refine ⟨α6, ρ1, mb, r6, re4.mono e6, ?_⟩
                  rw [hge]
                  intro α7 H7 e7 r7 y ry
                  have keepD7 := e7.keep D _ keepD6.1 keepD6.2 (fun _ z => nomatch z)
                  refine ⟨vacc, keepD7.1, by rw [rs.length]; omega, ?_⟩
                  obtain ⟨α5, m5, e5, r5, up, p5⟩ := choose α7 H7 (e6.trans e7) r7
                  have nD5 := (e5.keep D _ hD3 nD (fun _ z => nomatch z)).2
                  have w7 : Wr (H7 D) := by rw [keepD7.1]; trivial
                  exact ⟨α5, m5, acc ++ [d], vacc ++ [y], (e23.trans e5).touch w7 hD, r5.touch w7 nD5, upd_same, nD5,
                    ((rs3.mono e5).append (.cons (up d y rfl ry) .nil)).touch w7, by rw [List.length_append]; simp; omega, p5⟩
      · exact False.elim p2
    · have hi2 : it.items.length ≤ i := Nat.le_of_not_lt hlt
      rw [List.drop_eq_nil_of_le hi2] at p2
      unfold compG at p2
      split at p2
      · rename_i hlive
        refine .inl ⟨ok.stop i α2 H2 m2 e2 r2 hlive hi2, ?_⟩
        exact p2 (α2 ++ [D]) H2 (e2.adopt hD) (r2.adopt nD hD2 rs) _ (.ref (by rw [← r2.len, List.getElem?_concat_length]))
      · exact False.elim p2
  · exact False.elim p1
/-- the rules -/
theorem de_comp {tg iter elt : Expr} {ifs : List Expr} {scope : Scope} {own : List (Str × Nat)} {gi : GI} {g0 : TG} {gg : GG} {t : GT} {ge : G} (hc : X.calm = true) (hN : X.N.Nodup) (hi : PI X tg iter (iD P W gi)) (ok : BlkOk X.N X.env.scope scope own) (ht : TgN P (own.map (·.2)) g0 gg)
    (hg : ∀ (s : Shared) (H : Hp) (C : Addr) (cl : List (Str × Addr)) (fp : List Addr), PG (X.blk s H scope (compEnvC scope cl C X.env) fp) tg g0)
    (hts : ∀ (s : Shared) (H : Hp) (C : Addr) (cl : List (Str × Addr)) (fp : List Addr), PTs (X.blk s H scope (compEnvC scope cl C X.env) fp) ifs (tT P W0 t))
    (he : ∀ (s : Shared) (H : Hp) (C : Addr) (cl : List (Str × Addr)) (fp : List Addr), PE (X.blk s H scope (compEnvC scope cl C X.env) fp) elt (tE P W0 ge)) (hs : ∀ x, foldedSetIterable iter X.env x = pure x := by intro _; rfl) :
    PE X (.ListComp elt [⟨tg, iter, ifs, 0⟩] scope pos) (tE P W (eComp (own.map (·.2)) gi gg t ge)) :=
  (pe_lc hc hN hi ok hg hts he hs).weaken fun σ H Q ⟨α, ρ, m, rm, re, h⟩ => lc_un ht rm re h
theorem ds_setComp {i : Nat} {y : Str} {py spos : Pos} {tg iter elt : Expr} {ifs : List Expr} {scope : Scope} {own : List (Str × Nat)} {gi : GI} {g0 : TG} {gg : GG} {t : GT} {ge : G} (hc : X.calm = true) (hN : X.N.Nodup) (hy : X.N[i]? = some y) (hyl : X.env.scope.names.lookup y = some .local)
    (hsw : swapsWith (.ListComp elt [⟨tg, iter, ifs, 0⟩] scope pos) (some (.Name y py)) spos.line X.env = pure true)
    (hi : PI X tg iter (iD P (xW E) gi)) (ok : BlkOk X.N X.env.scope scope own) (ht : TgN P (own.map (·.2)) g0 gg)
    (hg : ∀ (s : Shared) (H : Hp) (C : Addr) (cl : List (Str × Addr)) (fp : List Addr), PG (X.blk s H scope (compEnvC scope cl C X.env) fp) tg g0)
    (hts : ∀ (s : Shared) (H : Hp) (C : Addr) (cl : List (Str × Addr)) (fp : List Addr), PTs (X.blk s H scope (compEnvC scope cl C X.env) fp) ifs (tT P W0 t))
    (he : ∀ (s : Shared) (H : Hp) (C : Addr) (cl : List (Str × Addr)) (fp : List Addr), PE (X.blk s H scope (compEnvC scope cl C X.env) fp) elt (tE P W0 ge)) (hs : ∀ x, foldedSetIterable iter X.env x = pure x := by intro _; rfl) :
    PS X (.Assign [.Name y py] (.ListComp elt [⟨tg, iter, ifs, 0⟩] scope pos) spos) (tS P E (sAsg (eComp (own.map (·.2)) gi gg t ge) (gN i))) :=
  (ps_setLc hc hN hy hyl hsw hi ok hg hts he hs).weaken fun D σ H ⟨α, ρ, m, rm, re, h⟩ => by
    refine lc_un ht rm re (W := xW E) ?_
    refine h.bind.mono fun α1 H1 d m1 e1 r1 p1 v rv => ?_
    exact p1 α1 H1 Ext.refl r1 _ ((re.mono e1).set rv i)
end
end Dw

namespace Dw
open PySem PySem.Spec PyProof.Rows L2

/-! ### 12. defs and calls -/
/-- a def's promise: what cf makes of the arguments' data -/
def spD (P : Pm) (n : Nat) (cf : List D → Mem → R D) : Sp := fun vs H Q E => vs.length = n ∧ ∃ α m ds, RM P α H m ∧ RDs P α H vs ds ∧ Post P (xW E) [] α H (cf ds m) (wV P Q)
/-- a def, called where no guard stands -/
structure FnG (p : Program) (w : World) (P : Pm) (base : Heap) (gd : Bool) (k : Nat) (f : Addr) (fd : FuncData) (ps : List Str) (cf : List D → Mem → R D) : Prop where
  run : ∀ (A : Around) (outer : List PySem.Env) (s : Shared) (H : Hp) (args : Args) (us : List Value) (vs : List V) (Q : VK) (E : XK), Room k A → (gd = true → A.guards = some []) → Env0 p w P.K P.mg base A outer s H → BindsTo s fd args (ps.zip us) → Vals vs us → spD P ps.length cf vs H Q E →
    codeAny (model p w) A (.call (.ref f) args) (CR (L2.CX p w) outer p w H s Q E) s
theorem FnG.mono {p : Program} {w : World} {P : Pm} {base : Heap} {gd : Bool} {j k : Nat} {f : Addr} {fd : FuncData} {ps : List Str} {cf : List D → Mem → R D} (F : FnG p w P base gd j f fd ps cf) (h : j ≤ k) : FnG p w P base gd k f fd ps cf :=
  ⟨fun A outer s H args us vs Q E hr => F.run A outer s H args us vs Q E (hr.mono h)⟩
/-- what a body's end gives back -/
def retF (f : Fl) (m : Mem) : R D := match f with
  | .nx _ => .ok .non m
  | .ret d => .ok d m
  | .brk _ => .bad
  | .cnt _ => .bad
/-- a def with l slots by its body -/
def fnB (l : Nat) (gs : GS) (ds : List D) (m : Mem) : R D := (gs (ds.map some ++ List.replicate (l - ds.length) none) m).bind retF
theorem RDs.slots {P : Pm} {α : List Addr} {H : Hp} {vs : List V} {ds : List D} (r : RDs P α H vs ds) (N : List Str) : RE P α H (ds.map some ++ List.replicate (N.length - ds.length) none) (L2.start N vs) := by
  have hl := r.length
  refine ⟨by unfold L2.start; simp only [List.length_append, List.length_map, List.length_replicate]; omega, fun i d h => ?_⟩
  unfold L2.start
  by_cases hi : i < ds.length
  · rw [List.getElem?_append_left (by simpa using hi), List.getElem?_map] at h
    cases e : ds[i]? with
    | none => rw [e] at h; cases h
    | some d' =>
      rw [e] at h
      cases h
      obtain ⟨v, h1, h2⟩ := r.get e
      refine ⟨v, ?_, h2⟩
      rw [List.getElem?_append_left (by simpa using (by omega : i < vs.length)), List.getElem?_map, h1]
      rfl
  · rw [List.getElem?_append_right (by simpa using Nat.le_of_not_lt hi), List.getElem?_replicate] at h
    split at h <;> cases h
theorem fn_D {p : Program} {w : World} {P : Pm} {base : Heap} {x qual : Str} {st : Stmt} {f : Addr} {fd : FuncData} {N ps : List Str} {gd : Bool} {k : Nat} {gs : GS} (F : Fun P.K x qual st f fd) (S : FnScope N ps (defScope st))
    (hbody : ∀ (cdv : Value) (A : Around) (outer : List PySem.Env) (s : Shared) (H : Hp) (E : XK), Room k (A.deeper (envOfC qual (defScope st) s.heap.objs.size f cdv)) → (gd = true → A.guards = some []) →
      PSs (cxOf (L2.CX p w) p w P.K P.mg base N qual (defScope st) f cdv A outer s H E) (defBody st) (tS P E gs)) : FnG p w P base gd (k + 1) f fd ps (fnB N.length gs) := by
  obtain ⟨oc, od, kV, doc, pm, an, cdv, ct, osl, rfl, lk, hcd⟩ := F.ex
  refine ⟨fun A outer s H args us vs Q E hr hgd e0 hb r hsp => ?_⟩
  obtain ⟨hl, α, m, ds, rm, rs, q⟩ := hsp
  refine LamX.run_ofS lk hcd S hr e0 hb r hl fun hr' => ⟨tS P E gs, hbody cdv A outer s H E hr' hgd, α, _, m, rm, rs.slots N, ?_⟩
  refine (Post.bind (Post.sig q)).mono fun α1 H1 fl m1 e1 r1 p1 => ?_
  cases fl with
  | nx ρ => exact fun _ _ => p1 α1 H1 Ext.refl r1 _ .non
  | ret d => exact p1 α1 H1 Ext.refl r1
  | brk ρ => exact False.elim p1
  | cnt ρ => exact False.elim p1
/-- a name under which a def is called -/
structure Clb (p : Program) (w : World) (P : Pm) (base : Heap) (gd : Bool) (k : Nat) (x : Str) (n : Nat) (cf : List D → Mem → R D) : Prop where
  ex : ∃ (f : Addr) (fd : FuncData) (ps : List Str), P.mg x = some (.ref f) ∧ PySem.W.keepIn P.K (.ref f) = true ∧ Binds P.K fd ps [] ∧ ps.length = n ∧ FnG p w P base gd k f fd ps cf
theorem Clb.mono {p : Program} {w : World} {P : Pm} {base : Heap} {gd : Bool} {j k : Nat} {x : Str} {n : Nat} {cf : List D → Mem → R D} (C : Clb p w P base gd j x n cf) (h : j ≤ k) : Clb p w P base gd k x n cf :=
  let ⟨f, fd, ps, h1, h2, h3, h4, F⟩ := C.ex; ⟨f, fd, ps, h1, h2, h3, h4, F.mono h⟩
noncomputable def callD (n : Nat) (cf : List D → Mem → R D) (ds : List D) (m : Mem) : R D := if ds.length = n then gcD m (cf ds m) else .bad
noncomputable def eCall (n : Nat) (cf : List D → Mem → R D) (ga : GA) : G := fun ρ m => (ga ρ m).bind fun ds m => callD n cf ds m
section
variable {X : Cx} {P : Pm} {W : WX} {E : XK} {e a b c : Expr} {es rest : List Expr} {pos : Pos} {ga gb gc g : G} {ta : GA} {t u : GT}
theorem Post.as {β : Type} {σ σ' : L2.St} {α : List Addr} {H : Hp} {r : R β} {Φ : List Addr → Hp → β → Mem → Prop} (h : Post P W σ α H r Φ) : Post P (xW (WE W σ)) σ' α H r Φ := by
  cases r <;> exact h
theorem callD_sp {n : Nat} {cf : List D → Mem → R D} {σ : L2.St} {α : List Addr} {H : Hp} {m : Mem} {vs : List V} {ds : List D} {Q : VK} (rm : RM P α H m) (rs : RDs P α H vs ds) (q : Post P W σ α H (callD n cf ds m) (wV P Q)) : spD P n cf vs H Q (WE W σ) := by
  unfold callD at q
  split at q
  · rename_i hl
    exact ⟨rs.length.trans hl, α, m, ds, rm, rs, (Post.gcD rm q).as⟩
  · exact False.elim q
theorem run_fnG {σ : L2.St} {H : Hp} {s : Shared} {pins : List (Addr × Obj)} {gd : Bool} {k : Nat} {f : Addr} {fd : FuncData} {ps : List Str} {cf : List D → Mem → R D} {Q : VK} {us : List Value} {vs : List V} (hK : P.K = X.K) (hM : P.mg = X.mg) (F : FnG X.prog X.w P X.base gd k f fd ps cf) (hr : Room k X.A)
    (hgd : gd = true → X.A.guards = some []) (hb : Binds P.K fd ps []) (tk : Takes X W) (I : Inv X pins σ H s) (r : Vals vs us) (h : spD P ps.length cf vs H Q (WE W σ)) : wpAny (model X.prog X.w) X.A (call (.ref f) us) (EP X pins σ Q) X.xe s := by
  have hl : us.length = ps.length := by rw [← r.length]; exact h.1
  have bd := hb s us (by rw [hK]; exact I.kIn) (by rw [List.append_nil]; exact hl)
  rw [List.append_nil] at bd
  have e0 : Env0 X.prog X.w P.K P.mg X.base X.A X.stack s H := by rw [hK, hM]; exact I.env0
  refine wpAny_call (codeAny_mono (F.run X.A X.stack s H ⟨us, []⟩ us vs Q (WE W σ) hr hgd e0 bd r h) fun z s' hq => ?_)
  cases z with
  | error ev => exact passAt tk σ pins H s ev s' I hq
  | ok fl => cases fl with
    | ret u => exact I.after hq
    | next => exact False.elim hq
    | brk => exact False.elim hq
    | cont => exact False.elim hq
theorem de_call {gd : Bool} {k n : Nat} {cf : List D → Mem → R D} {x : Str} {p1 : Pos} (hK : P.K = X.K) (hM : P.mg = X.mg) (C : Clb X.prog X.w P X.base gd k x n cf) (hr : Room k X.A) (hgd : gd = true → X.A.guards = some []) (hg : Gl X x) (tk : Takes X W) (ha : PA X (e :: es) (tA P W ta))
    (hdb : (x == ("__debug__" : Str)) = false := by decide) (he : starEach (e :: es) X.env = (false, eval e X.env) :: starEach es X.env := by rfl) (hpl : (backTo pos (starEach es X.env)).any (·.1) = false := by rfl) : PE X (.Call (.Name x p1) (e :: es) [] pos) (tE P W (eCall n cf ta)) := by
  obtain ⟨f, fd, ps, h1, h2, hb, hn, F⟩ := C.ex
  subst hn
  refine ⟨fun pins s σ H Q I h => wpAny_Call_Name_kw (ld_glob I hg (by rw [← hM]; exact h1) ?_ hdb)⟩
  obtain ⟨α, ρ, m, rm, re, q⟩ := h
  have q2 : tA P W ta σ H fun vs H1 => spD P ps.length cf vs H1 Q (WE W σ) := ⟨α, ρ, m, rm, re, (Post.bind q).mono fun α1 H1 ds m1 e1 r1 p1 vs rs => callD_sp r1 rs p1⟩
  refine PySem.W.callWith_K (h₀ := X.base) I.ok.mod.kin (by rw [← hK]; exact h2) (thn (ha.run pos pins s σ H _ I q2) fun us s1 hh => ?_) he hpl
  obtain ⟨vs, H1, I1, r, qq⟩ := hh
  exact ⟨I1.kIn, run_fnG hK hM F hr hgd hb tk I1 r qq⟩
end
end Dw

namespace DwX
open PySem PySem.Spec PySem.W PySem.Calls PyProof.Rows PySem.HandSPX
/-! ### 13. own exceptions: def __init__(self, x): super().__init__(x); self.x = x -/
def oA (f : Str) (p1 p2 : Pos) : Arguments := { posonlyargs := [], args := [{ arg := "self", annotation := none, pos := p1 }, { arg := f, annotation := none, pos := p2 }], vararg := none, kwonlyargs := [], kw_defaults := [], kwarg := none, defaults := [] }
def oB (f : Str) (a1 a2 a3 a4 a5 a6 b1 b2 b3 b4 : Pos) : List Stmt :=
  [.Expr (.Call (.Attribute (.Call (.Name "super" a1) [] [] a2) "__init__" a3) [.Name f a4] [] a5) a6, .Assign [.Attribute (.Name "self" b1) f b2] (.Name f b3) b4]
def oC (f : Str) (a1 a2 a3 a4 a5 : Pos) : Expr := .Call (.Attribute (.Call (.Name "super" a1) [] [] a2) "__init__" a3) [.Name f a4] [] a5
/-- how its text lies on its lines -/
structure InitEnvOk (f : Str) (a1 a2 a3 a4 a5 a6 b1 b2 b3 b4 : Pos) (env : PySem.Env) : Prop where
  he : ∃ pl : Sem Bool, eval (oC f a1 a2 a3 a4 a5) env = (do
      let ov ← attributeBase (.Call (.Name "super" a1) [] [] a2) "__init__" env (eval (.Call (.Name "super" a1) [] [] a2) env)
      standAt a3.atName
      let (g, first) ← holding [ov] (getMethod ov "__init__" pl)
      callWith a5 g first (backTo a5 (starEach [.Name f a4] env)) [])
  hi : interactive env = false
  hs : swapsWith (oC f a1 a2 a3 a4 a5) none a6.line env = pure false
  ht : swapsWith (.Name f b3) (some (.Attribute (.Name "self" b1) f b2)) b4.line env = pure false
/-- what the top has written of such a class: x at C, its __init__ at fI -/
structure OneX (pr : Program) (K : Frag) (mg : Str → Option Value) (x f : Str) (C fI : Addr) : Prop where
  gC : mg x = some (.ref C)
  cls : ∃ nm q N bs bm sn sub ab col dd k0 k1 k2 k3 k5, K.lookup C = some (excClassObj nm q C N bs bm true sn sub ab col dd k0 k1 k2 k3 k5 "ValueError.__new__") ∧ refsVE bm = true
  sa : findIn K (.ref C) "__setattr__" = some (some (.builtin "object.__setattr__"))
  noN : findIn K (.ref C) f = some none
  iC : findIn K (.ref C) "__init__" = some (some (.ref fI))
  tC : typeIn K (.ref fI) = some (.type "function")
  kC : keepIn K (.ref C) = true
  exC : subIn K (.ref C) (.type "BaseException") = some true
  vE : subIn K (.ref C) (.type "ValueError") = some true
  tyC : typeIn K (.ref C) = some (.type "type")
  any : nsIn K cStatics "thirdparty.any" = some none
  sup : ks_superIn K C C "__init__" = some (some (.builtin "ValueError.__init__"))
  nos : mg "super" = none
  slf : mroIn K C (.ref C) = some true
  top : (pr.main.scope.names.lookup ("super" : Str)).isSome = false
  fn : ∃ (oc : Value) (od : Option Addr) (qual : Str) (sc : Scope) (doc pm : Value) (an : Option Addr) (cda cc : Addr) (ct : Value) (osl : Array (Option Value)) (p1 p2 a1 a2 a3 a4 a5 a6 b1 b2 b3 b4 : Pos) (ccl cl : Value) (cdd cld : Option Addr) (vs : Array Value) (ccs csl : Array (Option Value)) (file : Str) (tf : Tok),
    K.lookup fI = some ⟨oc, od, .func (ksFn "__init__" qual (oA f p1 p2) (oB f a1 a2 a3 a4 a5 a6 b1 b2 b3 b4) sc .none .none doc pm an (.ref cda) ct cc), osl⟩ ∧ codeIn K (.ref cda) qual = true ∧ K.lookup cda = some ⟨ccl, cdd, .fields vs, ccs⟩ ∧ vs[2]? = some (.str file tf) ∧ ((pr.main.file : Str) == file) = true ∧
      K.lookup cc = some ⟨cl, cld, .cell (some (.ref C)), csl⟩ ∧ sc.names.lookup ("super" : Str) = some .globalImplicit ∧ sc.names.lookup ("__class__" : Str) = some .free ∧ sc.names.lookup ("self" : Str) = some .local ∧ sc.names.lookup f = some .local ∧ (∀ y ∈ sc.names, y.2 ≠ .cell) ∧ sc.kind = .function ∧
      sc.isCoroutine = false ∧ sc.isGenerator = false ∧ (∀ u v : Value, bindArgs (ksFn "__init__" qual (oA f p1 p2) (oB f a1 a2 a3 a4 a5 a6 b1 b2 b3 b4) sc .none .none doc pm an (.ref cda) ct cc) ⟨[u, v], []⟩ = pure [(("self" : Str), u), (f, v)]) ∧
      ∀ L : Addr, InitEnvOk f a1 a2 a3 a4 a5 a6 b1 b2 b3 b4 (ksEnv qual sc L fI (.ref cda) cc)
theorem bw_call {prog : Program} {w : World} {A : Around} {E : Value → Shared → Prop} {h : Heap} {g : Array GenState} {d : Drawn} {t : Nat} {os : OsState} {nm q : Str} {C N : Addr} {bs bm : List Value} {hdct : Bool} {sn : List Str} {sub : List Value} {ab : Bool} {col : Option Bool} {dd : Option Addr} {k0 k1 k2 k3 k5 : Option Value} {u e t0 : Addr} {rest : List Value} {Q : Value → Shared → Prop}
    (hC : h.get? C = some (excClassObj nm q C N bs bm hdct sn sub ab col dd k0 k1 k2 k3 k5 "ValueError.__new__")) (he : h.get? e = some (excO C t0)) (hu : h.get? u = some (kxs_mw "ValueError.__init__" e)) (hrest : rest.length ≤ sizeLine)
    (hq : ∀ h' t1, (∀ b o, b ≠ e → h.get? b = some o → h'.get? b = some o) → h'.get? e = some (excO C t1) → Q .none ⟨h', g, d, t, os⟩) : wpAny (model prog w) A (call (.ref u) rest) Q E ⟨h, g, d, t, os⟩ := by
  refine wpAny_call (codeAny_of_tree (show wpAny _ A.in1 (callAny (.ref u) ⟨rest, []⟩) _ _ _ from ?_))
  simp only [callAny]
  refine wpAny_bind (wpAny_load hu ?_)
  simp only [kxs_mw, show (Value.type "method-wrapper" == Value.type "method" || Value.type "method-wrapper" == Value.type "builtin_function_or_method" || Value.type "method-wrapper" == Value.type "method-wrapper") = true by decide, if_true]
  refine KFB.if_so (by decide) (wpAny_bind (check_bound_init F.excBase_ValueError.toExcCallFacts hC he rfl (wpAny_bind (wpAny_pure (wpAny_pure ⟨plainId_quiet F.excBase_ValueError.init.plain _, codeAny_builtin F.excBase_ValueError.initEntry ?_⟩)))))
  exact exc_init_tree (cls := .ref C) (t0 := t0) (dv := none) (c2 := .none) (c3 := .none) (b4 := .bool false) he hrest fun h' k e' _ => hq h' _ k e'
section
variable {prog : Program} {w : World} {A : Around} {E : Value → Shared → Prop} {Rr : Result → Shared → Prop} {s : Shared} {K : Frag} {mg : Str → Option Value} {x f : Str} {C fI : Addr}
/-- what __init__ leaves of a fresh exception at e -/
structure InitE (h h' : Heap) (e C dx t1 : Addr) (f : Str) (v : Value) : Prop where
  keep : ∀ b o, b ≠ e → h.get? b = some o → h'.get? b = some o
  obj : h'.get? e = some { cls := .ref C, dict := some dx, data := .fields #[.ref t1, .none, .none, .none, .bool false, .none] }
  dbig : h.objs.size ≤ dx
  dne : dx ≠ e
  ns : h'.Ns1 dx (fun y => if y = f then some v else none)
theorem one_init (T : OneX prog K mg x f C fI) {e t0 : Addr} {v : Value} (X : K.In s.heap) (hlim : s.heap.NoLimit) (hg : s.heap.Ns mainGlobals mg) (hb : ∃ mb, s.heap.Ns builtinsNs mb ∧ ∀ x : Str, x ≠ "__name__" → mb x = bootBuiltins x) (hx : s.heap.get? e = some (excO C t0)) (hnx : K.lookup e = none) (hnf : f ≠ ("self" : Str)) (hnd : (f == ("__debug__" : Str)) = false) (hroom : A.depth < recursionLimit)
    (hq : ∀ h' tk dx t1, InitE s.heap h' e C dx t1 f v → Rr (.ok (.ret .none)) { s with heap := h', toks := tk }) : codeAny (model prog w) A (.call (.ref fI) ⟨[.ref e, v], []⟩) Rr s := by
  obtain ⟨oc, od, qual, sc, doc, pm, an, cda, cc, ct, osl, p1, p2, a1, a2, a3, a4, a5, a6, b1, b2, b3, b4, ccl, cl, cdd, cld, vs, ccs, csl, file, tf, ho, hcd, hcda, hvs, hfile, hcell, hsu, hsc, hse, hsf, hnc, hk, hco, hgen, hbd, hen⟩ := T.fn
  obtain ⟨nm, q, N, bs, bm, sn, sub, ab, col, dd, k0, k1, k2, k3, k5, hC, hbm⟩ := T.cls
  obtain ⟨mb, hb1, hb2⟩ := hb
  refine ks_codeAny_call_defAt (fd := ksFn "__init__" qual (oA f p1 p2) (oB f a1 a2 a3 a4 a5 a6 b1 b2 b3 b4) sc .none .none doc pm an (.ref cda) ct cc) (body := oB f a1 a2 a3 a4 a5 a6 b1 b2 b3 b4) (binds := [("self", .ref e), (f, v)]) hroom (X _ _ ho) rfl hlim (codeRec_of X hcd) rfl (BindsTo.of_eq (hbd _ _)) hnc ?_ (fun h₁ hns k => ?_) hco hgen hk
  · intro y hy
    rcases List.mem_cons.mp hy with rfl | hy
    · exact hse
    · rcases List.mem_cons.mp hy with rfl | hy
      · exact hsf
      · cases hy
  have X₁ : K.In h₁ := X.keeps k
  have hx₁ := k _ _ hx
  have nsf : f ≠ ("self" : Str) := hnf
  have rS : List.reverse [(("self" : Str), Value.ref e), (f, v)] = [(f, v), ("self", .ref e)] := rfl
  have mS : (List.lookup ("self" : Str) [(f, v), (("self" : Str), Value.ref e)]) = some (.ref e) := by
    have z : (("self" : Str) == f) = false := by simpa using (fun q => nsf q.symm)
    simp [List.lookup, z]
  have mF : (List.lookup f [(f, v), (("self" : Str), Value.ref e)]) = some v := by simp [List.lookup]
  rw [rS] at hns
  obtain ⟨⟨pl, he⟩, hi, hs, ht⟩ := hen s.heap.objs.size
  refine ks_wpAt_execs_cons (ks_wpAt_Expr_any (ks_wpAt_MethodCall (pl := pl) ?_ he) hi hs)
  have hDC := X₁ _ _ hC
  have hxC : e ≠ C := fun z => by
    rw [z] at hx₁
    rw [hx₁] at hDC
    have y := congrArg Obj.data (Option.some.inj hDC)
    cases y
  refine ks_wpAt_super_base hsu hsc (by decide) rfl (X₁ _ _ ho) rfl rfl rfl (X₁ _ _ hcda) rfl hvs hfile T.top ?_
  refine ks_loadName_global hk hsu (loadGlobal_builtin (hg.keeps k) T.nos (hb1.keeps k) ((hb2 _ (by decide)).trans (by first | boot_by_name | rfl | kernel_rfl)) ⟨rfl, ?_⟩)
  refine wpAny_loadName_free hk hsc rfl ⟨_, X₁ _ _ hcell, rfl⟩ ?_
  refine wpAny_loadName_local hk hse hns mS ?_
  refine ks_wpAny_isType_cls hDC rfl ⟨rfl, ?_⟩
  refine ks_wpAny_call_super hDC rfl hx₁ rfl (fun c z => by cases z) (looks_mroIn X₁ T.slf) fun h₂ hso k₂ => ?_
  have X₂ : K.In h₂ := X₁.keeps k₂
  have hx₂ := k₂ _ _ hx₁
  have hcl : clsIn K C = some { name := nm, bases := bs, mro := .ref C :: bm, ns := N, qualname := q, hasDict := true, slotNames := sn, subclasses := sub, abstract := ab, collection := col, hasDel := false } := by unfold clsIn; rw [hC] <;> rfl
  have hsp := T.sup
  unfold ks_superIn at hsp
  rw [hcl] at hsp
  have II : InstAt h₂ e (excO C t0) C none := ⟨hx₂, rfl, rfl, trivial⟩
  refine kxs_getMethod kxs_ValueError hso (looks_opaque X₂ T.any) (fun A Q E s k q => wpAny_bind ((looks_clsIn X₂ hcl) A _ E s k (wpAny_pure q))) rfl X₂ hsp (II.type.andThen (looks_subIn X₂ T.vE)) hxC (by decide) ?_
  have k₃ : ∀ b o, h₂.get? b = some o → (h₂.push (kxs_mw "ValueError.__init__" e)).get? b = some o := fun b o z => Heap.get?_push_of_some _ z
  have hn₃ : (h₂.push (kxs_mw "ValueError.__init__" e)).Ns s.heap.objs.size fun y => List.lookup y [(f, v), ("self", .ref e)] := (hns.keeps k₂).keeps k₃
  have hu : (h₂.push (kxs_mw "ValueError.__init__" e)).get? h₂.objs.size = some (kxs_mw "ValueError.__init__" e) := Heap.get?_push_at rfl rfl
  refine kxs_callWith (i := "ValueError.__init__") (x := e) rfl (evalArgs_plain (Calls.spliced_cons (wpAny_Name (wpAny_loadName_local hk hsf hn₃ mF (Calls.spliced_nil ⟨hu, ?_⟩)) hnd)))
  refine bw_call (k₃ _ _ (k₂ _ _ hDC)) (k₃ _ _ hx₂) hu (by show 1 ≤ sizeLine; rw [sizeLine_eq]; omega) fun h₄ t1 k₄ hx₄ => ?_
  have nkC : ∀ b o, K.lookup b = some o → b ≠ e := fun b o z y => by rw [y, hnx] at z; cases z
  have X₄ : K.In h₄ := fun b o z => k₄ b o (nkC b o z) (k₃ b o (X₂ b o z))
  have eL : s.heap.objs.size ≠ e := Nat.ne_of_gt (Heap.lt_size hx)
  have hn₄ : h₄.Ns s.heap.objs.size fun y => List.lookup y [(f, v), ("self", .ref e)] := by
    obtain ⟨o, es, ep, z, r⟩ := hn₃
    exact ⟨o, es, ep, k₄ _ _ eL z, r⟩
  show _root_.PySem.wpAt _ _ _ (execs [_] _) _ _ _
  refine wpAt_of_wpAny (wpAny_execs_cons (plainObj_wpAny_Assign_Attribute (wpAny_Name (wpAny_loadName_local hk hsf hn₄ mF (wpAny_Name (wpAny_loadName_local hk hse hn₄ mS ?_) (by decide))) hnd) ht))
  refine set_plain X₄ (ox := excO C t1) (od := none) ⟨hx₄, rfl, rfl, trivial⟩ T.sa ?_
  refine exc_osa X₄ hx₄ hcl (show refsVE (.ref C :: bm) = true from hbm) rfl T.noN (fun h₅ tk₅ dx k₅ dn dne hx₅ hn₅ => ?_)
  have z1 : s.heap.objs.size < h₁.objs.size := hns.lt
  refine wpAny_execs_nil (hq h₅ tk₅ dx t1 ⟨fun b o hb z => k₅ b o hb (k₄ b o hb (k₃ b o (k₂ b o (k b o z)))), hx₅, ?_, dne, hn₅⟩)
  exact Nat.le_of_lt (Nat.lt_of_lt_of_le hn₄.lt dn)
/-- such an exception, made -/
structure MadeE (h h' : Heap) (e C d : Addr) (f : Str) (v : Value) : Prop where
  keep : ∀ b o, h.get? b = some o → h'.get? b = some o
  new : h.objs.size ≤ e
  obj : ∃ oe vs, h'.get? e = some oe ∧ oe.cls = .ref C ∧ oe.dict = some d ∧ oe.data = .fields vs ∧ vs[1]? = some .none
  dbig : h.objs.size ≤ d
  dne : d ≠ e
  ns : h'.Ns1 d (fun y => if y = f then some v else none)
theorem one_made (T : OneX prog K mg x f C fI) {v : Value} (X : K.In s.heap) (hlim : s.heap.NoLimit) (hg : s.heap.Ns mainGlobals mg) (hb : ∃ mb, s.heap.Ns builtinsNs mb ∧ ∀ x : Str, x ≠ "__name__" → mb x = bootBuiltins x) (hnf : f ≠ ("self" : Str)) (hnd : (f == ("__debug__" : Str)) = false) (hroom : A.depth + 1 < recursionLimit)
    (hq : ∀ h' tk e d, MadeE s.heap h' e C d f v → Rr (.ok (.ret (.ref e))) { s with heap := h', toks := tk }) : codeAny (model prog w) A (.call (.ref C) ⟨[v], []⟩) Rr s := by
  obtain ⟨nm, q, N, bs, bm, sn, sub, ab, col, dd, k0, k1, k2, k3, k5, hC, hbm⟩ := T.cls
  obtain ⟨mb, hb1, hb2⟩ := hb
  obtain ⟨hp, g, dr, tk, os⟩ := s
  have kk : ∀ b o, hp.get? b = some o → ((hp.push (kdv_tup [v])).push (excO C hp.objs.size)).get? b = some o := fun b o z => Heap.get?_push_of_some _ (Heap.get?_push_of_some _ z)
  have he : ((hp.push (kdv_tup [v])).push (excO C hp.objs.size)).get? (hp.objs.size + 1) = some (excO C hp.objs.size) := by heap_get
  have hnx : K.lookup (hp.objs.size + 1) = none := by
    cases z : K.lookup (hp.objs.size + 1) with
    | none => rfl
    | some o => exact absurd (Heap.lt_size (X _ _ z)) (by show ¬ hp.objs.size + 1 < hp.objs.size; omega)
  refine call_own F.excBase_ValueError (fun Y => refsVE_contains Y bm hbm) (X _ _ hC) (looks_findIn X T.iC) (fun self => bind_fn X self T.tC) (by show 1 ≤ sizeLine; rw [sizeLine_eq]; omega) ?_
  refine one_init (s := ⟨(hp.push (kdv_tup [v])).push (excO C hp.objs.size), g, dr, tk, os⟩) T (X.keeps kk) (hlim.keeps kk) (hg.keeps kk) ⟨mb, hb1.keeps kk, hb2⟩ he hnx hnf hnd (by show A.depth + 1 < recursionLimit; exact hroom) fun h' tk' dx t1 M => ?_
  have hz : hp.objs.size + 1 + 1 ≤ dx := by
    have y := M.dbig
    rw [Heap.size_push, Heap.size_push] at y
    exact y
  exact ⟨rfl, hq h' tk' (hp.objs.size + 1) dx ⟨fun b o z => M.keep b o (Nat.ne_of_lt (Nat.lt_succ_of_lt (Heap.lt_size z))) (kk b o z), Nat.le_succ _, ⟨_, _, M.obj, rfl, rfl, rfl, rfl⟩, by show hp.objs.size ≤ dx; omega, M.dne, M.ns⟩⟩
end
end DwX
namespace Dw
open PySem PySem.Spec PyProof.Rows L2
theorem relO_one {v : V} {u : Value} (r : RelV v u) (f y : Str) : RelO (List.lookup y [(f, v)]) (if y = f then some u else none) := relO_put (fs := []) (mA := fun _ => none) r (fun _ => True.intro) y
/-- x(e), x such an exception -/
def tMk1 (C : Addr) (f : Str) (ta : TA) : L2.St → Hp → XK → Prop := fun σ H Q => ta σ H fun vs H1 => ∃ v, vs = [v] ∧ ∀ d, H1 d = none → Q (.ref C) (some d) (upd H1 d (.xd [(f, v)]))
section
variable {X : Cx} {P : Pm} {W : WX} {E : XK} {e a b c : Expr} {es rest : List Expr} {pos : Pos} {ga gb gc g : G} {t u : GT} {C fI : Addr} {x f : Str}
theorem pmk_one {p1 : Pos} {ta : TA} {k : Nat} (T : DwX.OneX X.prog X.K X.mg x f C fI) (hr : Room k X.A) (ha : PA X [a] ta) (hg : Gl X x) (hnf : f ≠ ("self" : Str)) (hnd : (f == ("__debug__" : Str)) = false) (hdb : (x == ("__debug__" : Str)) = false)
    (he : starEach (a :: []) X.env = (false, eval a X.env) :: starEach [] X.env := by rfl) (hpl : (backTo pos (starEach [] X.env)).any (·.1) = false := by rfl) : PMk X (.Call (.Name x p1) [a] [] pos) (tMk1 C f ta) := by
  intro pins s σ H Q I h
  refine wpAny_Call_Name_kw (ld_glob I hg T.gC ?_ hdb)
  refine PySem.W.callWith_K (h₀ := X.base) I.ok.mod.kin T.kC (thn (ha.run pos pins s σ H _ I h) fun us s1 hh => ?_) he hpl
  obtain ⟨vs, H1, I1, r1, v, ev, q1⟩ := hh
  subst ev
  refine ⟨I1.kIn, ?_⟩
  cases r1 with
  | cons rv rn =>
    rename_i v' us'
    cases rn
    show wpAny _ _ (call (.ref C) [v']) _ _ _
    have bk := I1.bk
    have hlim := I1.nolimit
    obtain ⟨mb, b1, b2⟩ := I1.mod.blt
    have hgl := I1.mod.glob
    obtain ⟨hp, gs, dr, tk, os⟩ := s1
    refine wpAny_call (DwX.one_made T I1.kIn hlim (hgl.keeps bk) ⟨mb, b1.keeps bk, b2⟩ hnf hnd (by have := hr.dp; omega) fun h' tk' x0 d M => ?_)
    show MkP X pins σ Q (.ref x0) ⟨h', gs, dr, tk', os⟩
    obtain ⟨oe, fv, hoe, hc, hd, hdat, h1⟩ := M.obj
    obtain ⟨G', g1, g2⟩ := restrict h' fun b => decide (b ≠ x0)
    have gk : ∀ b, b ≠ x0 → G'.get? b = h'.get? b := fun b hb => g1 b (decide_eq_true hb)
    have ge : G'.get? x0 = none := g2 x0 (by simp)
    have old : ∀ b o, hp.get? b = some o → G'.get? b = some o := fun b o z => (gk b (Nat.ne_of_lt (Nat.lt_of_lt_of_le (Heap.lt_size z) M.new))).trans (M.keep b o z)
    have ob : ObjOk X.prog X.w (upd H1 d (.xd [(f, v)])) G' d (.xd [(f, v)]) := ⟨_, M.ns.at (fun o z => (gk d M.dne).trans z), fun y => relO_one rv f y⟩
    have J : Inv X pins σ (upd H1 d (.xd [(f, v)])) ⟨G', gs, dr, tk', os⟩ := I1.laid (t' := tk') old M.dbig ob
    refine ⟨x0, oe, fv, ⟨G', gs, dr, tk', os⟩, _, .ref C, some d, rfl, J, fun b o z => ?_, ge, hoe, ⟨hc, hd⟩, hdat, h1, ?_, rfl, I1.bare, raises_own T.exC T.tyC, q1 d (I1.hok.fresh M.dbig)⟩
    · by_cases hb : b = x0
      · subst hb
        have y : G'.get? b = some o := z
        rw [ge] at y
        cases y
      · rw [← gk b hb]; exact z
    · rw [upd_ne (Ne.symm M.dne)]
      exact I1.hok.fresh M.new
def sRaise (x f : Str) (g : G) : GS := fun ρ m => (g ρ m).bind fun d m => .exc x [(f, d)] m
theorem ds_raise {p1 pos2 : Pos} {k : Nat} (hM : P.mg = X.mg) (hc : X.calm = true) (T : DwX.OneX X.prog X.K X.mg x f C fI) (hr : Room k X.A) (tk : Takes X (xW E)) (ha : PE X a (tE P (xW E) g)) (hg : Gl X x) (hnf : f ≠ ("self" : Str)) (hnd : (f == ("__debug__" : Str)) = false) (hdb : (x == ("__debug__" : Str)) = false)
    (he : starEach (a :: []) X.env = (false, eval a X.env) :: starEach [] X.env := by rfl) (hpl : (backTo pos (starEach [] X.env)).any (·.1) = false := by rfl) : PS X (.Raise (some (.Call (.Name x p1) [a] [] pos)) none pos2) (tS P E (sRaise x f g)) := by
  refine (ps_raise hc tk (pmk_one T hr (pa_cons ha pa_nil he) hg hnf hnd hdb he hpl)).weaken fun D σ H h => ?_
  obtain ⟨α, ρ, m, rm, re, q⟩ := h
  refine ⟨α, ρ, m, rm, re, (Post.bind q).mono fun α1 H1 d m1 e1 r1 p1 v rv => ⟨v, rfl, fun dd hd => ?_⟩⟩
  refine p1 α1 _ (.ref C) (some dd) (Ext.side hd) (r1.side hd) ⟨C, dd, [(f, v)], rfl, by rw [hM]; exact T.gC, rfl, upd_same, .cons (rv.mono (Ext.side hd)) .nil⟩
end
end Dw

namespace Dw
open PySem PySem.Spec PyProof.Rows L2
/-! ### 14. try with several clauses that name the exception -/
abbrev Cls3 := Value × Nat × (Addr → Value → Option Addr → TS)
def bareE (i : Nat) (D : Ends) : Ends := { nx := fun σ H => D.nx (σ.set i none) H, rt := D.rt, bk := fun σ H => D.bk (σ.set i none) H, ct := fun σ H => D.ct (σ.set i none) H }
def wCl (K : PySem.W.Frag) (Wo : WX) (D : Ends) : List Cls3 → WX
  | [] => Wo
  | (c, i, ts) :: r => fun cls d σ H => ∃ b, PySem.W.exmOne K cls c = some b ∧ (b = true → ∀ a, H a = none → ts a cls d (bareE i D) (σ.set i (some (.ref a))) H) ∧ (b = false → wCl K Wo D r cls d σ H)
def wLn (X : Cx) (Wo : WX) (D : Ends) (l : List Cls3) : WX := fun cls d σ H => σ.length = X.N.length → wCl X.K Wo D l cls d σ H
inductive ClsOk (X : Cx) : List ExceptHandler → List Cls3 → Prop
  | nil : ClsOk X [] []
  | cons {x n : Str} {c : Value} {i : Nat} {ts : Addr → Value → Option Addr → TS} {b₀ : Stmt} {su : List Stmt} {np hp : Pos} {hds : List ExceptHandler} {l : List Cls3} (hi : X.N[i]? = some n) (hn : X.env.kindOf n = some .local) (hc : Names X x c)
      (hsu : ∀ (a : Addr) (oe : Obj) (cls : Value) (d : Option Addr) (pn : List (Addr × Obj)), Zc cls d oe → (∃ vs, oe.data = .fields vs) → PSs (X.suite a ((a, oe) :: pn)) (b₀ :: su) (ts a cls d)) (r : ClsOk X hds l) : ClsOk X (.ExceptHandler (some (.Name x np)) (some n) (b₀ :: su) hp :: hds) ((c, i, ts) :: l)
section
variable {X : Cx} {body : List Stmt} {h₀ : ExceptHandler} {hds : List ExceptHandler} {l : List Cls3} {pos : Pos} {tb : WX → TS} {Wo : WX}
theorem ps_try_cls (hs : X.stack = X.env :: X.outer) (hf : X.env.frame = some X.env.locals) (hN : X.N.Nodup) (tk : Takes X Wo)
    (hb : ∀ (W : WX) (pn : List (Addr × Obj)) (xe : Value → Shared → Prop), Takes (X.tr pn xe) W → PassesOwn (model X.prog X.w) X.A X.env xe → PSs (X.tr pn xe) body (tb W)) (hh : ClsOk X (h₀ :: hds) l) : PS X (.Try body (h₀ :: hds) [] [] pos) (fun D σ H => tb (wLn X Wo D l) D σ H) := by
  refine ⟨fun pins s σ H D I h => wpAny_Try_except ?_⟩
  have okI := I.ok
  have frm : X.A.frames = some (X.env :: X.outer) := by rw [okI.frames, hs]
  refine wpAny_mono ((hb (wLn X Wo D l) (X.pn ++ pins) (fun ev s₁ => wpAny (model X.prog X.w) X.A (noteFrame ev X.env) (fun _ s₂ => wpAny (model X.prog X.w) X.A (setFlight ev none) (fun _ s₃ => wpAny (model X.prog X.w) X.A (handleBy ev X.env (h₀ :: hds)) (SP X pins D) X.xe s₃) X.xe s₂) X.xe s₁) (fun u s' xx => ?_) PassesOwn.looking).run [] s σ H D (I.toTry _) h) (fun fl s1 hsp => ?_) (fun ev s1 z => z)
  · obtain ⟨a, B, sI, pins', σ', H', cls, d, rfl, J0, nb, up, sky, na, os, ag, wc0⟩ := xx
    have wc := wc0 (J0.len)
    have J : Inv X pins σ' H' sI := J0.ofTry okI
    have skyX : Sky B (X.env :: X.outer) a (Zc cls d) X.env.locals s'.heap := by rw [← hs]; exact sky
    show wpAny (model X.prog X.w) X.A (noteFrame (.ref a) X.env) _ _ _
    refine Sky.land Zc.steady frm hf skyX fun g3 fy3 uq3 => ?_
    have JA : Inv X pins σ' H' { s' with heap := g3 } := J.landed nb fy3.1 (up.trans uq3) os ag
    obtain ⟨oA, vA, eA, zA, dA⟩ := fy3.there
    have nfr : a ∉ frs (X.env :: X.outer) := fun hm => by
      obtain ⟨_, o', e', hnf⟩ := (fy3.2.2.1).mem hm
      rw [eA] at e'
      cases e'
      exact hnf _ dA
    have nL : a ≠ X.env.locals := fun z => nfr (List.mem_filterMap.mpr ⟨X.env, List.mem_cons_self, by rw [hf, z]⟩)
    have nF : a ∉ X.fs := fun hm => by
      obtain ⟨en, hen, q⟩ := List.mem_filterMap.mp hm
      exact nfr (List.mem_filterMap.mpr ⟨en, List.mem_cons_of_mem _ hen, q⟩)
    have SA := JA.suite eA dA na nL nF
    have go : ∀ {hs' : List ExceptHandler} {l' : List Cls3}, ClsOk X hs' l' → wCl X.K Wo D l' cls d σ' H' → wpAny (model X.prog X.w) X.A (handleBy (.ref a) X.env hs') (SP X pins D) X.xe { s' with heap := g3 } := by
      intro hs' l' hk
      induction hk with
      | nil =>
        intro wl
        refine wpAny_handleBy_nil ?_
        obtain ⟨_, _, _, oe, vs, T, oT, ts', he, hz, hd, h1, hr⟩ := id fy3
        unfold PySem.passOn
        refine wpAny_bind (wpAny_field he hd h1 ?_)
        rw [if_neg (show ¬ ((Value.ref T == Value.none) = true) from by simp)]
        have endX : wpAny (model X.prog X.w) X.A (setFlight (.ref a) X.env.frame) (fun _ s4 => wpAny (model X.prog X.w) X.A (throw (.ref a) : Sem Flow) (SP X pins D) X.xe s4) X.xe { s' with heap := g3 } := by
          rw [hf]
          refine HandSPX.setFlight_upZ fy3 fun g4 hh4 uq4 => wpAny_throw (tk _ _ ⟨a, B, sI, pins, σ', H', cls, d, rfl, J, nb, (up.trans uq3).trans uq4, .inr (.inr (by rw [hs]; exact hh4)), na, os, ag, wl⟩)
        first
          | exact wpAny_bind (wpAny_pure (wpAny_bind endX))
          | exact wpAny_bind endX
      | @cons x n c i ts b₀ su np hp hd2 l2 hi hn hc hsu r ih =>
        intro wl
        obtain ⟨b, hb1, hyes, hno⟩ := wl
        refine wpAny_handleBy_cons (codeAny_handlers_test ?_) (by intro q; cases q)
        have LT : PySem.W.Looks (model X.prog X.w) g3 (typeOf (.ref a)) cls := fun A Q E s k q => wpAny_typeOf_ref (k _ _ eA) (by rw [zA.1]; exact q)
        have LM := PySem.W.exm_one (M := model X.prog X.w) (JA.kIn) LT hb1
        have test : ∀ {Q : Value → Shared → Prop} {E : Value → Shared → Prop}, Q c { s' with heap := g3 } → wpAny (model X.prog X.w) (X.A.mark (some (.ref a))) (eval (.Name x np) X.env) Q E { s' with heap := g3 } := fun {Q E} q => by
          obtain ⟨hg, hdbg, hm | ⟨hm, hv, hnn⟩⟩ := hc
          · exact ld_glob (X := X.suite a ((a, oA) :: (X.pn ++ pins))) SA hg hm q hdbg
          · exact ld_blt (X := X.suite a ((a, oA) :: (X.pn ++ pins))) SA hg hm hv q hnn hdbg
        refine test (LM.here ?_)
        cases b with
        | false =>
          show wpAny _ X.A (handleBy (.ref a) X.env hd2) _ _ _
          exact ih (hno rfl)
        | true =>
          refine codeAny_handlers_suite_as (HandSPX.lands_againZ fy3 fun g4 fy4 uq4 => ?_)
          have JB : Inv X pins σ' H' { s' with heap := g4 } := J.landed nb fy4.1 ((up.trans uq3).trans uq4) os ag
          obtain ⟨oB, vB, eB, zB, dB⟩ := fy4.there
          have SB := JB.suite eB dB na nL nF
          refine store_ok (X := X.suite a ((a, oB) :: (X.pn ++ pins))) (v := .ref a) SB hN hi (.inl hn) rfl (fun s5 SC => ?_) (.inr hn)
          refine wpAny_mono ((hsu a oB cls d (X.pn ++ pins) zB ⟨_, dB⟩).run [] s5 _ H' _ SC (hyes rfl a na)) (fun f s6 hsp => ?_) (fun _ _ z => False.elim z)
          have fin : ∀ {σ6 : L2.St} {H6 : Hp} {Q : Shared → Prop}, Inv (X.suite a ((a, oB) :: (X.pn ++ pins))) [] σ6 H6 s6 → (∀ s7, Inv X pins (σ6.set i none) H6 s7 → Q s7) → wpAny (model X.prog X.w) X.A (do bindName X.env n .none; unbindBehindTheSuite X.env n hp) (fun _ s7 => Q s7) X.xe s6 :=
            fun {σ6 H6 Q} S6 hq => gone_ok (S6.unsuite okI) hN hi hn hq
          cases f with
          | next => obtain ⟨σ6, H6, S6, q6⟩ := hsp; exact fin S6 fun s7 J7 => ⟨_, _, J7, q6⟩
          | brk => obtain ⟨σ6, H6, S6, q6⟩ := hsp; exact fin S6 fun s7 J7 => ⟨_, _, J7, q6⟩
          | cont => obtain ⟨σ6, H6, S6, q6⟩ := hsp; exact fin S6 fun s7 J7 => ⟨_, _, J7, q6⟩
          | ret u => obtain ⟨v6, σ6, H6, S6, r6, q6⟩ := hsp; exact fin S6 fun s7 J7 => ⟨_, _, _, J7, r6, q6⟩
    exact go hh wc
  · cases fl with
    | next => obtain ⟨σ', H', J', q⟩ := hsp; exact wpAny_execs_nil ⟨σ', H', J'.ofTry okI, q⟩
    | brk => obtain ⟨σ', H', J', q⟩ := hsp; exact ⟨σ', H', J'.ofTry okI, q⟩
    | cont => obtain ⟨σ', H', J', q⟩ := hsp; exact ⟨σ', H', J'.ofTry okI, q⟩
    | ret u => obtain ⟨v, σ', H', J', r, q⟩ := hsp; exact ⟨v, σ', H', J'.ofTry okI, r, q⟩
end

/-! ### 15. a lambda handed to a def that calls it and tells what it raises -/
structure Cl4 where
  x : Str
  C : Addr
  msg : Str
  f : Str
def clauseOf : List Cl4 → Str → List (Str × D) → Option (Str × D)
  | [], _, _ => none
  | k :: r, c, fs => if c = k.x then (fs.lookup k.f).map fun d => (k.msg, d) else clauseOf r c fs
/-- what is told of a result -/
def toldR (l : List Cl4) (r : R D) : R D := match r with
  | .ok d m => .ok d m
  | .exc c fs m => match clauseOf l c fs with
    | some (msg, d) => .ok (.ref m.length) (m ++ [.lst [.str msg, d]])
    | none => .bad
  | .bad => .bad
def eTold (l : List Cl4) (g : G) : G := fun ρ m => toldR l (g ρ m)
/-- the classes of the clauses -/
structure ClassesOk (P : Pm) (l : List Cl4) : Prop where
  mg : ∀ k ∈ l, P.mg k.x = some (.ref k.C)
  exm : ∀ k ∈ l, ∀ j ∈ l, PySem.W.exmOne P.K (.ref k.C) (.ref j.C) = some (decide (k.x = j.x))
  xf : ∀ k ∈ l, XfC P.K k.C
  no : ∀ k ∈ l, PySem.W.findIn P.K (.ref k.C) k.f = some none
def cl3 (i : Nat) (k : Cl4) : Cls3 := (.ref k.C, i, fun a cls d => tRet (tLst (tCons (tC (.str k.msg)) (tCons (tXf a cls d k.C k.f (tVar i)) tNil))))
/-- the clauses' text: en the exception's name -/
inductive ClTxt (X : Cx) (en : Str) : List Cl4 → List ExceptHandler → Prop
  | nil : ClTxt X en [] []
  | cons {k : Cl4} {j : Nat} {np p1 p2 p3 p4 p5 p6 : Pos} {r : List Cl4} {hds : List ExceptHandler} (hg : Gl X k.x) (hd : (k.x == ("__debug__" : Str)) = false) (h : ClTxt X en r hds) :
      ClTxt X en (k :: r) (.ExceptHandler (some (.Name k.x np)) (some en) [.Return (some (.List [.Constant (.str k.msg) j p1, .Attribute (.Name en p2) k.f p3] p4)) p5] p6 :: hds)
section
variable {P : Pm}
theorem rfs_lookup {α : List Addr} {H : Hp} {f : Str} {d : D} : ∀ {fv : List (Str × V)} {fs : List (Str × D)}, RFs P α H fv fs → fs.lookup f = some d → ∃ v, fv.lookup f = some v ∧ RD P α H v d
  | _, _, .nil, h => by simp [List.lookup] at h
  | _, _, .cons (n := n) r rs, h => by
    simp only [List.lookup] at h ⊢
    split at h
    · cases h; exact ⟨_, rfl, r⟩
    · exact rfs_lookup rs h
theorem clause_mem : ∀ {l : List Cl4} {c : Str} {fs : List (Str × D)} {z : Str × D}, clauseOf l c fs = some z → ∃ k ∈ l, c = k.x
  | [], _, _, _, h => by cases h
  | k :: r, c, fs, z, h => by
    unfold clauseOf at h
    split at h
    · rename_i e; exact ⟨k, List.mem_cons_self, e⟩
    · obtain ⟨j, hj, e⟩ := clause_mem h; exact ⟨j, List.mem_cons_of_mem _ hj, e⟩
theorem told_wish {l0 : List Cl4} (C : ClassesOk P l0) {i n : Nat} (hi : i < n) {α : List Addr} {H : Hp} {cls : Value} {dd : Option Addr} {c : Str} {fs : List (Str × D)} {D0 : Ends} {msg : Str} {d : D} (x : ExcR P α H cls dd c fs)
    (hw : ∀ v p, RD P α H v d → H p = none → D0.rt (.ref p) (upd H p (.lst [.str msg, v]))) :
    ∀ {l : List Cl4}, (∀ k ∈ l, k ∈ l0) → clauseOf l c fs = some (msg, d) → ∀ σ : L2.St, σ.length = n → wCl P.K (fun _ _ _ _ => False) D0 (l.map (cl3 i)) cls dd σ H := by
  intro l
  obtain ⟨Ca, da, fv, rfl, hm, rfl, hxd, rf⟩ := x
  induction l with
  | nil => intro _ h; cases h
  | cons k r ih =>
    intro hl h σ hσ
    obtain ⟨k2, hk2, ec⟩ := clause_mem h
    have hC2 : Ca = k2.C := by
      have y := C.mg k2 (hl k2 hk2)
      rw [← ec, hm] at y
      cases y; rfl
    have hk0 := hl k List.mem_cons_self
    refine ⟨_, by rw [hC2]; exact C.exm k2 (hl k2 hk2) k hk0, fun e a ha => ?_, fun e => ?_⟩
    · have e2 : k2.x = k.x := of_decide_eq_true e
      have eC : Ca = k.C := by
        have y := C.mg k hk0
        rw [← e2, ← ec, hm] at y
        cases y; rfl
      unfold clauseOf at h
      rw [if_pos (ec.trans e2)] at h
      cases el : fs.lookup k.f with
      | none => rw [el] at h; cases h
      | some d' =>
        rw [el] at h
        have h' := Option.some.inj h
        cases h'
        obtain ⟨v, hv, rv⟩ := rfs_lookup rf el
        refine ⟨.ref a, ?_, rfl, by rw [eC], da, fv, v, rfl, hxd, hv, (by show 2 ≤ sizeLine; rw [sizeLine_eq]; omega), fun p hp => hw v p rv hp⟩
        exact List.getElem?_set_self (by omega)
    · have e2 : ¬ k2.x = k.x := of_decide_eq_false e
      unfold clauseOf at h
      rw [if_neg (by rw [ec]; exact e2)] at h
      exact ih (fun j hj => hl j (List.mem_cons_of_mem _ hj)) h σ hσ
theorem clsOk_of {X : Cx} {en : Str} {i : Nat} {l0 : List Cl4} (hK : P.K = X.K) (hM : P.mg = X.mg) (C : ClassesOk P l0) (hi : X.N[i]? = some en) (hn : X.env.kindOf en = some .local) (hd : (en == ("__debug__" : Str)) = false) (hcd : (en == ("__classdict__" : Str)) = false) : ∀ {l : List Cl4} {hds : List ExceptHandler}, (∀ k ∈ l, k ∈ l0) → ClTxt X en l hds → ClsOk X hds (l.map (cl3 i)) := by
  intro l hds hl h
  induction h with
  | nil => exact .nil
  | @cons k j np p1 p2 p3 p4 p5 p6 r hds hg hdx h ih =>
    refine .cons hi hn ⟨hg, hdx, .inl (by rw [← hM]; exact C.mg k (hl k List.mem_cons_self))⟩ (fun a oe cls d pn hz hf => ?_) (ih fun j hj => hl j (List.mem_cons_of_mem _ hj))
    exact pss_one (ps_ret (pe_lst (pa_cons pe_str (pa_cons (pe_xf (by rw [← hK]; exact C.xf k (hl k List.mem_cons_self)) (by rw [← hK]; exact C.no k (hl k List.mem_cons_self)) hz hf (pe_var hi (.inl hn) hd hcd)) pa_nil))))
/-- told: the reading of its body, tl the lambda's own -/
def TTo (P : Pm) (l : List Cl4) : (XK → Hp → VK → Prop) → Hp → VK → Prop := fun tl H Q =>
  tl (fun cls d H' => ∀ σ : L2.St, σ.length = 2 → wCl P.K (fun _ _ _ _ => False) { nx := fun _ H' => Q .non H', rt := Q } (l.map (cl3 1)) cls d σ H') H Q
theorem told_gives2 {X : Cx} {a x en q : Str} {sg : Scope} {g : Addr} {cdg : Value} {l : List Cl4} {h₀ : ExceptHandler} {hds : List ExceptHandler} {p1 p2 p3 p8 : Pos} (hK : P.K = X.K) (hM : P.mg = X.mg) (C : ClassesOk P l) (hnd : [a, en].Nodup) (hln : sg.names.lookup en = some .local) (hd : (en == ("__debug__" : Str)) = false) (hcd : (en == ("__classdict__" : Str)) = false)
    (ht : ∀ (s : Shared) (H : Hp), ClTxt (cxOf C8.CX0 X.prog X.w X.K X.mg X.base [a, en] x sg g cdg X.A X.stack s H C8.E0).nox en l (h₀ :: hds)) :
    LamX.GivesTo X [a, en] x sg g cdg [.Try [.Return (some (.Call (.Name a p1) [] [] p2)) p3] (h₀ :: hds) [] [] p8] a q (TTo P l) := by
  intro f c' s H Q tl act hc h
  refine ⟨_, pss_one (ps_try_cls (X := (cxOf C8.CX0 X.prog X.w X.K X.mg X.base [a, en] x sg g cdg X.A X.stack s H C8.E0).nox) (Wo := fun _ _ _ _ => False) (l := l.map (cl3 1)) (tb := fun W D σ H => ∃ Ech : XK, (∀ cls d σ' H', Ech cls d H' → W cls d σ' H') ∧ σ[0]? = some (some (.ref f)) ∧ H c' = some (LamX.CodeO c' q) ∧ tl Ech H D.rt)
      rfl rfl hnd LamX.takes0 (fun W pn xe tk _ => ?_) (clsOk_of (X := (cxOf C8.CX0 X.prog X.w X.K X.mg X.base [a, en] x sg g cdg X.A X.stack s H C8.E0).nox) (i := 1) hK hM C rfl hln hd hcd (fun k hk => hk) (ht s H))), ?_⟩
  · refine ⟨fun pins s' σ H' D I h' => ?_⟩
    obtain ⟨Ech, hW, h1, h2, h3⟩ := h'
    exact (pss_one (ps_ret (pos := p3) (act W pn xe Ech p1 p2 tk hW))).run pins s' σ H' D I ⟨h1, h2, h3⟩
  · exact ⟨_, fun cls d σ' H' z hl => by rw [← hK]; exact z σ' hl, rfl, hc, h⟩
end
section
variable {X : Cx} {P : Pm} {W : WX}
theorem xN_sqt {K : PySem.W.Frag} {H H1 : Hp} (e : LamX.ExtN H H1) {b : Addr} {xs : List V} (h : SqT K H b xs) : SqT K H1 b xs := by
  rcases h with (h | ⟨o, h⟩) | h
  · exact .inl (.inl (e b _ h fun _ z => nomatch z))
  · exact .inl (.inr ⟨o, e b _ h fun _ z => nomatch z⟩)
  · exact .inr h
theorem xN_frz {K : PySem.W.Frag} {H H1 : Hp} (e : LamX.ExtN H H1) {b : Addr} {xs : List V} (h : FrzL K H b xs) : FrzL K H1 b xs := by
  rcases h with ⟨o, h⟩ | h
  · exact .inl ⟨o, e b _ h fun _ z => nomatch z⟩
  · exact .inr h
theorem xN_ext {α : List Addr} {H H1 : Hp} (e : LamX.ExtN H H1) : Ext P α H α H1 := ⟨⟨[], by simp⟩, fun b o h n t => ⟨e b o h t, n⟩, fun _ _ h => xN_sqt e h, fun _ _ h => xN_frz e h⟩
theorem xN_rm {α : List Addr} {H H1 : Hp} {m : Mem} (e : LamX.ExtN H H1) (t : LamX.Tabs P.T H1) (rm : RM P α H m) : RM P α H1 m := ⟨rm.len, rm.inj, fun i c a h1 h2 => by
  have z := rm.cell i c a h1 h2
  cases c with
  | lst ds => obtain ⟨vs, q, r⟩ := z; exact ⟨vs, e a _ q (fun _ z => nomatch z), r.mono (xN_ext e)⟩
  | dct ds => obtain ⟨vs, q, r⟩ := z; exact ⟨vs, e a _ q (fun _ z => nomatch z), r.mono (xN_ext e)⟩, t⟩
/-- the lambda's reading becomes told's -/
theorem lam_told {l : List Cl4} {g : G} {σ : L2.St} {H : Hp} {Q : VK} (C : ClassesOk P l) (h : tE P W (eTold l g) σ H Q) : LamX.tLam P.T (TTo P l) (fun E => tE P (xW E) g) σ H Q := by
  obtain ⟨α, ρ, m, rm, re, q⟩ := h
  refine ⟨rm.tab, fun H1 eN T1 => ?_⟩
  have e1 : Ext P α H α H1 := xN_ext eN
  have r1 := xN_rm eN T1 rm
  refine ⟨α, ρ, m, r1, re.mono e1, ?_⟩
  have q1 := Post.from q e1
  unfold eTold toldR at q1
  cases hg : g ρ m with
  | ok d m1 => rw [hg] at q1; exact q1
  | bad => rw [hg] at q1; exact q1
  | exc c fs m1 =>
    rw [hg] at q1
    dsimp only at q1
    cases hc : clauseOf l c fs with
    | none => rw [hc] at q1; exact False.elim q1
    | some z =>
      obtain ⟨msg, d⟩ := z
      rw [hc] at q1
      intro α2 H2 cls dd e2 r2 x2 σ2 hl2
      refine told_wish C (by omega : 1 < 2) x2 (fun v p rv hp => ?_) (fun k hk => hk) hc σ2 hl2
      have hnw : RM P (α2 ++ [p]) (upd H2 p (.lst [.str msg, v])) (m1 ++ [.lst [.str msg, d]]) := r2.new hp ⟨_, upd_same, .cons (.str msg) (.cons (rv.mono (Ext.new hp)) .nil)⟩
      exact q1 (α2 ++ [p]) _ (e2.trans (Ext.new hp)) hnw _ (.ref (by rw [← r2.len, List.getElem?_concat_length]))
theorem de_told {l : List Cl4} {gg : G} {x a : Str} {g c Pt : Addr} {k : Nat} {pg : Arguments} {bg : List Stmt} {sg : Scope} {dV kV doc pm cdv ct oc : Value} {an od : Option Addr} {osl : Array (Option Value)} {Ng : List Str} {params : Arguments} {body : Expr} {scope : Scope} {p lpos pos : Pos}
    (C : ClassesOk P l) (hg : Gl X x) (hm : X.mg x = some (.ref g)) (hk : PySem.W.keepIn X.K (.ref g) = true) (lk : X.K.lookup g = some ⟨oc, od, .func (PySem.W.fnOf x x pg bg sg dV kV doc pm an cdv ct), osl⟩) (hcg : PySem.W.codeIn X.K cdv x = true)
    (hb : L2.Binds X.K (PySem.W.fnOf x x pg bg sg dV kV doc pm an cdv ct) [a] []) (Sg : FnScope Ng [a] sg) (hNg : Ng[0]? = some a) (hva : Vis sg a) (hG : LamX.GivesTo X Ng x sg g cdv bg a (X.env.qual ++ "<lambda>") (TTo P l)) (TB : LamX.TabB X.base X.mg c Pt) (hcode : X.env.code = .ref c) (hmT : (Pt, X.env.qual ++ "<lambda>") ∈ P.T)
    (hu : ∀ p ∈ P.T, p.1 = Pt → p.2 = X.env.qual ++ "<lambda>") (hr : Room (k + 2) X.A) (L : LamX.LamS X.env.scope scope) (hdef : defaultsOf params X.env = ([], [])) (hbind : ∀ (q : Str) (cl : List (Str × Addr)) (pm cv ctv : Value), bindArgs (PySem.W.kla_fn "<lambda>" q params body scope cl pm cv ctv) ⟨[], []⟩ = pure [])
    (hbody : ∀ (A : Around) (outer : List PySem.Env) (s : Shared) (H : Hp) (E : XK) (f c' : Addr), Room k (A.deeper (LamX.lamEnv X scope s.heap.objs.size f c')) → PE (LamX.lamCx X A outer s H E scope f c') body (tE P (xW E) gg))
    (hdb : (x == ("__debug__" : Str)) = false := by decide) (hd : (a == ("__debug__" : Str)) = false := by decide) (hcd : (a == ("__classdict__" : Str)) = false := by decide) : PE X (.Call (.Name x p) [.Lambda params body scope lpos] [] pos) (tE P W (eTold l gg)) :=
  (LamX.pe_lamcall (t := fun E => tE P (xW E) gg) hg hm hk lk hcg hb Sg hNg hva hG TB hcode hmT hu hr L hdef hbind hbody hdb hd hcd).weaken fun σ H Q h => lam_told C h
end
end Dw

namespace Dw
open PySem PySem.Spec PyProof.Rows L2
/-! ### 16. the end: the law's own call -/
theorem rds_ints {P : Pm} {α : List Addr} {H : Hp} : ∀ ns : List Int, RDs P α H (ns.map V.int) (ns.map D.int)
  | [] => .nil
  | n :: r => .cons (.int n) (rds_ints r)
section
variable {p : Program} {w : World} {P : Pm} {tbs : List (Addr × Addr)} {mb : Str → Option Value} {k : Nat} {fa a : Addr} {fd : FuncData} {x : Str} {cf : List D → Mem → R D} {s : Shared} {vs : List Value} {ns : List Int}
/-- the abstract heap ahead of the law: the tables; the script where it is not written -/
def hpEnd (K : PySem.W.Frag) (tbs : List (Addr × Addr)) (a : Addr) (vs : List Value) (ns : List Int) : Hp := fun b =>
  if b = a ∧ K.lookup a = none then some (.frz { cls := .type "list", data := .seq vs.toArray } (.lst (ns.map V.int))) else if b ∈ tbs.map (·.2) then some (.tbl #[]) else none
theorem law_end (hk : P.K.In s.heap) (hgl : s.heap.Ns mainGlobals P.mg) (hbl : s.heap.Ns builtinsNs mb) (hbb : ∀ y : Str, y ≠ "__name__" → mb y = bootBuiltins y) (hlim : s.heap.NoLimit) (hgen : s.gens = #[])
    (tabs : ∀ z ∈ tbs, s.heap.get? z.2 = some { cls := .none, data := .fields #[] } ∧ P.K.lookup z.2 = none ∧ PySem.W.CodeHd s.heap z.1 z.2) (hT : ∀ z ∈ P.T, z.1 ∈ tbs.map (·.2))
    (hbm : ∃ (bm : Addr) (ob : Obj), P.mg "__builtins__" = some (.ref bm) ∧ bm ≠ builtinsNs ∧ s.heap.get? bm = some ob ∧ ob.cls = .type "module" ∧ ob.dict = some builtinsNs ∧ ob.data = .plain)
    (hobj : s.heap.get? a = some { cls := .type "list", data := .seq vs.toArray }) (hints : IntsAre vs ns) (hlen : ns.length ≤ sizeLine) (hr : Room k callerA)
    (F : ∀ base : Heap, P.K.In base → base.Ns mainGlobals P.mg → (∀ z ∈ tbs, LamX.TabB base P.mg z.1 z.2) → FnG p w P base true k fa fd [x] cf) (hbind : ∀ (s : Shared) (u : Value), BindsTo s fd ⟨[u], []⟩ [(x, u)]) (law : ∃ m, cf [.fl (ns.map D.int)] [] = .ok (.bl true) m) :
    codeAny (model p w) callerA (.call (.ref fa) ⟨[.ref a], []⟩) (fun r s' => r = .ok (.ret (.bool true)) ∧ OldK s.heap s'.heap ∧ s'.os = s.os ∧ AllBare s'.gens) s := by
  obtain ⟨H, eH⟩ : ∃ H, H = hpEnd P.K tbs a vs ns := ⟨_, rfl⟩
  have isT : ∀ b, b ∈ tbs.map (·.2) → s.heap.get? b = some { cls := .none, data := .fields #[] } := fun b hb => by
    obtain ⟨z, hz, rfl⟩ := List.mem_map.mp hb
    exact (tabs z hz).1
  have aT : a ∉ tbs.map (·.2) := fun hb => by
    have q := isT a hb
    rw [hobj] at q
    cases congrArg Obj.data (Option.some.inj q)
  -- what H tells
  have tell : ∀ b o, H b = some o → (b = a ∧ P.K.lookup a = none ∧ o = .frz { cls := .type "list", data := .seq vs.toArray } (.lst (ns.map V.int))) ∨ (b ∈ tbs.map (·.2) ∧ o = .tbl #[]) := fun b o q => by
    rw [eH] at q
    unfold hpEnd at q
    split at q
    · rename_i c; cases q; exact .inl ⟨c.1, c.2, rfl⟩
    · split at q
      · rename_i c; cases q; exact .inr ⟨c, rfl⟩
      · cases q
  have atT : ∀ b, b ∈ tbs.map (·.2) → H b = some (.tbl #[]) := fun b hb => by
    rw [eH]; unfold hpEnd
    rw [if_neg (fun c => aT (by rw [← c.1]; exact hb)), if_pos hb]
  have free : ∀ {b o}, s.heap.get? b = some o → (∀ us n, o.data ≠ .seq us n) → o.data ≠ .fields #[] → H b = none := fun {b o} e h1 h2 => by
    cases q : H b with
    | none => rfl
    | some u =>
      rcases tell b u q with ⟨rfl, _, _⟩ | ⟨hb, _⟩
      · rw [hobj] at e; cases e; exact absurd rfl (h1 _ _)
      · rw [isT b hb] at e; cases e; exact absurd rfl h2
  have freeK : ∀ {b o}, P.K.lookup b = some o → H b = none := fun {b o} e => by
    cases q : H b with
    | none => rfl
    | some u =>
      rcases tell b u q with ⟨rfl, hn, _⟩ | ⟨hb, _⟩
      · rw [hn] at e; cases e
      · obtain ⟨z, hz, rfl⟩ := List.mem_map.mp hb
        rw [(tabs z hz).2.1] at e; cases e
  have rv := vals_ints hints
  have hok : HOk p w H s.heap := fun b u q => by
    rcases tell b u q with ⟨rfl, _, rfl⟩ | ⟨hb, rfl⟩
    · exact ⟨hobj, by rw [List.length_map]; exact hlen, vs, _, rv, hobj⟩
    · exact isT b hb
  have nsK : ∀ {b : Addr} {m : Str → Option Value}, s.heap.Ns b m → (hidT s.heap H).Ns b m := fun {b m} ⟨o, es, ep, e, hd, r⟩ =>
    ⟨o, es, ep, hidT_get e (free e (fun us n z => by rw [hd] at z; cases z) fun z => by rw [hd] at z; cases z), hd, r⟩
  have kIn : P.K.In (hidT s.heap H) := fun b o e => hidT_get (hk b o e) (freeK e)
  have hmod : L2.Mod P.K P.mg (hidT s.heap H) := ⟨kIn, nsK hgl, ⟨mb, nsK hbl, hbb⟩, let ⟨mc, h1, h2⟩ := hlim; ⟨mc, nsK h1, h2⟩⟩
  have noG : ∀ {b : Addr} {o : Obj}, s.heap.get? b = some o → (∀ es ep, o.data ≠ .dict es ep) → mainGlobals ≠ b := fun {b o} e hd z => by
    obtain ⟨o', es, ep, e', hd', _⟩ := hgl
    rw [z, e] at e'
    cases e'
    exact hd _ _ hd'
  have tabB : ∀ z ∈ tbs, LamX.TabB (hidT s.heap H) P.mg z.1 z.2 := fun z hz => by
    obtain ⟨t1, t2, t3⟩ := tabs z hz
    refine ⟨?_, ?_, noG t1 fun es ep q => by cases q⟩
    · obtain ⟨o, us, file, tf, flags, tg, inF, text, tt, c1, c2, c3, c4, cr⟩ := t3
      refine ⟨o, us, file, tf, flags, tg, inF, text, tt, hidT_get c1 (free c1 (fun us n q => by rw [c3] at q; cases q) fun q => ?_), c2, c3, c4, cr⟩
      rw [c3] at q
      cases q
      simp at c4
    · obtain ⟨bm, ob, b1, b2, b3, b4, b5, b6⟩ := hbm
      refine ⟨bm, ob, b1, b2, fun q => noG b3 (fun es ep q => by rw [b6] at q; cases q) q.symm, fun q => ?_, hidT_get b3 (free b3 (fun us n q => by rw [b6] at q; cases q) fun q => by rw [b6] at q; cases q), b4, b5, b6⟩
      rw [q, t1] at b3
      cases b3
      cases b6
  have env0 : Env0 p w P.K P.mg (hidT s.heap H) callerA [] s H := ⟨rfl, hmod, fun b o e => of_hidT e, Nat.le_of_eq (hidT_size _ _), trivial, fun b hb => absurd (show b ∈ ([] : List Addr) from hb) (by simp), hok, .of_eq hgen⟩
  have frz : FrzL P.K H a (ns.map V.int) := by
    cases hka : P.K.lookup a with
    | none => exact .inl ⟨_, by rw [eH]; unfold hpEnd; rw [if_pos ⟨rfl, hka⟩]⟩
    | some o =>
      have e := hk a o hka
      rw [hobj] at e
      cases e
      exact .inr fun H' => .inr ⟨_, vs.toArray, _, hka, rfl, rfl, rfl, by rw [List.size_toArray, hints.length]; exact hlen, by simpa using rv⟩
  have rm : RM P [] H [] := ⟨rfl, fun i j b h => by simp at h, fun i c b h => by simp at h, fun z hz => LamX.TabS.nil (atT _ (hT z hz))⟩
  obtain ⟨m1, hlaw⟩ := law
  have sp : spD P ([x] : List Str).length cf [V.ref a] H (fun v _ => v = .bl true) (fun _ _ _ => False) := by
    refine ⟨rfl, [], [], [.fl (ns.map D.int)], rm, .cons (.fl frz (rds_ints ns)) .nil, ?_⟩
    rw [hlaw]
    intro α' H' e1 r1 v rvv
    cases rvv
    rfl
  refine codeAny_mono ((F _ kIn (nsK hgl) tabB).run callerA [] s H ⟨[.ref a], []⟩ [.ref a] [.ref a] _ _ hr (fun _ => rfl) env0 (hbind s (.ref a)) (.cons rfl .nil) sp) fun r s' hq => ?_
  cases r with
  | error e =>
    obtain ⟨_, _, _, _, _, _, _, _, _, _, _, _, z⟩ := hq
    exact z.elim
  | ok fl => cases fl with
    | next => exact False.elim hq
    | brk => exact False.elim hq
    | cont => exact False.elim hq
    | ret u =>
      obtain ⟨v, H', os, bare, un, hok', rel, ev⟩ := hq
      have ev' : v = V.bl true := ev
      subst ev'
      obtain rfl : u = Value.bool true := rel
      have same : ∀ b o, b ∉ tbs.map (·.2) → s.heap.get? b = some o → s'.heap.get? b = some o := fun b o nb e => by
        cases q : H b with
        | none => exact un.keep b o e q (by intro z; exact absurd (show b ∈ ([] : List Addr) from z) (by simp)) (by simp)
        | some u =>
          rcases tell b u q with ⟨rfl, _, rfl⟩ | ⟨hb, _⟩
          · have z1 := hok' b _ (un.frzs b _ _ q)
            rw [hobj] at e
            cases e
            exact z1.1
          · exact absurd hb nb
      refine ⟨rfl, ⟨fun b o e => ?_, fun b o e => ?_⟩, os, bare⟩
      · by_cases hb : b ∈ tbs.map (·.2)
        · obtain ⟨more, z⟩ := un.tbls b #[] (atT b hb)
          have z2 := hok' b _ z
          obtain ⟨t, ht, et⟩ := List.mem_map.mp hb
          obtain ⟨t1, _, t3⟩ := tabs t ht
          rw [isT b hb] at e
          cases e
          refine .inr (.inl ⟨?_, rfl, #[], more, rfl, by rw [Array.empty_append]; rw [Array.empty_append] at z2; exact z2⟩)
          rw [← et]
          exact (t3.tab t1).isCodeTable
        · exact .inl (same b o hb e)
      · by_cases hb : b ∈ tbs.map (·.2)
        · obtain ⟨more, z⟩ := un.tbls b #[] (atT b hb)
          exact ⟨_, hok' b _ z⟩
        · exact ⟨o, same b o hb e⟩
end
theorem walk_G {l : PySem.W.OpenLaw} {n k : Nat} {q : Program} {loose : List Str} {XP : (Str → Option Value) → Heap → Prop} {YP : World → Heap → Prop} {d : DefRec} {x : Str} {cf : List D → Mem → R D} (hn : l.most = some n) (hn2 : n ≤ sizeLine) (hdf : d.params.defaults = []) (hr : Room k callerA)
    (F : ∀ (w : World) (mg : Str → Option Value) (fa : Addr) (h : Heap), YP w h → h.Ns mainGlobals mg → mg d.name = some (.ref fa) → ∃ (K : PySem.W.Frag) (T : List (Addr × Str)) (tbs : List (Addr × Addr)) (fd : FuncData), K.In h ∧
      (∀ z ∈ tbs, h.get? z.2 = some { cls := .none, data := .fields #[] } ∧ K.lookup z.2 = none ∧ PySem.W.CodeHd h z.1 z.2) ∧ (∀ z ∈ T, z.1 ∈ tbs.map (·.2)) ∧ (∀ (s : Shared) (u : Value), BindsTo s fd ⟨[u], []⟩ [(x, u)]) ∧
      ∀ base : Heap, K.In base → base.Ns mainGlobals mg → (∀ z ∈ tbs, LamX.TabB base mg z.1 z.2) → FnG l.prog w ⟨K, mg, T⟩ base true k fa fd [x] cf)
    (law : ∀ ns : List Int, ns.length ≤ n → (∀ z ∈ ns, Builtin.Int.intBits z ≤ 1048576) → ∃ m, cf [.fl (ns.map D.int)] [] = .ok (.bl true) m) : PySem.W.WalkO q loose XP YP l.row.toRowW d [] (fun f vs => PySem.call f vs) := by
  refine Att.attach_callB hn hdf fun w s₀ s₁ mg mb fa o pm cd doc a vs ns G Y ho hd hcd hmg hobj hints hlen hbits hg => ?_
  obtain ⟨K, T, tbs, fd, kIn, tabs, hT, hb, hF⟩ := F w mg fa _ Y G.T.g hmg
  exact law_end (P := ⟨K, mg, T⟩) kIn G.T.g G.T.b G.T.builtins G.T.nolimit hg tabs hT G.T.bmain hobj hints (Nat.le_trans hlen hn2) hr hF hb (law ns hlen hbits)
end Dw

namespace Dw
open PySem PySem.Spec PyProof.Rows L2
/-! ### 17. methods of built-in types -/
def tyD (T : String) (x : D) (m : Mem) : Bool := match x with
  | .str _ => T == "str"
  | .fl _ => T == "list"
  | .ref n => match m[n]? with
    | some (.lst _) => T == "list"
    | some (.dct _) => T == "dict"
    | none => false
  | _ => false
def methK (T : String) (f : D → List D → Mem → Option (D × Mem)) (a : GA) (ρ : Env) (x : D) (m : Mem) : R D := if tyD T x m = true then (a ρ m).bind fun ds m => R.of (f x ds m) else .bad
def eMeth (T : String) (f : D → List D → Mem → Option (D × Mem)) (g : G) (a : GA) : G := fun ρ m => (g ρ m).bind fun x m => methK T f a ρ x m
def appD (x : D) (ds : List D) (m : Mem) : Option (D × Mem) := match x, ds with
  | .ref n, [d] => match m[n]? with
    | some (.lst xs) => if xs.length < sizeLine then some (.non, m.set n (.lst (xs ++ [d]))) else none
    | _ => none
  | _, _ => none
section
variable {X : Cx} {P : Pm} {W : WX} {E : XK} {e a b c o : Expr} {es rest : List Expr} {pos apos cpos : Pos} {ga gb gc g : G} {ta : GA} {t u : GT} {T id : String} {name : Str} {r : V → List V → Hp → VK → Prop} {f : D → List D → Mem → Option (D × Mem)}
theorem tyD_ok {α : List Addr} {H : Hp} {m : Mem} {v : V} {d : D} (hK : P.K = X.K) (rm : RM P α H m) (r : RD P α H v d) (h : tyD T d m = true) : tyV X.K T v H := by
  cases r with
  | str x => exact eq_of_beq h
  | fl hf r =>
    have e : T = "list" := eq_of_beq h
    exact .inl ⟨e, _, by rw [← hK]; exact hf.sql⟩
  | @ref a n ha =>
    unfold tyD at h
    dsimp only at h
    split at h
    · rename_i hc
      obtain ⟨vs, e1, _⟩ := rm.cell _ _ _ hc ha
      exact .inl ⟨eq_of_beq h, vs, SqL.of e1⟩
    · rename_i hc
      obtain ⟨vs, e1, _⟩ := rm.cell _ _ _ hc ha
      exact .inr (.inr (.inl ⟨eq_of_beq h, .inl ⟨_, e1⟩⟩))
    · cases h
  | _ => cases h
theorem meth_un (hK : P.K = X.K) {σ : L2.St} {H : Hp} {Q : VK} (h : tE P W (eMeth T f g ta) σ H Q) : tBM X.K T (rM P f) (tE P W g) (tA P W ta) σ H Q := by
  obtain ⟨α, ρ, m, rm, re, q⟩ := h
  refine ⟨α, ρ, m, rm, re, (Post.bind q).mono fun α1 H1 x m1 e1 r1 p1 v rv => ?_⟩
  unfold methK at p1
  split at p1
  · rename_i ht
    refine ⟨tyD_ok hK r1 rv ht, α1, ρ, m1, r1, re.mono e1, (Post.bind p1).mono fun α2 H2 ds m2 e2 r2 p2 vs rs => ?_⟩
    exact ⟨α2, m2, x, ds, r2, rv.mono e2, rs, p2.of⟩
  · exact False.elim p1
theorem de_meth (hK : P.K = X.K) (pa : PlainAttrs T) (slot : Slot T name id) (hty : typeOf (.builtin id) = pure (.type "method_descriptor")) (hm : MtR X id (rM P f)) (ho : PE X o (tE P W g)) (ha : PA X (e :: es) (tA P W ta))
    (hbase : attributeBase o name X.env (eval o X.env) = eval o X.env := by rfl)
    (hfew : ((backTo cpos (starEach (e :: es) X.env)).all (fun x => !x.1) && (backToKw cpos (keywordEach [] X.env)).all (fun x => x.1.isSome) && decide ((e :: es).length + ([] : List Keyword).length + (if ([] : List Keyword).isEmpty then 0 else 1) < 30)) = true := by rfl)
    (hline : (apos.endLine == cpos.line) = true := by rfl) (hs : starEach (e :: es) X.env = (false, eval e X.env) :: starEach es X.env := by rfl) (hplain : (backTo cpos (starEach es X.env)).any (·.1) = false := by rfl) :
    PE X (.Call (.Attribute o name apos) (e :: es) [] cpos) (tE P W (eMeth T f g ta)) :=
  (pe_bm pa slot hty hm ho ha hbase hfew hline hs hplain).weaken fun σ H Q h => meth_un hK h
theorem mt_appD : MtR X "list.append" (rM P appD) := by
  intro pins s σ H x vs v us Q I rx rv h
  obtain ⟨α, m, d, ds, rm, rd, rs, q⟩ := h
  cases hd : appD d ds m with
  | none => rw [hd] at q; exact q.elim
  | some z =>
    rw [hd] at q
    unfold appD at hd
    split at hd
    · rename_i n d1
      split at hd
      · rename_i xs hc
        split at hd
        · rename_i hl
          cases hd
          cases rd with
          | @ref a1 n ha =>
            cases rs with
            | @cons v1 _ _ _ ry rn =>
              cases rn
              obtain ⟨vs0, e1, r1⟩ := rm.cell _ _ _ hc ha
              have w : Wr (H a1) := by rw [e1]; trivial
              refine mt_append pins s σ H _ _ v us Q I rx rv ⟨_, vs0, _, rfl, rfl, e1, by rw [r1.length]; exact hl, ?_⟩
              have ex : Ext P α H α (upd H a1 (.lst (vs0 ++ [v1]))) := Ext.write (o := .lst (vs0 ++ [v1])) (List.mem_of_getElem? ha) w
              exact q _ _ ex (rm.write ha ⟨_, upd_same, (r1.mono ex).append (.cons (ry.mono ex) .nil)⟩) _ .non
        · cases hd
      · cases hd
    · cases hd
end
end Dw

namespace Dw
open PySem PySem.Spec PyProof.Rows L2
theorem u64 {k : Nat} {A : Around} (hr : Room k A) : A.units + 64 < cLine := by have := hr.un; omega
theorem u65 {k : Nat} {A : Around} (hr : Room k A) : A.units + 65 < cLine := by have := hr.un; omega
theorem u66 {k : Nat} {A : Around} (hr : Room k A) : A.units + 66 < cLine := by have := hr.un; omega
/-- a def by its body, its code object known -/
theorem fn_Dc {p : Program} {w : World} {P : Pm} {base : Heap} {name qual : Str} {params : Arguments} {body : List Stmt} {scope : Scope} {dV kV doc pm cdv ct oc : Value} {an od : Option Addr} {osl : Array (Option Value)} {f : Addr} {N ps : List Str} {gd : Bool} {k : Nat} {gs : GS}
    (lk : P.K.lookup f = some ⟨oc, od, .func (PySem.W.fnOf name qual params body scope dV kV doc pm an cdv ct), osl⟩) (hcd : PySem.W.codeIn P.K cdv qual = true) (S : FnScope N ps scope)
    (hbody : ∀ (A : Around) (outer : List PySem.Env) (s : Shared) (H : Hp) (E : XK), Room k (A.deeper (envOfC qual scope s.heap.objs.size f cdv)) → (gd = true → A.guards = some []) → PSs (cxOf (L2.CX p w) p w P.K P.mg base N qual scope f cdv A outer s H E) body (tS P E gs)) :
    FnG p w P base gd (k + 1) f (PySem.W.fnOf name qual params body scope dV kV doc pm an cdv ct) ps (fnB N.length gs) := by
  refine ⟨fun A outer s H args us vs Q E hr hgd e0 hb r hsp => ?_⟩
  obtain ⟨hl, α, m, ds, rm, rs, q⟩ := hsp
  refine LamX.run_ofS lk hcd S hr e0 hb r hl fun hr' => ⟨tS P E gs, hbody A outer s H E hr' hgd, α, _, m, rm, rs.slots N, ?_⟩
  refine (Post.bind (Post.sig q)).mono fun α1 H1 fl m1 e1 r1 p1 => ?_
  cases fl with
  | nx ρ => exact fun _ _ => p1 α1 H1 Ext.refl r1 _ .non
  | ret d => exact p1 α1 H1 Ext.refl r1
  | brk ρ => exact False.elim p1
  | cnt ρ => exact False.elim p1
theorem Clb.of {p : Program} {w : World} {P : Pm} {base : Heap} {gd : Bool} {k : Nat} {x : Str} {f : Addr} {fd : FuncData} {ps : List Str} {cf : List D → Mem → R D} (h1 : P.mg x = some (.ref f)) (h2 : PySem.W.keepIn P.K (.ref f) = true) (h3 : Binds P.K fd ps []) (F : FnG p w P base gd k f fd ps cf) : Clb p w P base gd k x ps.length cf :=
  ⟨f, fd, ps, h1, h2, h3, rfl, F⟩
/-! told, its clauses without addresses -/
def zr (k : Cl4) : Cl4 := { k with C := 0 }
theorem clause_z (c : Str) (fs : List (Str × D)) : ∀ l : List Cl4, clauseOf (l.map zr) c fs = clauseOf l c fs
  | [] => rfl
  | k :: r => by
    show (if c = k.x then _ else clauseOf (r.map zr) c fs) = _
    rw [clause_z c fs r]
    rfl
theorem told_z (l : List Cl4) (r : R D) : toldR (l.map zr) r = toldR l r := by
  unfold toldR
  cases r with
  | exc c fs m => dsimp only; rw [clause_z]
  | _ => rfl
theorem de_tl {X : Cx} {P : Pm} {W : WX} {l l0 : List Cl4} {gg : G} {x a en : Str} {st : Stmt} {g c Pt : Addr} {fd : FuncData} {k : Nat} {h₀ : ExceptHandler} {hds : List ExceptHandler} {p1 p2 p3 p8 : Pos} {params : Arguments} {body : Expr} {scope : Scope} {p lpos pos : Pos}
    (hK : P.K = X.K) (hM : P.mg = X.mg) (hz : l.map zr = l0) (C : ClassesOk P l) (hm : P.mg x = some (.ref g)) (F : Fun P.K x x st g fd) (hb : Binds P.K fd [a] []) (Sg : FnScope [a, en] [a] (defScope st)) (hst : defBody st = [.Try [.Return (some (.Call (.Name a p1) [] [] p2)) p3] (h₀ :: hds) [] [] p8])
    (hen : (defScope st).names.lookup en = some .local) (hva : Vis (defScope st) a) (hde : (en == ("__debug__" : Str)) = false) (hce : (en == ("__classdict__" : Str)) = false) (ht : ∀ Y : Cx, Y.env.scope = defScope st → ClTxt Y en l (h₀ :: hds))
    (TB : LamX.TabB X.base X.mg c Pt) (hcode : X.env.code = .ref c) (hmT : (Pt, X.env.qual ++ "<lambda>") ∈ P.T) (hu : ∀ p ∈ P.T, p.1 = Pt → p.2 = X.env.qual ++ "<lambda>") (hr : Room (k + 2) X.A) (hg : Gl X x) (L : LamX.LamS X.env.scope scope) (hdef : defaultsOf params X.env = ([], []))
    (hbind : ∀ (q : Str) (cl : List (Str × Addr)) (pm cv ctv : Value), bindArgs (PySem.W.kla_fn "<lambda>" q params body scope cl pm cv ctv) ⟨[], []⟩ = pure [])
    (hbody : ∀ (A : Around) (outer : List PySem.Env) (s : Shared) (H : Hp) (E : XK) (f c' : Addr), Room k (A.deeper (LamX.lamEnv X scope s.heap.objs.size f c')) → PE (LamX.lamCx X A outer s H E scope f c') body (tE P (xW E) gg))
    (hdb : (x == ("__debug__" : Str)) = false) (hd : (a == ("__debug__" : Str)) = false) (hcd : (a == ("__classdict__" : Str)) = false) : PE X (.Call (.Name x p) [.Lambda params body scope lpos] [] pos) (tE P W (eTold l0 gg)) := by
  obtain ⟨oc, od, kV, doc, pm, an, cdv, ct, osl, rfl, lk, hcg⟩ := F.ex
  have e : eTold l0 gg = eTold l gg := by
    funext ρ m
    show toldR l0 _ = toldR l _
    rw [← hz, told_z]
  rw [e]
  have hG : LamX.GivesTo X [a, en] x (defScope st) g cdv (defBody st) a (X.env.qual ++ "<lambda>") (TTo P l) := by
    rw [hst]
    exact told_gives2 hK hM C Sg.nd hen hde hce fun s H => ht _ rfl
  rw [hK] at lk hb
  exact de_told (Ng := [a, en]) C hg (by rw [← hM]; exact hm) (by rw [← hK]; exact F.kp) lk (by rw [← hK]; exact hcg) hb Sg rfl hva hG TB hcode hmT hu hr L hdef hbind hbody hdb hd hcd
end Dw

namespace Dw
open PySem PySem.Spec PyProof.Rows L2
/-! ### 18. what the written part tells -/
section
variable {K : PySem.W.Frag} {mg : Str → Option Value} {h : Heap}
def FunAt (K : PySem.W.Frag) (mg : Str → Option Value) (x : Str) (st : Stmt) (ps : List Str) : Prop := ∃ (f : Addr) (fd : FuncData), mg x = some (.ref f) ∧ Fun K x x st f fd ∧ Binds K fd ps []
theorem fun_at {x : Str} {st : Stmt} {ps : List Str} (X : K.In h) (G : h.Ns mainGlobals mg) (hb : ∀ (kV doc pm : Value) (an : Option Addr) (cdv ct : Value) (us : List Value), us.length = ps.length → bindArgs (PySem.W.fnOf x x (defArgs st) (defBody st) (defScope st) .none kV doc pm an cdv ct) ⟨us, []⟩ = pure (ps.zip us))
    {f : Addr} {oc : Value} {od an : Option Addr} {osl : Array (Option Value)} {kV doc pm cdv ct : Value} (a : PySem.W.nsIn K mainGlobals x = some (some (.ref f))) (l : K.lookup f = some ⟨oc, od, .func (PySem.W.fnOf x x (defArgs st) (defBody st) (defScope st) .none kV doc pm an cdv ct), osl⟩)
    (c : PySem.W.codeIn K cdv x = true) (k : PySem.W.keepIn K (.ref f) = true) : FunAt K mg x st ps := by
  have F := fun_mk (st := st) l c k
  exact ⟨f, _, PySem.W.mg_of X G a, F, F.binds fun kV doc pm an cdv ct us hl => hb kV doc pm an cdv ct us hl⟩
theorem none_at {x : Str} (X : K.In h) (G : h.Ns mainGlobals mg) (a : PySem.W.nsIn K mainGlobals x = some none) : mg x = none := PySem.W.mg_none_of X G a
def OneAt (p : Program) (K : PySem.W.Frag) (mg : Str → Option Value) (x f : Str) : Prop := ∃ C fI, DwX.OneX p K mg x f C fI
theorem one_at {p : Program} {x f : Str} {C fI cda cc N : Addr} {nm q qual : Str} {bs bm : List Value} {sn : List Str} {sub : List Value} {ab : Bool} {col : Option Bool} {dd od cdd cld an : Option Addr} {k0 k1 k2 k3 k5 : Option Value} {sc : Scope} {oc doc pm ct ccl cl : Value} {osl ccs csl : Array (Option Value)} {p1 p2 a1 a2 a3 a4 a5 a6 b1 b2 b3 b4 : Pos}
    {vs : Array Value} {file : Str} {tf : Tok} (X : K.In h) (G : h.Ns mainGlobals mg) (aC : PySem.W.nsIn K mainGlobals x = some (some (.ref C))) (xL : K.lookup C = some (excClassObj nm q C N bs bm true sn sub ab col dd k0 k1 k2 k3 k5 "ValueError.__new__"))
    (iC : PySem.W.findIn K (.ref C) "__init__" = some (some (.ref fI)))
    (l1 : K.lookup fI = some ⟨oc, od, .func (PySem.W.ksFn "__init__" qual (DwX.oA f p1 p2) (DwX.oB f a1 a2 a3 a4 a5 a6 b1 b2 b3 b4) sc .none .none doc pm an (.ref cda) ct cc), osl⟩) (c1 : PySem.W.codeIn K (.ref cda) qual = true) (lc : K.lookup cda = some ⟨ccl, cdd, .fields vs, ccs⟩) (lx : K.lookup cc = some ⟨cl, cld, .cell (some (.ref C)), csl⟩)
    (sa : PySem.W.findIn K (.ref C) "__setattr__" = some (some (.builtin "object.__setattr__"))) (nb : PySem.W.findIn K (.ref C) f = some none) (tI : PySem.W.typeIn K (.ref fI) = some (.type "function")) (kC : PySem.W.keepIn K (.ref C) = true) (eC : PySem.W.subIn K (.ref C) (.type "BaseException") = some true)
    (vC : PySem.W.subIn K (.ref C) (.type "ValueError") = some true) (tC : PySem.W.typeIn K (.ref C) = some (.type "type")) (any : PySem.W.nsIn K cStatics "thirdparty.any" = some none) (nos : PySem.W.nsIn K mainGlobals "super" = some none)
    (sup : PySem.W.ks_superIn K C C "__init__" = some (some (.builtin "ValueError.__init__"))) (slf : PySem.W.mroIn K C (.ref C) = some true) (hbm : HandSPX.refsVE bm = true) (top : (p.main.scope.names.lookup ("super" : Str)).isSome = false) (hvs : vs[2]? = some (.str file tf)) (hfile : ((p.main.file : Str) == file) = true)
    (s1 : sc.names.lookup ("super" : Str) = some .globalImplicit) (s2 : sc.names.lookup ("__class__" : Str) = some .free) (s3 : sc.names.lookup ("self" : Str) = some .local) (s4 : sc.names.lookup f = some .local) (s5 : ∀ y ∈ sc.names, y.2 ≠ .cell) (s6 : sc.kind = .function) (s7 : sc.isCoroutine = false) (s8 : sc.isGenerator = false)
    (bd : ∀ u v : Value, bindArgs (PySem.W.ksFn "__init__" qual (DwX.oA f p1 p2) (DwX.oB f a1 a2 a3 a4 a5 a6 b1 b2 b3 b4) sc .none .none doc pm an (.ref cda) ct cc) ⟨[u, v], []⟩ = pure [(("self" : Str), u), (f, v)])
    (en : ∀ L : Addr, DwX.InitEnvOk f a1 a2 a3 a4 a5 a6 b1 b2 b3 b4 (PySem.W.ksEnv qual sc L fI (.ref cda) cc)) : DwX.OneX p K mg x f C fI :=
  { gC := PySem.W.mg_of X G aC, cls := ⟨nm, q, N, bs, bm, sn, sub, ab, col, dd, k0, k1, k2, k3, k5, xL, hbm⟩, sa := sa, noN := nb, iC := iC, tC := tI, kC := kC, exC := eC, vE := vC, tyC := tC, any := any, sup := sup, nos := PySem.W.mg_none_of X G nos, slf := slf, top := top,
    fn := ⟨oc, od, qual, sc, doc, pm, an, cda, cc, ct, osl, p1, p2, a1, a2, a3, a4, a5, a6, b1, b2, b3, b4, ccl, cl, cdd, cld, vs, ccs, csl, file, tf, l1, c1, lc, hvs, hfile, lx, s1, s2, s3, s4, s5, s6, s7, s8, bd, en⟩ }
end
end Dw

namespace Dw
namespace K46
open PySem PySem.Spec PyProof.Rows L2
abbrev PP : Program := PySem.Challenge.pw_ductwise_k46_stars_and_triangles
def topS (i : Nat) : Stmt := PP.main.body.getD i (.Pass ⟨0, 0, 0, 0⟩)
/-- what the top has written and what not -/
structure Txt (P : Pm) : Prop where
  b_all : P.mg "all" = none
  b_bool : P.mg "bool" = none
  b_int : P.mg "int" = none
  b_isinstance : P.mg "isinstance" = none
  b_len : P.mg "len" = none
  b_list : P.mg "list" = none
  b_range : P.mg "range" = none
  b_repr : P.mg "repr" = none
  b_tuple : P.mg "tuple" = none
  gcd : P.mg "gcd" = some (.builtin "math.gcd")
  x_BadValue : ∃ C fI, DwX.OneX PP P.K P.mg "BadValue" "reason" C fI
  x_TooMany : ∃ C fI, DwX.OneX PP P.K P.mg "TooMany" "what" C fI
  x_Refused : ∃ C fI, DwX.OneX PP P.K P.mg "Refused" "reason" C fI
/-! _law_digits -/
abbrev st__law_digits : Stmt := topS 19
theorem sc__law_digits : FnScope ["script", "first", "last", "digits", "k", "cell", "turn", "seed"] ["script", "first", "last"] (defScope st__law_digits) := ⟨rfl, rfl, rfl, by decide +kernel, rfl, by decide +kernel, by decide +kernel⟩
noncomputable def g__law_digits_1 : GS :=
  (sAsg (eOp subD (eLit (.int 1)) (eOp mulD (eLit (.int 2)) (eVar 5))) (gN 5))
noncomputable def g__law_digits_2 : GS :=
  (sExpr (eMeth "list" appD (eVar 3) (aCons (eOp modD (eArgs intD (aCons (eVar 5) aNil)) (eLit (.int 1009))) aNil)))
noncomputable def g__law_digits_3 : GS :=
  (sIf (tOp' gtD (eVar 5) (eLit (.int 0))) (sSeq g__law_digits_2
      (sAsg (eOp divD (eVar 5) (eLit (.int 1009))) (gN 5))) sNil)
noncomputable def g__law_digits_4 : GS :=
  g__law_digits_3
noncomputable def g__law_digits_5 : GS :=
  (sAsg (eOp modD (eArgs intD (aCons (eOp addD (eOp addD (eOp mulD (eVar 7) (eLit (.int 40014))) (eOp mulD (eLit (.int 11)) (eVar 6))) (eLit (.int 7))) aNil)) (eLit (.int 2147483563))) (gN 7))
noncomputable def g__law_digits_6 : GS :=
  (sExpr (eMeth "list" appD (eVar 3) (aCons (eOp modD (eArgs intD (aCons (eOp divD (eVar 7) (eLit (.int 1013))) aNil)) (eLit (.int 1009))) aNil)))
noncomputable def g__law_digits_7 : GS :=
  (sSeq g__law_digits_5
      g__law_digits_6)
noncomputable def g__law_digits_8 : GS :=
  (sAsg (eOp modD (eArgs intD (aCons (eOp addD (eOp addD (eOp mulD (eVar 5) (eLit (.int 40699))) (eOp mulD (eVar 4) (eLit (.int 52769)))) (eLit (.int 31))) aNil)) (eLit (.int 2147483399))) (gN 7))
noncomputable def g__law_digits_9 : GS :=
  (sAsg (eIf (tOp' ltD (eVar 4) (eArgs lenD (aCons (eVar 0) aNil))) (eOp ixD (eVar 0) (eVar 4)) (eLit (.int 0))) (gN 5))
noncomputable def g__law_digits_10 : GS :=
  (sIf (tOp' ltD (eVar 5) (eLit (.int 0))) g__law_digits_1 sNil)
noncomputable def g__law_digits_11 : GS :=
  (sIf (tOp' geD (eVar 5) (eLit (.int 1000000000000000000))) (sFor (iRg1 (eLit (.int 60))) (gN 6) g__law_digits_4) (sSeq g__law_digits_8
      (sFor (iRg1 (eLit (.int 12))) (gN 6) g__law_digits_7)))
noncomputable def g__law_digits_12 : GS :=
  (sSeq g__law_digits_9
      (sSeq g__law_digits_10
      g__law_digits_11))
noncomputable def g__law_digits : GS :=
  (sSeq (sAsg (eArgs mkLst aNil) (gN 3))
      (sSeq (sFor (iRg2 (eVar 1) (eVar 2)) (gN 4) g__law_digits_12)
      (sRet (eVar 3))))
noncomputable def f__law_digits (ds : List D) (m : Mem) : R D := fnB 8 g__law_digits ds m
theorem w__law_digits {w : World} {P : Pm} {base : Heap} {f : Addr} {fd : FuncData} (T : Txt P) (F : Fun P.K "_law_digits" "_law_digits" st__law_digits f fd)  : FnG PP w P base false 1 f fd ["script", "first", "last"] f__law_digits := by
  refine fn_D (k := 0) F sc__law_digits fun cdv A outer s H E hr hgd => ?_
  have tk : Takes (cxOf (L2.CX PP w) PP w P.K P.mg base ["script", "first", "last", "digits", "k", "cell", "turn", "seed"] "_law_digits" (defScope st__law_digits) f cdv A outer s H E) (xW E) := takes_of rfl rfl rfl rfl
  have hp : PassesOwn (model PP w) _ _ (cxOf (L2.CX PP w) PP w P.K P.mg base ["script", "first", "last", "digits", "k", "cell", "turn", "seed"] "_law_digits" (defScope st__law_digits) f cdv A outer s H E).xe := passes_of (X := cxOf (L2.CX PP w) PP w P.K P.mg base ["script", "first", "last", "digits", "k", "cell", "turn", "seed"] "_law_digits" (defScope st__law_digits) f cdv A outer s H E) rfl
  exact (ds_cons (ds_set sc__law_digits.nd rfl (.inl rfl) (de_lst da_nil) (.inl rfl))
      (ds_cons (ds_for hp rfl (di_range2 rfl T.b_range (de_var (i := 1) rfl (.inl rfl)) (de_var (i := 2) rfl (.inl rfl))) (dg_name sc__law_digits.nd rfl (.inl rfl) (.inl rfl)) (ds_cons (ds_set sc__law_digits.nd rfl (.inl rfl) (de_if (dt_cmp op_ltD (de_var (i := 4) rfl (.inl rfl)) (de_bi (bi_len rfl) rfl T.b_len (by decide +kernel) (da_cons (de_var (i := 0) rfl (.inl rfl)) da_nil))) (de_ix (ix_D rfl) (de_var (i := 0) rfl (.inl rfl)) (de_var (i := 4) rfl (.inl rfl))) de_int) (.inl rfl))
      (ds_cons (ds_if (dt_cmp op_ltD (de_var (i := 5) rfl (.inl rfl)) de_int) (ds_one (ds_set sc__law_digits.nd rfl (.inl rfl) (de_op op_subD de_int (de_op op_mulD de_int (de_var (i := 5) rfl (.inl rfl)))) (.inl rfl))) ds_nil)
      (ds_one (ds_if (dt_cmp op_geD (de_var (i := 5) rfl (.inl rfl)) de_int) (ds_one (ds_for hp rfl (di_range1 rfl T.b_range de_int) (dg_name sc__law_digits.nd rfl (.inl rfl) (.inl rfl)) (ds_one (ds_if (dt_cmp op_gtD (de_var (i := 5) rfl (.inl rfl)) de_int) (ds_cons (ds_expr (de_meth rfl PySem.F.plainAttrs_list PySem.F.slot_list_append PySem.F.type_list_append mt_appD (de_var (i := 3) rfl (.inl rfl)) (da_cons (de_op op_modD (de_ty ty_int rfl T.b_int (by decide +kernel) (da_cons (de_var (i := 5) rfl (.inl rfl)) da_nil)) de_int) da_nil)))
      (ds_one (ds_set sc__law_digits.nd rfl (.inl rfl) (de_op op_divD (de_var (i := 5) rfl (.inl rfl)) de_int) (.inl rfl)))) ds_nil)))) (ds_cons (ds_set sc__law_digits.nd rfl (.inl rfl) (de_op op_modD (de_ty ty_int rfl T.b_int (by decide +kernel) (da_cons (de_op (op_addD rfl) (de_op (op_addD rfl) (de_op op_mulD (de_var (i := 5) rfl (.inl rfl)) de_int) (de_op op_mulD (de_var (i := 4) rfl (.inl rfl)) de_int)) de_int) da_nil)) de_int) (.inl rfl))
      (ds_one (ds_for hp rfl (di_range1 rfl T.b_range de_int) (dg_name sc__law_digits.nd rfl (.inl rfl) (.inl rfl)) (ds_cons (ds_set sc__law_digits.nd rfl (.inl rfl) (de_op op_modD (de_ty ty_int rfl T.b_int (by decide +kernel) (da_cons (de_op (op_addD rfl) (de_op (op_addD rfl) (de_op op_mulD (de_var (i := 7) rfl (.inl rfl)) de_int) (de_op op_mulD de_int (de_var (i := 6) rfl (.inl rfl)))) de_int) da_nil)) de_int) (.inl rfl))
      (ds_one (ds_expr (de_meth rfl PySem.F.plainAttrs_list PySem.F.slot_list_append PySem.F.type_list_append mt_appD (de_var (i := 3) rfl (.inl rfl)) (da_cons (de_op op_modD (de_ty ty_int rfl T.b_int (by decide +kernel) (da_cons (de_op op_divD (de_var (i := 7) rfl (.inl rfl)) de_int) da_nil)) de_int) da_nil)))))))))))))
      (ds_one (ds_ret (de_var (i := 3) rfl (.inl rfl))))))

/-! _law_draw -/
abbrev st__law_draw : Stmt := topS 20
theorem sc__law_draw : FnScope ["box", "many", "at"] ["box", "many"] (defScope st__law_draw) := ⟨rfl, rfl, rfl, by decide +kernel, rfl, by decide +kernel, by decide +kernel⟩
noncomputable def g__law_draw : GS :=
  (sSeq (sAsg (eOp ixD (eVar 0) (eLit (.int 1))) (gN 2))
      (sSeq (sAsg (eOp addD (eVar 2) (eLit (.int 1))) (gSb (eVar 0) (eLit (.int 1))))
      (sSeq (sIf (tOp' ltD (eVar 2) (eArgs lenD (aCons (eOp ixD (eVar 0) (eLit (.int 0))) aNil))) (sRet (eOp modD (eArgs intD (aCons (eOp ixD (eOp ixD (eVar 0) (eLit (.int 0))) (eVar 2)) aNil)) (eVar 1))) sNil)
      (sRet (eOp modD (eArgs intD (aCons (eOp addD (eOp addD (eOp addD (eOp mulD (eOp mulD (eVar 2) (eVar 2)) (eLit (.int 3))) (eOp mulD (eVar 2) (eLit (.int 4)))) (eOp divD (eVar 2) (eLit (.int 3)))) (eLit (.int 1))) aNil)) (eVar 1))))))
noncomputable def f__law_draw (ds : List D) (m : Mem) : R D := fnB 3 g__law_draw ds m
theorem w__law_draw {w : World} {P : Pm} {base : Heap} {f : Addr} {fd : FuncData} (T : Txt P) (F : Fun P.K "_law_draw" "_law_draw" st__law_draw f fd)  : FnG PP w P base false 1 f fd ["box", "many"] f__law_draw := by
  refine fn_D (k := 0) F sc__law_draw fun cdv A outer s H E hr hgd => ?_
  have tk : Takes (cxOf (L2.CX PP w) PP w P.K P.mg base ["box", "many", "at"] "_law_draw" (defScope st__law_draw) f cdv A outer s H E) (xW E) := takes_of rfl rfl rfl rfl
  exact (ds_cons (ds_set sc__law_draw.nd rfl (.inl rfl) (de_ix (ix_D rfl) (de_var (i := 0) rfl (.inl rfl)) de_int) (.inl rfl))
      (ds_cons (ds_asg (de_op (op_addD rfl) (de_var (i := 2) rfl (.inl rfl)) de_int) (dg_sub (de_var (i := 0) rfl (.inl rfl)) de_int))
      (ds_cons (ds_if (dt_cmp op_ltD (de_var (i := 2) rfl (.inl rfl)) (de_bi (bi_len rfl) rfl T.b_len (by decide +kernel) (da_cons (de_ix (ix_D rfl) (de_var (i := 0) rfl (.inl rfl)) de_int) da_nil))) (ds_one (ds_ret (de_op op_modD (de_ty ty_int rfl T.b_int (by decide +kernel) (da_cons (de_ix (ix_D rfl) (de_ix (ix_D rfl) (de_var (i := 0) rfl (.inl rfl)) de_int) (de_var (i := 2) rfl (.inl rfl))) da_nil)) (de_var (i := 1) rfl (.inl rfl))))) ds_nil)
      (ds_one (ds_ret (de_op op_modD (de_ty ty_int rfl T.b_int (by decide +kernel) (da_cons (de_op (op_addD rfl) (de_op (op_addD rfl) (de_op (op_addD rfl) (de_op op_mulD (de_op op_mulD (de_var (i := 2) rfl (.inl rfl)) (de_var (i := 2) rfl (.inl rfl))) de_int) (de_op op_mulD (de_var (i := 2) rfl (.inl rfl)) de_int)) (de_op op_divD (de_var (i := 2) rfl (.inl rfl)) de_int)) de_int) da_nil)) (de_var (i := 1) rfl (.inl rfl))))))))

/-! is_integer -/
abbrev st_is_integer : Stmt := topS 7
theorem sc_is_integer : FnScope ["thing"] ["thing"] (defScope st_is_integer) := ⟨rfl, rfl, rfl, by decide +kernel, rfl, by decide +kernel, by decide +kernel⟩
noncomputable def g_is_integer : GS :=
  (sRet (eAnd (eUn (isD1 .int) (eVar 0)) (eNot (eUn (isD1 .bool) (eVar 0)))))
noncomputable def f_is_integer (ds : List D) (m : Mem) : R D := fnB 1 g_is_integer ds m
theorem w_is_integer {w : World} {P : Pm} {base : Heap} {f : Addr} {fd : FuncData} (T : Txt P) (F : Fun P.K "is_integer" "is_integer" st_is_integer f fd)  : FnG PP w P base false 1 f fd ["thing"] f_is_integer := by
  refine fn_D (k := 0) F sc_is_integer fun cdv A outer s H E hr hgd => ?_
  have tk : Takes (cxOf (L2.CX PP w) PP w P.K P.mg base ["thing"] "is_integer" (defScope st_is_integer) f cdv A outer s H E) (xW E) := takes_of rfl rfl rfl rfl
  exact (ds_one (ds_ret (de_and (de_isi (T := .int) rfl rfl T.b_isinstance rfl T.b_int (by decide +kernel) (by decide +kernel) (by decide +kernel) (de_var (i := 0) rfl (.inl rfl))) (de_one (de_not (de_isi (T := .bool) rfl rfl T.b_isinstance rfl T.b_bool (by decide +kernel) (by decide +kernel) (by decide +kernel) (de_var (i := 0) rfl (.inl rfl))))))))

/-! is_fraction -/
abbrev st_is_fraction : Stmt := topS 8
theorem sc_is_fraction : FnScope ["thing", "one"] ["thing"] (defScope st_is_fraction) := ⟨rfl, rfl, rfl, by decide +kernel, rfl, by decide +kernel, by decide +kernel⟩
noncomputable def g_is_fraction : GS :=
  (sSeq (sIf (tOr' (tNot' (tTru (eUn (isD1 .tuple) (eVar 0)))) (tOr' (tOp' neD (eArgs lenD (aCons (eVar 0) aNil)) (eLit (.int 2))) (tNot' (tTru (eArgs allD (aCons (eComp [1] (iSeq (eVar 0)) (gN 1) tYes' (eCall 1 f_is_integer (aCons (eVar 1) aNil))) aNil)))))) (sRet (eLit (.bl false))) sNil)
      (sRet (eAnd (eOp geD (eOp ixD (eVar 0) (eLit (.int 1))) (eLit (.int 1))) (eOp eqD (eArgs gcdD (aCons (eOp ixD (eVar 0) (eLit (.int 0))) (aCons (eOp ixD (eVar 0) (eLit (.int 1))) aNil))) (eLit (.int 1))))))
noncomputable def f_is_fraction (ds : List D) (m : Mem) : R D := fnB 2 g_is_fraction ds m
theorem w_is_fraction {w : World} {P : Pm} {base : Heap} {f : Addr} {fd : FuncData} (T : Txt P) (F : Fun P.K "is_fraction" "is_fraction" st_is_fraction f fd) (C_is_integer : Clb PP w P base false 1 "is_integer" 1 f_is_integer) : FnG PP w P base false 2 f fd ["thing"] f_is_fraction := by
  refine fn_D (k := 1) F sc_is_fraction fun cdv A outer s H E hr hgd => ?_
  have tk : Takes (cxOf (L2.CX PP w) PP w P.K P.mg base ["thing", "one"] "is_fraction" (defScope st_is_fraction) f cdv A outer s H E) (xW E) := takes_of rfl rfl rfl rfl
  exact (ds_cons (ds_if (L2.PW.pt (dw_or (dt_not (dt_tru rfl (de_isi (T := .tuple) rfl rfl T.b_isinstance rfl T.b_tuple (by decide +kernel) (by decide +kernel) (by decide +kernel) (de_var (i := 0) rfl (.inl rfl))))) (dw_or (dt_cmp (op_neDD rfl (u64 hr)) (de_bi (bi_len rfl) rfl T.b_len (by decide +kernel) (da_cons (de_var (i := 0) rfl (.inl rfl)) da_nil)) de_int) (dw_or1 (dt_not (dt_tru rfl (de_bi (bi_all rfl rfl) rfl T.b_all (by decide +kernel) (da_cons (de_comp (own := [("one", 1)]) rfl sc_is_fraction.nd (di_seq rfl (de_var (i := 0) rfl (.inl rfl))) (blkOk_by (N := ["thing", "one"]) (sc := defScope st_is_fraction) (by decide +kernel)) (tgn_name (i := 1) (by decide)) (fun _ _ _ _ _ => (pg_name (i := 1) sc_is_fraction.nd rfl (.inl rfl) (.inr rfl))) (fun _ _ _ _ _ => dc_pts) (fun _ _ _ _ _ => (de_call rfl rfl (C_is_integer) (hr.mono (by decide)) (fun z => nomatch z) rfl LamX.takes0 (da_cons (de_var (i := 1) rfl (.inl rfl)) da_nil)))) da_nil)))))))) (ds_one (ds_ret de_bl)) ds_nil)
      (ds_one (ds_ret (de_and (de_cmp op_geD (de_ix (ix_D rfl) (de_var (i := 0) rfl (.inl rfl)) de_int) de_int) (de_one (de_cmp (op_eqDD rfl (u64 hr)) (de_bf bi_gcd rfl T.gcd (da_cons (de_ix (ix_D rfl) (de_var (i := 0) rfl (.inl rfl)) de_int) (da_cons (de_ix (ix_D rfl) (de_var (i := 0) rfl (.inl rfl)) de_int) da_nil))) de_int))))))

/-! is_slope -/
abbrev st_is_slope : Stmt := topS 17
theorem sc_is_slope : FnScope ["thing"] ["thing"] (defScope st_is_slope) := ⟨rfl, rfl, rfl, by decide +kernel, rfl, by decide +kernel, by decide +kernel⟩
noncomputable def g_is_slope : GS :=
  (sRet (eAnd (eCall 1 f_is_fraction (aCons (eVar 0) aNil)) (eOp gtD (eOp ixD (eVar 0) (eLit (.int 0))) (eLit (.int 0)))))
noncomputable def f_is_slope (ds : List D) (m : Mem) : R D := fnB 1 g_is_slope ds m
theorem w_is_slope {w : World} {P : Pm} {base : Heap} {f : Addr} {fd : FuncData} (T : Txt P) (F : Fun P.K "is_slope" "is_slope" st_is_slope f fd) (C_is_fraction : Clb PP w P base false 2 "is_fraction" 1 f_is_fraction) : FnG PP w P base false 3 f fd ["thing"] f_is_slope := by
  refine fn_D (k := 2) F sc_is_slope fun cdv A outer s H E hr hgd => ?_
  have tk : Takes (cxOf (L2.CX PP w) PP w P.K P.mg base ["thing"] "is_slope" (defScope st_is_slope) f cdv A outer s H E) (xW E) := takes_of rfl rfl rfl rfl
  exact (ds_one (ds_ret (de_and (de_call rfl rfl (C_is_fraction) (hr.mono (by decide)) (fun z => nomatch z) rfl tk (da_cons (de_var (i := 0) rfl (.inl rfl)) da_nil)) (de_one (de_cmp op_gtD (de_ix (ix_D rfl) (de_var (i := 0) rfl (.inl rfl)) de_int) de_int)))))

/-! check_three -/
abbrev st_check_three : Stmt := topS 16
theorem sc_check_three : FnScope ["slopes", "one"] ["slopes"] (defScope st_check_three) := ⟨rfl, rfl, rfl, by decide +kernel, rfl, by decide +kernel, by decide +kernel⟩
noncomputable def g_check_three : GS :=
  (sIf (tOr' (tNot' (tTru (eUn (isD1 .tuple) (eVar 0)))) (tOr' (tOp' neD (eArgs lenD (aCons (eVar 0) aNil)) (eLit (.int 3))) (tNot' (tTru (eArgs allD (aCons (eComp [1] (iSeq (eVar 0)) (gN 1) tYes' (eCall 1 f_is_slope (aCons (eVar 1) aNil))) aNil)))))) (sRaise "BadValue" "reason" (eLit (.str (PySem.Str.ofString "slopes")))) sNil)
noncomputable def f_check_three (ds : List D) (m : Mem) : R D := fnB 2 g_check_three ds m
theorem w_check_three {w : World} {P : Pm} {base : Heap} {f : Addr} {fd : FuncData} (T : Txt P) (F : Fun P.K "check_three" "check_three" st_check_three f fd) (C_is_slope : Clb PP w P base false 3 "is_slope" 1 f_is_slope) : FnG PP w P base false 4 f fd ["slopes"] f_check_three := by
  refine fn_D (k := 3) F sc_check_three fun cdv A outer s H E hr hgd => ?_
  obtain ⟨C_BadValue, I_BadValue, x_BadValue⟩ := T.x_BadValue
  have tk : Takes (cxOf (L2.CX PP w) PP w P.K P.mg base ["slopes", "one"] "check_three" (defScope st_check_three) f cdv A outer s H E) (xW E) := takes_of rfl rfl rfl rfl
  exact (ds_one (ds_if (L2.PW.pt (dw_or (dt_not (dt_tru rfl (de_isi (T := .tuple) rfl rfl T.b_isinstance rfl T.b_tuple (by decide +kernel) (by decide +kernel) (by decide +kernel) (de_var (i := 0) rfl (.inl rfl))))) (dw_or (dt_cmp (op_neDD rfl (u64 hr)) (de_bi (bi_len rfl) rfl T.b_len (by decide +kernel) (da_cons (de_var (i := 0) rfl (.inl rfl)) da_nil)) de_int) (dw_or1 (dt_not (dt_tru rfl (de_bi (bi_all rfl rfl) rfl T.b_all (by decide +kernel) (da_cons (de_comp (own := [("one", 1)]) rfl sc_check_three.nd (di_seq rfl (de_var (i := 0) rfl (.inl rfl))) (blkOk_by (N := ["slopes", "one"]) (sc := defScope st_check_three) (by decide +kernel)) (tgn_name (i := 1) (by decide)) (fun _ _ _ _ _ => (pg_name (i := 1) sc_check_three.nd rfl (.inl rfl) (.inr rfl))) (fun _ _ _ _ _ => dc_pts) (fun _ _ _ _ _ => (de_call rfl rfl (C_is_slope) (hr.mono (by decide)) (fun z => nomatch z) rfl LamX.takes0 (da_cons (de_var (i := 1) rfl (.inl rfl)) da_nil)))) da_nil)))))))) (ds_one (ds_raise rfl rfl x_BadValue hr tk de_str rfl (by decide) (by decide) (by decide))) ds_nil))

/-! lowest -/
abbrev st_lowest : Stmt := topS 9
theorem sc_lowest : FnScope ["top", "bottom", "shared"] ["top", "bottom"] (defScope st_lowest) := ⟨rfl, rfl, rfl, by decide +kernel, rfl, by decide +kernel, by decide +kernel⟩
noncomputable def g_lowest : GS :=
  (sSeq (sIf (tOp' ltD (eVar 1) (eLit (.int 0))) (sPar 0 1 (eUn negD (eVar 0)) (eUn negD (eVar 1))) sNil)
      (sSeq (sAsg (eArgs gcdD (aCons (eVar 0) (aCons (eVar 1) aNil))) (gN 2))
      (sRet (eArgs mkTup (aCons (eOp divD (eVar 0) (eVar 2)) (aCons (eOp divD (eVar 1) (eVar 2)) aNil))))))
noncomputable def f_lowest (ds : List D) (m : Mem) : R D := fnB 3 g_lowest ds m
theorem w_lowest {w : World} {P : Pm} {base : Heap} {f : Addr} {fd : FuncData} (T : Txt P) (F : Fun P.K "lowest" "lowest" st_lowest f fd)  : FnG PP w P base false 1 f fd ["top", "bottom"] f_lowest := by
  refine fn_D (k := 0) F sc_lowest fun cdv A outer s H E hr hgd => ?_
  have tk : Takes (cxOf (L2.CX PP w) PP w P.K P.mg base ["top", "bottom", "shared"] "lowest" (defScope st_lowest) f cdv A outer s H E) (xW E) := takes_of rfl rfl rfl rfl
  exact (ds_cons (ds_if (dt_cmp op_ltD (de_var (i := 1) rfl (.inl rfl)) de_int) (ds_one (ds_par rfl sc_lowest.nd rfl rfl (by decide) rfl rfl (de_un un_negD (de_var (i := 0) rfl (.inl rfl))) (de_un un_negD (de_var (i := 1) rfl (.inl rfl))) (by rfl))) ds_nil)
      (ds_cons (ds_set sc_lowest.nd rfl (.inl rfl) (de_bf bi_gcd rfl T.gcd (da_cons (de_var (i := 0) rfl (.inl rfl)) (da_cons (de_var (i := 1) rfl (.inl rfl)) da_nil))) (.inl rfl))
      (ds_one (ds_ret (de_tup (da_cons (de_op op_divD (de_var (i := 0) rfl (.inl rfl)) (de_var (i := 2) rfl (.inl rfl))) (da_cons (de_op op_divD (de_var (i := 1) rfl (.inl rfl)) (de_var (i := 2) rfl (.inl rfl))) da_nil)))))))

/-! plus -/
abbrev st_plus : Stmt := topS 10
theorem sc_plus : FnScope ["one", "other"] ["one", "other"] (defScope st_plus) := ⟨rfl, rfl, rfl, by decide +kernel, rfl, by decide +kernel, by decide +kernel⟩
noncomputable def g_plus : GS :=
  (sSeq (sIf (tOp' eqD (eOp ixD (eVar 0) (eLit (.int 1))) (eOp ixD (eVar 1) (eLit (.int 1)))) (sRet (eCall 2 f_lowest (aCons (eOp addD (eOp ixD (eVar 0) (eLit (.int 0))) (eOp ixD (eVar 1) (eLit (.int 0)))) (aCons (eOp ixD (eVar 0) (eLit (.int 1))) aNil)))) sNil)
      (sRet (eCall 2 f_lowest (aCons (eOp addD (eOp mulD (eOp ixD (eVar 0) (eLit (.int 0))) (eOp ixD (eVar 1) (eLit (.int 1)))) (eOp mulD (eOp ixD (eVar 1) (eLit (.int 0))) (eOp ixD (eVar 0) (eLit (.int 1))))) (aCons (eOp mulD (eOp ixD (eVar 0) (eLit (.int 1))) (eOp ixD (eVar 1) (eLit (.int 1)))) aNil)))))
noncomputable def f_plus (ds : List D) (m : Mem) : R D := fnB 2 g_plus ds m
theorem w_plus {w : World} {P : Pm} {base : Heap} {f : Addr} {fd : FuncData} (T : Txt P) (F : Fun P.K "plus" "plus" st_plus f fd) (C_lowest : Clb PP w P base false 1 "lowest" 2 f_lowest) : FnG PP w P base false 2 f fd ["one", "other"] f_plus := by
  refine fn_D (k := 1) F sc_plus fun cdv A outer s H E hr hgd => ?_
  have tk : Takes (cxOf (L2.CX PP w) PP w P.K P.mg base ["one", "other"] "plus" (defScope st_plus) f cdv A outer s H E) (xW E) := takes_of rfl rfl rfl rfl
  exact (ds_cons (ds_if (dt_cmp (op_eqDD rfl (u64 hr)) (de_ix (ix_D rfl) (de_var (i := 0) rfl (.inl rfl)) de_int) (de_ix (ix_D rfl) (de_var (i := 1) rfl (.inl rfl)) de_int)) (ds_one (ds_ret (de_call rfl rfl (C_lowest) (hr.mono (by decide)) (fun z => nomatch z) rfl tk (da_cons (de_op (op_addD rfl) (de_ix (ix_D rfl) (de_var (i := 0) rfl (.inl rfl)) de_int) (de_ix (ix_D rfl) (de_var (i := 1) rfl (.inl rfl)) de_int)) (da_cons (de_ix (ix_D rfl) (de_var (i := 0) rfl (.inl rfl)) de_int) da_nil))))) ds_nil)
      (ds_one (ds_ret (de_call rfl rfl (C_lowest) (hr.mono (by decide)) (fun z => nomatch z) rfl tk (da_cons (de_op (op_addD rfl) (de_op op_mulD (de_ix (ix_D rfl) (de_var (i := 0) rfl (.inl rfl)) de_int) (de_ix (ix_D rfl) (de_var (i := 1) rfl (.inl rfl)) de_int)) (de_op op_mulD (de_ix (ix_D rfl) (de_var (i := 1) rfl (.inl rfl)) de_int) (de_ix (ix_D rfl) (de_var (i := 0) rfl (.inl rfl)) de_int))) (da_cons (de_op op_mulD (de_ix (ix_D rfl) (de_var (i := 0) rfl (.inl rfl)) de_int) (de_ix (ix_D rfl) (de_var (i := 1) rfl (.inl rfl)) de_int)) da_nil))))))

/-! over -/
abbrev st_over : Stmt := topS 12
theorem sc_over : FnScope ["one", "other"] ["one", "other"] (defScope st_over) := ⟨rfl, rfl, rfl, by decide +kernel, rfl, by decide +kernel, by decide +kernel⟩
noncomputable def g_over : GS :=
  (sRet (eCall 2 f_lowest (aCons (eOp mulD (eOp ixD (eVar 0) (eLit (.int 0))) (eOp ixD (eVar 1) (eLit (.int 1)))) (aCons (eOp mulD (eOp ixD (eVar 0) (eLit (.int 1))) (eOp ixD (eVar 1) (eLit (.int 0)))) aNil))))
noncomputable def f_over (ds : List D) (m : Mem) : R D := fnB 2 g_over ds m
theorem w_over {w : World} {P : Pm} {base : Heap} {f : Addr} {fd : FuncData} (T : Txt P) (F : Fun P.K "over" "over" st_over f fd) (C_lowest : Clb PP w P base false 1 "lowest" 2 f_lowest) : FnG PP w P base false 2 f fd ["one", "other"] f_over := by
  refine fn_D (k := 1) F sc_over fun cdv A outer s H E hr hgd => ?_
  have tk : Takes (cxOf (L2.CX PP w) PP w P.K P.mg base ["one", "other"] "over" (defScope st_over) f cdv A outer s H E) (xW E) := takes_of rfl rfl rfl rfl
  exact (ds_one (ds_ret (de_call rfl rfl (C_lowest) (hr.mono (by decide)) (fun z => nomatch z) rfl tk (da_cons (de_op op_mulD (de_ix (ix_D rfl) (de_var (i := 0) rfl (.inl rfl)) de_int) (de_ix (ix_D rfl) (de_var (i := 1) rfl (.inl rfl)) de_int)) (da_cons (de_op op_mulD (de_ix (ix_D rfl) (de_var (i := 0) rfl (.inl rfl)) de_int) (de_ix (ix_D rfl) (de_var (i := 1) rfl (.inl rfl)) de_int)) da_nil)))))

/-! times -/
abbrev st_times : Stmt := topS 11
theorem sc_times : FnScope ["one", "other"] ["one", "other"] (defScope st_times) := ⟨rfl, rfl, rfl, by decide +kernel, rfl, by decide +kernel, by decide +kernel⟩
noncomputable def g_times : GS :=
  (sRet (eCall 2 f_lowest (aCons (eOp mulD (eOp ixD (eVar 0) (eLit (.int 0))) (eOp ixD (eVar 1) (eLit (.int 0)))) (aCons (eOp mulD (eOp ixD (eVar 0) (eLit (.int 1))) (eOp ixD (eVar 1) (eLit (.int 1)))) aNil))))
noncomputable def f_times (ds : List D) (m : Mem) : R D := fnB 2 g_times ds m
theorem w_times {w : World} {P : Pm} {base : Heap} {f : Addr} {fd : FuncData} (T : Txt P) (F : Fun P.K "times" "times" st_times f fd) (C_lowest : Clb PP w P base false 1 "lowest" 2 f_lowest) : FnG PP w P base false 2 f fd ["one", "other"] f_times := by
  refine fn_D (k := 1) F sc_times fun cdv A outer s H E hr hgd => ?_
  have tk : Takes (cxOf (L2.CX PP w) PP w P.K P.mg base ["one", "other"] "times" (defScope st_times) f cdv A outer s H E) (xW E) := takes_of rfl rfl rfl rfl
  exact (ds_one (ds_ret (de_call rfl rfl (C_lowest) (hr.mono (by decide)) (fun z => nomatch z) rfl tk (da_cons (de_op op_mulD (de_ix (ix_D rfl) (de_var (i := 0) rfl (.inl rfl)) de_int) (de_ix (ix_D rfl) (de_var (i := 1) rfl (.inl rfl)) de_int)) (da_cons (de_op op_mulD (de_ix (ix_D rfl) (de_var (i := 0) rfl (.inl rfl)) de_int) (de_ix (ix_D rfl) (de_var (i := 1) rfl (.inl rfl)) de_int)) da_nil)))))

/-! mesh_to_star -/
abbrev st_mesh_to_star : Stmt := topS 14
theorem sc_mesh_to_star : FnScope ["slopes", "whole"] ["slopes"] (defScope st_mesh_to_star) := ⟨rfl, rfl, rfl, by decide +kernel, rfl, by decide +kernel, by decide +kernel⟩
noncomputable def g_mesh_to_star : GS :=
  (sSeq (sExpr (eCall 1 f_check_three (aCons (eVar 0) aNil)))
      (sSeq (sAsg (eCall 2 f_plus (aCons (eCall 2 f_plus (aCons (eOp ixD (eVar 0) (eLit (.int 0))) (aCons (eOp ixD (eVar 0) (eLit (.int 1))) aNil))) (aCons (eOp ixD (eVar 0) (eLit (.int 2))) aNil))) (gN 1))
      (sRet (eArgs mkTup (aCons (eCall 2 f_over (aCons (eCall 2 f_times (aCons (eOp ixD (eVar 0) (eLit (.int 1))) (aCons (eOp ixD (eVar 0) (eLit (.int 2))) aNil))) (aCons (eVar 1) aNil))) (aCons (eCall 2 f_over (aCons (eCall 2 f_times (aCons (eOp ixD (eVar 0) (eLit (.int 0))) (aCons (eOp ixD (eVar 0) (eLit (.int 2))) aNil))) (aCons (eVar 1) aNil))) (aCons (eCall 2 f_over (aCons (eCall 2 f_times (aCons (eOp ixD (eVar 0) (eLit (.int 0))) (aCons (eOp ixD (eVar 0) (eLit (.int 1))) aNil))) (aCons (eVar 1) aNil))) aNil)))))))
noncomputable def f_mesh_to_star (ds : List D) (m : Mem) : R D := fnB 2 g_mesh_to_star ds m
theorem w_mesh_to_star {w : World} {P : Pm} {base : Heap} {f : Addr} {fd : FuncData} (T : Txt P) (F : Fun P.K "mesh_to_star" "mesh_to_star" st_mesh_to_star f fd) (C_check_three : Clb PP w P base false 4 "check_three" 1 f_check_three) (C_plus : Clb PP w P base false 2 "plus" 2 f_plus) (C_over : Clb PP w P base false 2 "over" 2 f_over) (C_times : Clb PP w P base false 2 "times" 2 f_times) : FnG PP w P base false 5 f fd ["slopes"] f_mesh_to_star := by
  refine fn_D (k := 4) F sc_mesh_to_star fun cdv A outer s H E hr hgd => ?_
  have tk : Takes (cxOf (L2.CX PP w) PP w P.K P.mg base ["slopes", "whole"] "mesh_to_star" (defScope st_mesh_to_star) f cdv A outer s H E) (xW E) := takes_of rfl rfl rfl rfl
  exact (ds_cons (ds_expr (de_call rfl rfl (C_check_three) (hr.mono (by decide)) (fun z => nomatch z) rfl tk (da_cons (de_var (i := 0) rfl (.inl rfl)) da_nil)))
      (ds_cons (ds_set sc_mesh_to_star.nd rfl (.inl rfl) (de_call rfl rfl (C_plus) (hr.mono (by decide)) (fun z => nomatch z) rfl tk (da_cons (de_call rfl rfl (C_plus) (hr.mono (by decide)) (fun z => nomatch z) rfl tk (da_cons (de_ix (ix_D rfl) (de_var (i := 0) rfl (.inl rfl)) de_int) (da_cons (de_ix (ix_D rfl) (de_var (i := 0) rfl (.inl rfl)) de_int) da_nil))) (da_cons (de_ix (ix_D rfl) (de_var (i := 0) rfl (.inl rfl)) de_int) da_nil))) (.inl rfl))
      (ds_one (ds_ret (de_tup (da_cons (de_call rfl rfl (C_over) (hr.mono (by decide)) (fun z => nomatch z) rfl tk (da_cons (de_call rfl rfl (C_times) (hr.mono (by decide)) (fun z => nomatch z) rfl tk (da_cons (de_ix (ix_D rfl) (de_var (i := 0) rfl (.inl rfl)) de_int) (da_cons (de_ix (ix_D rfl) (de_var (i := 0) rfl (.inl rfl)) de_int) da_nil))) (da_cons (de_var (i := 1) rfl (.inl rfl)) da_nil))) (da_cons (de_call rfl rfl (C_over) (hr.mono (by decide)) (fun z => nomatch z) rfl tk (da_cons (de_call rfl rfl (C_times) (hr.mono (by decide)) (fun z => nomatch z) rfl tk (da_cons (de_ix (ix_D rfl) (de_var (i := 0) rfl (.inl rfl)) de_int) (da_cons (de_ix (ix_D rfl) (de_var (i := 0) rfl (.inl rfl)) de_int) da_nil))) (da_cons (de_var (i := 1) rfl (.inl rfl)) da_nil))) (da_cons (de_call rfl rfl (C_over) (hr.mono (by decide)) (fun z => nomatch z) rfl tk (da_cons (de_call rfl rfl (C_times) (hr.mono (by decide)) (fun z => nomatch z) rfl tk (da_cons (de_ix (ix_D rfl) (de_var (i := 0) rfl (.inl rfl)) de_int) (da_cons (de_ix (ix_D rfl) (de_var (i := 0) rfl (.inl rfl)) de_int) da_nil))) (da_cons (de_var (i := 1) rfl (.inl rfl)) da_nil))) da_nil))))))))

/-! star_to_mesh -/
abbrev st_star_to_mesh : Stmt := topS 15
theorem sc_star_to_mesh : FnScope ["slopes", "pairs", "slope"] ["slopes"] (defScope st_star_to_mesh) := ⟨rfl, rfl, rfl, by decide +kernel, rfl, by decide +kernel, by decide +kernel⟩
noncomputable def g_star_to_mesh : GS :=
  (sSeq (sExpr (eCall 1 f_check_three (aCons (eVar 0) aNil)))
      (sSeq (sAsg (eCall 2 f_plus (aCons (eCall 2 f_plus (aCons (eCall 2 f_times (aCons (eOp ixD (eVar 0) (eLit (.int 0))) (aCons (eOp ixD (eVar 0) (eLit (.int 1))) aNil))) (aCons (eCall 2 f_times (aCons (eOp ixD (eVar 0) (eLit (.int 1))) (aCons (eOp ixD (eVar 0) (eLit (.int 2))) aNil))) aNil))) (aCons (eCall 2 f_times (aCons (eOp ixD (eVar 0) (eLit (.int 0))) (aCons (eOp ixD (eVar 0) (eLit (.int 2))) aNil))) aNil))) (gN 1))
      (sRet (eArgs tupleD (aCons (eComp [2] (iSeq (eVar 0)) (gN 2) tYes' (eCall 2 f_over (aCons (eVar 1) (aCons (eVar 2) aNil)))) aNil)))))
noncomputable def f_star_to_mesh (ds : List D) (m : Mem) : R D := fnB 3 g_star_to_mesh ds m
theorem w_star_to_mesh {w : World} {P : Pm} {base : Heap} {f : Addr} {fd : FuncData} (T : Txt P) (F : Fun P.K "star_to_mesh" "star_to_mesh" st_star_to_mesh f fd) (C_check_three : Clb PP w P base false 4 "check_three" 1 f_check_three) (C_plus : Clb PP w P base false 2 "plus" 2 f_plus) (C_over : Clb PP w P base false 2 "over" 2 f_over) (C_times : Clb PP w P base false 2 "times" 2 f_times) : FnG PP w P base false 5 f fd ["slopes"] f_star_to_mesh := by
  refine fn_D (k := 4) F sc_star_to_mesh fun cdv A outer s H E hr hgd => ?_
  have tk : Takes (cxOf (L2.CX PP w) PP w P.K P.mg base ["slopes", "pairs", "slope"] "star_to_mesh" (defScope st_star_to_mesh) f cdv A outer s H E) (xW E) := takes_of rfl rfl rfl rfl
  exact (ds_cons (ds_expr (de_call rfl rfl (C_check_three) (hr.mono (by decide)) (fun z => nomatch z) rfl tk (da_cons (de_var (i := 0) rfl (.inl rfl)) da_nil)))
      (ds_cons (ds_set sc_star_to_mesh.nd rfl (.inr rfl) (de_call rfl rfl (C_plus) (hr.mono (by decide)) (fun z => nomatch z) rfl tk (da_cons (de_call rfl rfl (C_plus) (hr.mono (by decide)) (fun z => nomatch z) rfl tk (da_cons (de_call rfl rfl (C_times) (hr.mono (by decide)) (fun z => nomatch z) rfl tk (da_cons (de_ix (ix_D rfl) (de_var (i := 0) rfl (.inl rfl)) de_int) (da_cons (de_ix (ix_D rfl) (de_var (i := 0) rfl (.inl rfl)) de_int) da_nil))) (da_cons (de_call rfl rfl (C_times) (hr.mono (by decide)) (fun z => nomatch z) rfl tk (da_cons (de_ix (ix_D rfl) (de_var (i := 0) rfl (.inl rfl)) de_int) (da_cons (de_ix (ix_D rfl) (de_var (i := 0) rfl (.inl rfl)) de_int) da_nil))) da_nil))) (da_cons (de_call rfl rfl (C_times) (hr.mono (by decide)) (fun z => nomatch z) rfl tk (da_cons (de_ix (ix_D rfl) (de_var (i := 0) rfl (.inl rfl)) de_int) (da_cons (de_ix (ix_D rfl) (de_var (i := 0) rfl (.inl rfl)) de_int) da_nil))) da_nil))) (.inl rfl))
      (ds_one (ds_ret (de_ty (ty_tuple rfl) rfl T.b_tuple (by decide +kernel) (da_cons (de_comp (own := [("slope", 2)]) rfl sc_star_to_mesh.nd (di_seq rfl (de_var (i := 0) rfl (.inl rfl))) (blkOk_by (N := ["slopes", "pairs", "slope"]) (sc := defScope st_star_to_mesh) (by decide +kernel)) (tgn_name (i := 2) (by decide)) (fun _ _ _ _ _ => (pg_name (i := 2) sc_star_to_mesh.nd rfl (.inl rfl) (.inr rfl))) (fun _ _ _ _ _ => dc_pts) (fun _ _ _ _ _ => (de_call rfl rfl (C_over) (hr.mono (by decide)) (fun z => nomatch z) rfl LamX.takes0 (da_cons (de_var (i := 1) rfl (.inr (.inl rfl))) (da_cons (de_var (i := 2) rfl (.inl rfl)) da_nil))))) da_nil))))))

/-! _law_gcd -/
abbrev st__law_gcd : Stmt := topS 24
theorem sc__law_gcd : FnScope ["a", "b", "turn"] ["a", "b"] (defScope st__law_gcd) := ⟨rfl, rfl, rfl, by decide +kernel, rfl, by decide +kernel, by decide +kernel⟩
noncomputable def g__law_gcd : GS :=
  (sSeq (sPar 0 1 (eIf (tOp' ltD (eVar 0) (eLit (.int 0))) (eOp subD (eLit (.int 0)) (eVar 0)) (eVar 0)) (eIf (tOp' ltD (eVar 1) (eLit (.int 0))) (eOp subD (eLit (.int 0)) (eVar 1)) (eVar 1)))
      (sSeq (sFor (iRg1 (eLit (.int 4000))) (gN 2) (sSeq (sIf (tOp' eqD (eVar 1) (eLit (.int 0))) sBrk sNil)
      (sPar 0 1 (eVar 1) (eOp modD (eArgs intD (aCons (eVar 0) aNil)) (eVar 1)))))
      (sRet (eVar 0))))
noncomputable def f__law_gcd (ds : List D) (m : Mem) : R D := fnB 3 g__law_gcd ds m
theorem w__law_gcd {w : World} {P : Pm} {base : Heap} {f : Addr} {fd : FuncData} (T : Txt P) (F : Fun P.K "_law_gcd" "_law_gcd" st__law_gcd f fd)  : FnG PP w P base false 1 f fd ["a", "b"] f__law_gcd := by
  refine fn_D (k := 0) F sc__law_gcd fun cdv A outer s H E hr hgd => ?_
  have tk : Takes (cxOf (L2.CX PP w) PP w P.K P.mg base ["a", "b", "turn"] "_law_gcd" (defScope st__law_gcd) f cdv A outer s H E) (xW E) := takes_of rfl rfl rfl rfl
  have hp : PassesOwn (model PP w) _ _ (cxOf (L2.CX PP w) PP w P.K P.mg base ["a", "b", "turn"] "_law_gcd" (defScope st__law_gcd) f cdv A outer s H E).xe := passes_of (X := cxOf (L2.CX PP w) PP w P.K P.mg base ["a", "b", "turn"] "_law_gcd" (defScope st__law_gcd) f cdv A outer s H E) rfl
  exact (ds_cons (ds_par rfl sc__law_gcd.nd rfl rfl (by decide) rfl rfl (de_if (dt_cmp op_ltD (de_var (i := 0) rfl (.inl rfl)) de_int) (de_op op_subD de_int (de_var (i := 0) rfl (.inl rfl))) (de_var (i := 0) rfl (.inl rfl))) (de_if (dt_cmp op_ltD (de_var (i := 1) rfl (.inl rfl)) de_int) (de_op op_subD de_int (de_var (i := 1) rfl (.inl rfl))) (de_var (i := 1) rfl (.inl rfl))) (by rfl))
      (ds_cons (ds_for hp rfl (di_range1 rfl T.b_range de_int) (dg_name sc__law_gcd.nd rfl (.inl rfl) (.inl rfl)) (ds_cons (ds_if (dt_cmp (op_eqDD rfl (u64 hr)) (de_var (i := 1) rfl (.inl rfl)) de_int) (ds_one ds_break) ds_nil)
      (ds_one (ds_par rfl sc__law_gcd.nd rfl rfl (by decide) rfl rfl (de_var (i := 1) rfl (.inl rfl)) (de_op op_modD (de_ty ty_int rfl T.b_int (by decide +kernel) (da_cons (de_var (i := 0) rfl (.inl rfl)) da_nil)) (de_var (i := 1) rfl (.inl rfl))) (by rfl)))))
      (ds_one (ds_ret (de_var (i := 0) rfl (.inl rfl))))))

/-! _law_frac -/
abbrev st__law_frac : Stmt := topS 25
theorem sc__law_frac : FnScope ["top", "bottom", "shared"] ["top", "bottom"] (defScope st__law_frac) := ⟨rfl, rfl, rfl, by decide +kernel, rfl, by decide +kernel, by decide +kernel⟩
noncomputable def g__law_frac : GS :=
  (sSeq (sAsg (eIf (tOp' ltD (eVar 1) (eLit (.int 0))) (eArgs mkTup (aCons (eOp subD (eLit (.int 0)) (eVar 0)) (aCons (eOp subD (eLit (.int 0)) (eVar 1)) aNil))) (eArgs mkTup (aCons (eVar 0) (aCons (eVar 1) aNil)))) (gT 2 (gsCons (gN 0) (gsCons (gN 1) gsNil))))
      (sSeq (sAsg (eCall 2 f__law_gcd (aCons (eVar 0) (aCons (eVar 1) aNil))) (gN 2))
      (sRet (eArgs mkTup (aCons (eOp divD (eVar 0) (eVar 2)) (aCons (eOp divD (eVar 1) (eVar 2)) aNil))))))
noncomputable def f__law_frac (ds : List D) (m : Mem) : R D := fnB 3 g__law_frac ds m
theorem w__law_frac {w : World} {P : Pm} {base : Heap} {f : Addr} {fd : FuncData} (T : Txt P) (F : Fun P.K "_law_frac" "_law_frac" st__law_frac f fd) (C__law_gcd : Clb PP w P base false 1 "_law_gcd" 2 f__law_gcd) : FnG PP w P base false 2 f fd ["top", "bottom"] f__law_frac := by
  refine fn_D (k := 1) F sc__law_frac fun cdv A outer s H E hr hgd => ?_
  have tk : Takes (cxOf (L2.CX PP w) PP w P.K P.mg base ["top", "bottom", "shared"] "_law_frac" (defScope st__law_frac) f cdv A outer s H E) (xW E) := takes_of rfl rfl rfl rfl
  exact (ds_cons (ds_asg (de_if (dt_cmp op_ltD (de_var (i := 1) rfl (.inl rfl)) de_int) (de_tup (da_cons (de_op op_subD de_int (de_var (i := 0) rfl (.inl rfl))) (da_cons (de_op op_subD de_int (de_var (i := 1) rfl (.inl rfl))) da_nil))) (de_tup (da_cons (de_var (i := 0) rfl (.inl rfl)) (da_cons (de_var (i := 1) rfl (.inl rfl)) da_nil)))) (dg_tup rfl rfl (dgs_cons (dg_name sc__law_frac.nd rfl (.inl rfl) (.inl rfl)) (dgs_cons (dg_name sc__law_frac.nd rfl (.inl rfl) (.inl rfl)) dgs_nil))))
      (ds_cons (ds_set sc__law_frac.nd rfl (.inl rfl) (de_call rfl rfl (C__law_gcd) (hr.mono (by decide)) (fun z => nomatch z) rfl tk (da_cons (de_var (i := 0) rfl (.inl rfl)) (da_cons (de_var (i := 1) rfl (.inl rfl)) da_nil))) (.inl rfl))
      (ds_one (ds_ret (de_tup (da_cons (de_op op_divD (de_var (i := 0) rfl (.inl rfl)) (de_var (i := 2) rfl (.inl rfl))) (da_cons (de_op op_divD (de_var (i := 1) rfl (.inl rfl)) (de_var (i := 2) rfl (.inl rfl))) da_nil)))))))

/-! _law_pick -/
abbrev st__law_pick : Stmt := topS 21
theorem sc__law_pick : FnScope ["box", "things"] ["box", "things"] (defScope st__law_pick) := ⟨rfl, rfl, rfl, by decide +kernel, rfl, by decide +kernel, by decide +kernel⟩
noncomputable def g__law_pick : GS :=
  (sRet (eOp ixD (eVar 1) (eCall 2 f__law_draw (aCons (eVar 0) (aCons (eArgs lenD (aCons (eVar 1) aNil)) aNil)))))
noncomputable def f__law_pick (ds : List D) (m : Mem) : R D := fnB 2 g__law_pick ds m
theorem w__law_pick {w : World} {P : Pm} {base : Heap} {f : Addr} {fd : FuncData} (T : Txt P) (F : Fun P.K "_law_pick" "_law_pick" st__law_pick f fd) (C__law_draw : Clb PP w P base false 1 "_law_draw" 2 f__law_draw) : FnG PP w P base false 2 f fd ["box", "things"] f__law_pick := by
  refine fn_D (k := 1) F sc__law_pick fun cdv A outer s H E hr hgd => ?_
  have tk : Takes (cxOf (L2.CX PP w) PP w P.K P.mg base ["box", "things"] "_law_pick" (defScope st__law_pick) f cdv A outer s H E) (xW E) := takes_of rfl rfl rfl rfl
  exact (ds_one (ds_ret (de_ix (ix_D rfl) (de_var (i := 1) rfl (.inl rfl)) (de_call rfl rfl (C__law_draw) (hr.mono (by decide)) (fun z => nomatch z) rfl tk (da_cons (de_var (i := 0) rfl (.inl rfl)) (da_cons (de_bi (bi_len rfl) rfl T.b_len (by decide +kernel) (da_cons (de_var (i := 1) rfl (.inl rfl)) da_nil)) da_nil))))))

/-! _law_slope -/
abbrev st__law_slope : Stmt := topS 28
theorem sc__law_slope : FnScope ["box"] ["box"] (defScope st__law_slope) := ⟨rfl, rfl, rfl, by decide +kernel, rfl, by decide +kernel, by decide +kernel⟩
noncomputable def g__law_slope : GS :=
  (sRet (eCall 2 f__law_frac (aCons (eOp addD (eLit (.int 1)) (eCall 2 f__law_draw (aCons (eVar 0) (aCons (eLit (.int 6)) aNil)))) (aCons (eCall 2 f__law_pick (aCons (eVar 0) (aCons (eArgs mkLst (aCons (eLit (.int 1)) (aCons (eLit (.int 1)) (aCons (eLit (.int 2)) (aCons (eLit (.int 3)) aNil))))) aNil))) aNil))))
noncomputable def f__law_slope (ds : List D) (m : Mem) : R D := fnB 1 g__law_slope ds m
theorem w__law_slope {w : World} {P : Pm} {base : Heap} {f : Addr} {fd : FuncData} (T : Txt P) (F : Fun P.K "_law_slope" "_law_slope" st__law_slope f fd) (C__law_draw : Clb PP w P base false 1 "_law_draw" 2 f__law_draw) (C__law_frac : Clb PP w P base false 2 "_law_frac" 2 f__law_frac) (C__law_pick : Clb PP w P base false 2 "_law_pick" 2 f__law_pick) : FnG PP w P base false 3 f fd ["box"] f__law_slope := by
  refine fn_D (k := 2) F sc__law_slope fun cdv A outer s H E hr hgd => ?_
  have tk : Takes (cxOf (L2.CX PP w) PP w P.K P.mg base ["box"] "_law_slope" (defScope st__law_slope) f cdv A outer s H E) (xW E) := takes_of rfl rfl rfl rfl
  exact (ds_one (ds_ret (de_call rfl rfl (C__law_frac) (hr.mono (by decide)) (fun z => nomatch z) rfl tk (da_cons (de_op (op_addD rfl) de_int (de_call rfl rfl (C__law_draw) (hr.mono (by decide)) (fun z => nomatch z) rfl tk (da_cons (de_var (i := 0) rfl (.inl rfl)) (da_cons de_int da_nil)))) (da_cons (de_call rfl rfl (C__law_pick) (hr.mono (by decide)) (fun z => nomatch z) rfl tk (da_cons (de_var (i := 0) rfl (.inl rfl)) (da_cons (de_lst (da_cons de_int (da_cons de_int (da_cons de_int (da_cons de_int da_nil))))) da_nil))) da_nil)))))

/-! _law_row -/
abbrev st__law_row : Stmt := topS 29
theorem sc__law_row : FnScope ["thing", "many", "one", "k"] ["thing", "many"] (defScope st__law_row) := ⟨rfl, rfl, rfl, by decide +kernel, rfl, by decide +kernel, by decide +kernel⟩
noncomputable def g__law_row : GS :=
  (sSeq (sIf (tOr' (tNot' (tTru (eUn (isD1 .tuple) (eVar 0)))) (tOp' neD (eArgs lenD (aCons (eVar 0) aNil)) (eVar 1))) (sRet (eLit (.bl false))) sNil)
      (sSeq (sFor (iSeq (eVar 0)) (gN 2) (sSeq (sIf (tOr' (tNot' (tTru (eUn (isD1 .tuple) (eVar 2)))) (tOr' (tOp' neD (eArgs lenD (aCons (eVar 2) aNil)) (eLit (.int 2))) (tOp' neD (eComp [3] (iSeq (eVar 2)) (gN 3) (tOr' (tNot' (tTru (eUn (isD1 .int) (eVar 3)))) (tTru (eUn (isD1 .bool) (eVar 3)))) (eVar 3)) (eArgs mkLst aNil)))) (sRet (eLit (.bl false))) sNil)
      (sIf (tOr' (tOp' ltD (eOp ixD (eVar 2) (eLit (.int 1))) (eLit (.int 1))) (tOp' neD (eCall 2 f__law_gcd (aCons (eOp ixD (eVar 2) (eLit (.int 0))) (aCons (eOp ixD (eVar 2) (eLit (.int 1))) aNil))) (eLit (.int 1)))) (sRet (eLit (.bl false))) sNil)))
      (sRet (eLit (.bl true)))))
noncomputable def f__law_row (ds : List D) (m : Mem) : R D := fnB 4 g__law_row ds m
theorem w__law_row {w : World} {P : Pm} {base : Heap} {f : Addr} {fd : FuncData} (T : Txt P) (F : Fun P.K "_law_row" "_law_row" st__law_row f fd) (C__law_gcd : Clb PP w P base false 1 "_law_gcd" 2 f__law_gcd) : FnG PP w P base false 2 f fd ["thing", "many"] f__law_row := by
  refine fn_D (k := 1) F sc__law_row fun cdv A outer s H E hr hgd => ?_
  have tk : Takes (cxOf (L2.CX PP w) PP w P.K P.mg base ["thing", "many", "one", "k"] "_law_row" (defScope st__law_row) f cdv A outer s H E) (xW E) := takes_of rfl rfl rfl rfl
  have hp : PassesOwn (model PP w) _ _ (cxOf (L2.CX PP w) PP w P.K P.mg base ["thing", "many", "one", "k"] "_law_row" (defScope st__law_row) f cdv A outer s H E).xe := passes_of (X := cxOf (L2.CX PP w) PP w P.K P.mg base ["thing", "many", "one", "k"] "_law_row" (defScope st__law_row) f cdv A outer s H E) rfl
  exact (ds_cons (ds_if (L2.PW.pt (dw_or (dt_not (dt_tru rfl (de_isi (T := .tuple) rfl rfl T.b_isinstance rfl T.b_tuple (by decide +kernel) (by decide +kernel) (by decide +kernel) (de_var (i := 0) rfl (.inl rfl))))) (dw_or1 (dt_cmp (op_neDD rfl (u64 hr)) (de_bi (bi_len rfl) rfl T.b_len (by decide +kernel) (da_cons (de_var (i := 0) rfl (.inl rfl)) da_nil)) (de_var (i := 1) rfl (.inl rfl)))))) (ds_one (ds_ret de_bl)) ds_nil)
      (ds_cons (ds_for hp rfl (di_seq rfl (de_var (i := 0) rfl (.inl rfl))) (dg_name sc__law_row.nd rfl (.inl rfl) (.inl rfl)) (ds_cons (ds_if (L2.PW.pt (dw_or (dt_not (dt_tru rfl (de_isi (T := .tuple) rfl rfl T.b_isinstance rfl T.b_tuple (by decide +kernel) (by decide +kernel) (by decide +kernel) (de_var (i := 2) rfl (.inl rfl))))) (dw_or (dt_cmp (op_neDD rfl (u64 hr)) (de_bi (bi_len rfl) rfl T.b_len (by decide +kernel) (da_cons (de_var (i := 2) rfl (.inl rfl)) da_nil)) de_int) (dw_or1 (dt_cmp (op_neDD rfl (u64 hr)) (de_comp (own := [("k", 3)]) rfl sc__law_row.nd (di_seq rfl (de_var (i := 2) rfl (.inl rfl))) (blkOk_by (N := ["thing", "many", "one", "k"]) (sc := defScope st__law_row) (by decide +kernel)) (tgn_name (i := 3) (by decide)) (fun _ _ _ _ _ => (pg_name (i := 3) sc__law_row.nd rfl (.inl rfl) (.inr rfl))) (fun _ _ _ _ _ => (dc_pts1 (L2.PW.pt (dw_or (dt_not (dt_tru rfl (de_isi (T := .int) rfl rfl T.b_isinstance rfl T.b_int (by decide +kernel) (by decide +kernel) (by decide +kernel) (de_var (i := 3) rfl (.inl rfl))))) (dw_or1 (dt_tru rfl (de_isi (T := .bool) rfl rfl T.b_isinstance rfl T.b_bool (by decide +kernel) (by decide +kernel) (by decide +kernel) (de_var (i := 3) rfl (.inl rfl))))))))) (fun _ _ _ _ _ => (de_var (i := 3) rfl (.inl rfl)))) (de_lst da_nil)))))) (ds_one (ds_ret de_bl)) ds_nil)
      (ds_one (ds_if (L2.PW.pt (dw_or (dt_cmp op_ltD (de_ix (ix_D rfl) (de_var (i := 2) rfl (.inl rfl)) de_int) de_int) (dw_or1 (dt_cmp (op_neDD rfl (u64 hr)) (de_call rfl rfl (C__law_gcd) (hr.mono (by decide)) (fun z => nomatch z) rfl tk (da_cons (de_ix (ix_D rfl) (de_var (i := 2) rfl (.inl rfl)) de_int) (da_cons (de_ix (ix_D rfl) (de_var (i := 2) rfl (.inl rfl)) de_int) da_nil))) de_int)))) (ds_one (ds_ret de_bl)) ds_nil))))
      (ds_one (ds_ret de_bl))))

/-! _law_same -/
abbrev st__law_same : Stmt := topS 22
theorem sc__law_same : FnScope ["a", "b"] ["a", "b"] (defScope st__law_same) := ⟨rfl, rfl, rfl, by decide +kernel, rfl, by decide +kernel, by decide +kernel⟩
noncomputable def g__law_same : GS :=
  (sRet (eOp eqD (eArgs reprD (aCons (eVar 0) aNil)) (eArgs reprD (aCons (eVar 1) aNil))))
noncomputable def f__law_same (ds : List D) (m : Mem) : R D := fnB 2 g__law_same ds m
theorem w__law_same {w : World} {P : Pm} {base : Heap} {f : Addr} {fd : FuncData} (T : Txt P) (F : Fun P.K "_law_same" "_law_same" st__law_same f fd)  : FnG PP w P base true 1 f fd ["a", "b"] f__law_same := by
  refine fn_D (k := 0) F sc__law_same fun cdv A outer s H E hr hgd => ?_
  have tk : Takes (cxOf (L2.CX PP w) PP w P.K P.mg base ["a", "b"] "_law_same" (defScope st__law_same) f cdv A outer s H E) (xW E) := takes_of rfl rfl rfl rfl
  exact (ds_one (ds_ret (de_cmp (op_eqDD rfl (u64 hr)) (de_bi (bi_repr rfl (u66 hr) (hgd rfl)) rfl T.b_repr (by decide +kernel) (da_cons (de_var (i := 0) rfl (.inl rfl)) da_nil)) (de_bi (bi_repr rfl (u66 hr) (hgd rfl)) rfl T.b_repr (by decide +kernel) (da_cons (de_var (i := 1) rfl (.inl rfl)) da_nil)))))

/-! _law_plus -/
abbrev st__law_plus : Stmt := topS 26
theorem sc__law_plus : FnScope ["a", "b"] ["a", "b"] (defScope st__law_plus) := ⟨rfl, rfl, rfl, by decide +kernel, rfl, by decide +kernel, by decide +kernel⟩
noncomputable def g__law_plus : GS :=
  (sRet (eCall 2 f__law_frac (aCons (eOp addD (eOp mulD (eOp ixD (eVar 0) (eLit (.int 0))) (eOp ixD (eVar 1) (eLit (.int 1)))) (eOp mulD (eOp ixD (eVar 1) (eLit (.int 0))) (eOp ixD (eVar 0) (eLit (.int 1))))) (aCons (eOp mulD (eOp ixD (eVar 0) (eLit (.int 1))) (eOp ixD (eVar 1) (eLit (.int 1)))) aNil))))
noncomputable def f__law_plus (ds : List D) (m : Mem) : R D := fnB 2 g__law_plus ds m
theorem w__law_plus {w : World} {P : Pm} {base : Heap} {f : Addr} {fd : FuncData} (T : Txt P) (F : Fun P.K "_law_plus" "_law_plus" st__law_plus f fd) (C__law_frac : Clb PP w P base false 2 "_law_frac" 2 f__law_frac) : FnG PP w P base false 3 f fd ["a", "b"] f__law_plus := by
  refine fn_D (k := 2) F sc__law_plus fun cdv A outer s H E hr hgd => ?_
  have tk : Takes (cxOf (L2.CX PP w) PP w P.K P.mg base ["a", "b"] "_law_plus" (defScope st__law_plus) f cdv A outer s H E) (xW E) := takes_of rfl rfl rfl rfl
  exact (ds_one (ds_ret (de_call rfl rfl (C__law_frac) (hr.mono (by decide)) (fun z => nomatch z) rfl tk (da_cons (de_op (op_addD rfl) (de_op op_mulD (de_ix (ix_D rfl) (de_var (i := 0) rfl (.inl rfl)) de_int) (de_ix (ix_D rfl) (de_var (i := 1) rfl (.inl rfl)) de_int)) (de_op op_mulD (de_ix (ix_D rfl) (de_var (i := 1) rfl (.inl rfl)) de_int) (de_ix (ix_D rfl) (de_var (i := 0) rfl (.inl rfl)) de_int))) (da_cons (de_op op_mulD (de_ix (ix_D rfl) (de_var (i := 0) rfl (.inl rfl)) de_int) (de_ix (ix_D rfl) (de_var (i := 1) rfl (.inl rfl)) de_int)) da_nil)))))

/-! _law_over -/
abbrev st__law_over : Stmt := topS 27
theorem sc__law_over : FnScope ["a", "b"] ["a", "b"] (defScope st__law_over) := ⟨rfl, rfl, rfl, by decide +kernel, rfl, by decide +kernel, by decide +kernel⟩
noncomputable def g__law_over : GS :=
  (sRet (eCall 2 f__law_frac (aCons (eOp mulD (eOp ixD (eVar 0) (eLit (.int 0))) (eOp ixD (eVar 1) (eLit (.int 1)))) (aCons (eOp mulD (eOp ixD (eVar 0) (eLit (.int 1))) (eOp ixD (eVar 1) (eLit (.int 0)))) aNil))))
noncomputable def f__law_over (ds : List D) (m : Mem) : R D := fnB 2 g__law_over ds m
theorem w__law_over {w : World} {P : Pm} {base : Heap} {f : Addr} {fd : FuncData} (T : Txt P) (F : Fun P.K "_law_over" "_law_over" st__law_over f fd) (C__law_frac : Clb PP w P base false 2 "_law_frac" 2 f__law_frac) : FnG PP w P base false 3 f fd ["a", "b"] f__law_over := by
  refine fn_D (k := 2) F sc__law_over fun cdv A outer s H E hr hgd => ?_
  have tk : Takes (cxOf (L2.CX PP w) PP w P.K P.mg base ["a", "b"] "_law_over" (defScope st__law_over) f cdv A outer s H E) (xW E) := takes_of rfl rfl rfl rfl
  exact (ds_one (ds_ret (de_call rfl rfl (C__law_frac) (hr.mono (by decide)) (fun z => nomatch z) rfl tk (da_cons (de_op op_mulD (de_ix (ix_D rfl) (de_var (i := 0) rfl (.inl rfl)) de_int) (de_ix (ix_D rfl) (de_var (i := 1) rfl (.inl rfl)) de_int)) (da_cons (de_op op_mulD (de_ix (ix_D rfl) (de_var (i := 0) rfl (.inl rfl)) de_int) (de_ix (ix_D rfl) (de_var (i := 1) rfl (.inl rfl)) de_int)) da_nil)))))

/-! _law_beside_slope -/
abbrev st__law_beside_slope : Stmt := topS 30
theorem sc__law_beside_slope : FnScope ["one", "other"] ["one", "other"] (defScope st__law_beside_slope) := ⟨rfl, rfl, rfl, by decide +kernel, rfl, by decide +kernel, by decide +kernel⟩
noncomputable def g__law_beside_slope : GS :=
  (sRet (eCall 2 f__law_over (aCons (eArgs mkTup (aCons (eLit (.int 1)) (aCons (eLit (.int 1)) aNil))) (aCons (eCall 2 f__law_plus (aCons (eCall 2 f__law_over (aCons (eArgs mkTup (aCons (eLit (.int 1)) (aCons (eLit (.int 1)) aNil))) (aCons (eVar 0) aNil))) (aCons (eCall 2 f__law_over (aCons (eArgs mkTup (aCons (eLit (.int 1)) (aCons (eLit (.int 1)) aNil))) (aCons (eVar 1) aNil))) aNil))) aNil))))
noncomputable def f__law_beside_slope (ds : List D) (m : Mem) : R D := fnB 2 g__law_beside_slope ds m
theorem w__law_beside_slope {w : World} {P : Pm} {base : Heap} {f : Addr} {fd : FuncData} (T : Txt P) (F : Fun P.K "_law_beside_slope" "_law_beside_slope" st__law_beside_slope f fd) (C__law_plus : Clb PP w P base false 3 "_law_plus" 2 f__law_plus) (C__law_over : Clb PP w P base false 3 "_law_over" 2 f__law_over) : FnG PP w P base false 4 f fd ["one", "other"] f__law_beside_slope := by
  refine fn_D (k := 3) F sc__law_beside_slope fun cdv A outer s H E hr hgd => ?_
  have tk : Takes (cxOf (L2.CX PP w) PP w P.K P.mg base ["one", "other"] "_law_beside_slope" (defScope st__law_beside_slope) f cdv A outer s H E) (xW E) := takes_of rfl rfl rfl rfl
  exact (ds_one (ds_ret (de_call rfl rfl (C__law_over) (hr.mono (by decide)) (fun z => nomatch z) rfl tk (da_cons (de_tup (da_cons de_int (da_cons de_int da_nil))) (da_cons (de_call rfl rfl (C__law_plus) (hr.mono (by decide)) (fun z => nomatch z) rfl tk (da_cons (de_call rfl rfl (C__law_over) (hr.mono (by decide)) (fun z => nomatch z) rfl tk (da_cons (de_tup (da_cons de_int (da_cons de_int da_nil))) (da_cons (de_var (i := 0) rfl (.inl rfl)) da_nil))) (da_cons (de_call rfl rfl (C__law_over) (hr.mono (by decide)) (fun z => nomatch z) rfl tk (da_cons (de_tup (da_cons de_int (da_cons de_int da_nil))) (da_cons (de_var (i := 1) rfl (.inl rfl)) da_nil))) da_nil))) da_nil)))))

def told_l : List Cl4 := [⟨"BadValue", 0, "bad value", "reason"⟩, ⟨"Refused", 0, "refused", "reason"⟩, ⟨"TooMany", 0, "too many", "what"⟩]
/-! law -/
abbrev st_law : Stmt := topS 31
theorem sc_law : FnScope ["script", "box", "turn", "slopes", "star", "mesh", "k", "a", "b", "odd_ones", "odd", "told"] ["script"] (defScope st_law) := ⟨rfl, rfl, rfl, by decide +kernel, rfl, by decide +kernel, by decide +kernel⟩
noncomputable def g_law_1 : GS :=
  (sAsg (eArgs mkTup (aCons (eCall 2 f__law_frac (aCons (eOp addD (eLit (.int 1)) (eCall 2 f__law_draw (aCons (eVar 1) (aCons (eLit (.int 1008)) aNil)))) (aCons (eLit (.int 1009)) aNil))) (aCons (eOp ixD (eVar 3) (eLit (.int 0))) (aCons (eArgs mkTup (aCons (eLit (.int 999983)) (aCons (eOp addD (eLit (.int 1)) (eCall 2 f__law_draw (aCons (eVar 1) (aCons (eLit (.int 2)) aNil)))) aNil))) aNil)))) (gN 3))
noncomputable def g_law_2 : GS :=
  (sPar 7 8 (eOp modD (eArgs intD (aCons (eOp addD (eVar 6) (eLit (.int 1))) aNil)) (eLit (.int 3))) (eOp modD (eArgs intD (aCons (eOp addD (eVar 6) (eLit (.int 2))) aNil)) (eLit (.int 3))))
noncomputable def g_law_3 : GS :=
  (sIf (tNot' (tTru (eCall 2 f__law_same (aCons (eCall 2 f__law_plus (aCons (eOp ixD (eVar 4) (eVar 7)) (aCons (eOp ixD (eVar 4) (eVar 8)) aNil))) (aCons (eCall 2 f__law_beside_slope (aCons (eOp ixD (eVar 3) (eVar 6)) (aCons (eCall 2 f__law_plus (aCons (eOp ixD (eVar 3) (eVar 7)) (aCons (eOp ixD (eVar 3) (eVar 8)) aNil))) aNil))) aNil))))) (sRet (eLit (.bl false))) sNil)
noncomputable def g_law_4 : GS :=
  (sIf (tNot' (tTru (eCall 2 f__law_same (aCons (eCall 2 f__law_plus (aCons (eOp ixD (eVar 3) (eVar 7)) (aCons (eOp ixD (eVar 3) (eVar 8)) aNil))) (aCons (eCall 2 f__law_beside_slope (aCons (eOp ixD (eVar 5) (eVar 6)) (aCons (eCall 2 f__law_plus (aCons (eOp ixD (eVar 5) (eVar 7)) (aCons (eOp ixD (eVar 5) (eVar 8)) aNil))) aNil))) aNil))))) (sRet (eLit (.bl false))) sNil)
noncomputable def g_law_5 : GS :=
  (sSeq g_law_2
      (sSeq g_law_3
      g_law_4))
noncomputable def g_law_6 : GS :=
  (sAsg (eArgs mkLst (aCons (eTold told_l (eCall 1 f_mesh_to_star (aCons (eVar 10) aNil))) aNil)) (gN 11))
noncomputable def g_law_7 : GS :=
  (sExpr (eMeth "list" appD (eVar 11) (aCons (eTold told_l (eCall 1 f_star_to_mesh (aCons (eVar 10) aNil))) aNil)))
noncomputable def g_law_8 : GS :=
  (sIf (tOp' neD (eVar 11) (eOp mulD (eArgs mkLst (aCons (eArgs mkLst (aCons (eLit (.str (PySem.Str.ofString "bad value"))) (aCons (eLit (.str (PySem.Str.ofString "slopes"))) aNil))) aNil)) (eLit (.int 2)))) (sRet (eLit (.bl false))) sNil)
noncomputable def g_law_9 : GS :=
  (sSeq g_law_6
      (sSeq g_law_7
      g_law_8))
noncomputable def g_law_10 : GS :=
  (sAsg (eArgs tupleD (aCons (eComp [6] (iRg1 (eLit (.int 3))) (gN 6) tYes' (eCall 1 f__law_slope (aCons (eVar 1) aNil))) aNil)) (gN 3))
noncomputable def g_law_11 : GS :=
  (sIf (tOp' eqD (eCall 2 f__law_draw (aCons (eVar 1) (aCons (eLit (.int 4)) aNil))) (eLit (.int 0))) g_law_1 sNil)
noncomputable def g_law_12 : GS :=
  (sPar 4 5 (eCall 1 f_mesh_to_star (aCons (eVar 3) aNil)) (eCall 1 f_star_to_mesh (aCons (eVar 3) aNil)))
noncomputable def g_law_13 : GS :=
  (sIf (tOr' (tNot' (tTru (eCall 2 f__law_row (aCons (eVar 4) (aCons (eLit (.int 3)) aNil))))) (tNot' (tTru (eCall 2 f__law_row (aCons (eVar 5) (aCons (eLit (.int 3)) aNil)))))) (sRet (eLit (.bl false))) sNil)
noncomputable def g_law_14 : GS :=
  (sIf (tOr' (tNot' (tTru (eCall 2 f__law_same (aCons (eCall 1 f_star_to_mesh (aCons (eVar 4) aNil)) (aCons (eVar 3) aNil))))) (tNot' (tTru (eCall 2 f__law_same (aCons (eCall 1 f_mesh_to_star (aCons (eVar 5) aNil)) (aCons (eVar 3) aNil)))))) (sRet (eLit (.bl false))) sNil)
noncomputable def g_law_15 : GS :=
  (sAsg (eArgs mkTup (aCons (eLit .non) (aCons (eArgs listD (aCons (eVar 3) aNil)) (aCons (eSl (eVar 3) oNone (oSome (eLit (.int 2)))) (aCons (eOp addD (eVar 3) (eSl (eVar 3) oNone (oSome (eLit (.int 1))))) (aCons (eOp addD (eSl (eVar 3) oNone (oSome (eLit (.int 2)))) (eArgs mkTup (aCons (eArgs mkTup (aCons (eLit (.int 0)) (aCons (eLit (.int 1)) aNil))) aNil))) (aCons (eOp addD (eSl (eVar 3) oNone (oSome (eLit (.int 2)))) (eArgs mkTup (aCons (eArgs mkTup (aCons (eUn negD (eLit (.int 1))) (aCons (eLit (.int 2)) aNil))) aNil))) (aCons (eOp addD (eArgs mkTup (aCons (eArgs mkTup (aCons (eLit (.int 2)) (aCons (eLit (.int 4)) aNil))) aNil)) (eSl (eVar 3) (oSome (eLit (.int 1))) oNone)) (aCons (eOp addD (eArgs mkTup (aCons (eLit (.int 1)) aNil)) (eSl (eVar 3) (oSome (eLit (.int 1))) oNone)) (aCons (eOp addD (eArgs mkTup (aCons (eLit .non) aNil)) (eSl (eVar 3) (oSome (eLit (.int 1))) oNone)) (aCons (eOp addD (eArgs mkTup (aCons (eArgs mkTup (aCons (eLit (.bl true)) (aCons (eLit (.int 1)) aNil))) aNil)) (eSl (eVar 3) (oSome (eLit (.int 1))) oNone)) aNil))))))))))) (gN 9))
noncomputable def g_law_16 : GS :=
  (sSeq g_law_10
      (sSeq g_law_11
      (sSeq g_law_12
      (sSeq g_law_13
      (sSeq (sFor (iRg1 (eLit (.int 3))) (gN 6) g_law_5)
      (sSeq g_law_14
      (sSeq g_law_15
      (sFor (iSeq (eVar 9)) (gN 10) g_law_9))))))))
noncomputable def g_law_17 : GS :=
  (sAsg (eArgs mkLst (aCons (eCall 3 f__law_digits (aCons (eVar 0) (aCons (eLit (.int 0)) (aCons (eLit (.int 63)) aNil)))) (aCons (eLit (.int 0)) aNil))) (gN 1))
noncomputable def g_law : GS :=
  (sSeq g_law_17
      (sSeq (sFor (iRg1 (eLit (.int 5))) (gN 2) g_law_16)
      (sRet (eLit (.bl true)))))
noncomputable def f_law (ds : List D) (m : Mem) : R D := fnB 12 g_law ds m
abbrev st__law_told : Stmt := topS 23
theorem sc__law_told : FnScope ["call", "e"] ["call"] (defScope st__law_told) := ⟨rfl, rfl, rfl, by decide +kernel, rfl, by decide +kernel, by decide +kernel⟩
def qL : Str := ("law" : Str) ++ ".<locals>." ++ "<lambda>"
theorem w_law {w : World} {P : Pm} {base : Heap} {f g c Pt C0 C1 C2 : Addr} {fdt : FuncData} {oc kV doc pm ct : Value} {od an : Option Addr} {osl : Array (Option Value)} (T : Txt P) (lk : P.K.lookup f = some ⟨oc, od, .func (PySem.W.fnOf "law" "law" (defArgs st_law) (defBody st_law) (defScope st_law) .none kV doc pm an (.ref c) ct), osl⟩) (hcd : PySem.W.codeIn P.K (.ref c) "law" = true)
    (Cl : ClassesOk P [⟨"BadValue", C0, "bad value", "reason"⟩, ⟨"Refused", C1, "refused", "reason"⟩, ⟨"TooMany", C2, "too many", "what"⟩]) (hmt : P.mg "_law_told" = some (.ref g)) (Ft : Fun P.K "_law_told" "_law_told" st__law_told g fdt) (hbt : Binds P.K fdt ["call"] []) (TB : LamX.TabB base P.mg c Pt) (hT : P.T = [(Pt, qL)]) (C__law_digits : Clb PP w P base false 1 "_law_digits" 3 f__law_digits) (C__law_draw : Clb PP w P base false 1 "_law_draw" 2 f__law_draw) (C_mesh_to_star : Clb PP w P base false 5 "mesh_to_star" 1 f_mesh_to_star) (C_star_to_mesh : Clb PP w P base false 5 "star_to_mesh" 1 f_star_to_mesh) (C__law_frac : Clb PP w P base false 2 "_law_frac" 2 f__law_frac) (C__law_slope : Clb PP w P base false 3 "_law_slope" 1 f__law_slope) (C__law_row : Clb PP w P base false 2 "_law_row" 2 f__law_row) (C__law_same : Clb PP w P base true 1 "_law_same" 2 f__law_same) (C__law_plus : Clb PP w P base false 3 "_law_plus" 2 f__law_plus) (C__law_beside_slope : Clb PP w P base false 4 "_law_beside_slope" 2 f__law_beside_slope) :
    FnG PP w P base true 8 f (PySem.W.fnOf "law" "law" (defArgs st_law) (defBody st_law) (defScope st_law) .none kV doc pm an (.ref c) ct) ["script"] f_law := by
  refine fn_Dc (k := 7) lk hcd sc_law fun A outer s H E hr hgd => ?_
  have tk : Takes (cxOf (L2.CX PP w) PP w P.K P.mg base ["script", "box", "turn", "slopes", "star", "mesh", "k", "a", "b", "odd_ones", "odd", "told"] "law" (defScope st_law) f (.ref c) A outer s H E) (xW E) := takes_of rfl rfl rfl rfl
  have hp : PassesOwn (model PP w) _ _ (cxOf (L2.CX PP w) PP w P.K P.mg base ["script", "box", "turn", "slopes", "star", "mesh", "k", "a", "b", "odd_ones", "odd", "told"] "law" (defScope st_law) f (.ref c) A outer s H E).xe := passes_of (X := cxOf (L2.CX PP w) PP w P.K P.mg base ["script", "box", "turn", "slopes", "star", "mesh", "k", "a", "b", "odd_ones", "odd", "told"] "law" (defScope st_law) f (.ref c) A outer s H E) rfl
  exact (ds_cons (ds_set sc_law.nd rfl (.inr rfl) (de_lst (da_cons (de_call rfl rfl (C__law_digits) (hr.mono (by decide)) (fun z => nomatch z) rfl tk (da_cons (de_var (i := 0) rfl (.inl rfl)) (da_cons de_int (da_cons de_int da_nil)))) (da_cons de_int da_nil))) (.inl rfl))
      (ds_cons (ds_for hp rfl (di_range1 rfl T.b_range de_int) (dg_name sc_law.nd rfl (.inl rfl) (.inl rfl)) (ds_cons (ds_set sc_law.nd rfl (.inl rfl) (de_ty (ty_tuple rfl) rfl T.b_tuple (by decide +kernel) (da_cons (de_comp (own := [("k", 6)]) rfl sc_law.nd (di_range1 rfl T.b_range de_int) (blkOk_by (N := ["script", "box", "turn", "slopes", "star", "mesh", "k", "a", "b", "odd_ones", "odd", "told"]) (sc := defScope st_law) (by decide +kernel)) (tgn_name (i := 6) (by decide)) (fun _ _ _ _ _ => (pg_name (i := 6) sc_law.nd rfl (.inl rfl) (.inr rfl))) (fun _ _ _ _ _ => dc_pts) (fun _ _ _ _ _ => (de_call rfl rfl (C__law_slope) (hr.mono (by decide)) (fun z => nomatch z) rfl LamX.takes0 (da_cons (de_var (i := 1) rfl (.inr (.inl rfl))) da_nil)))) da_nil)) (.inl rfl))
      (ds_cons (ds_if (dt_cmp (op_eqDD rfl (u64 hr)) (de_call rfl rfl (C__law_draw) (hr.mono (by decide)) (fun z => nomatch z) rfl tk (da_cons (de_var (i := 1) rfl (.inr (.inl rfl))) (da_cons de_int da_nil))) de_int) (ds_one (ds_set sc_law.nd rfl (.inl rfl) (de_tup (da_cons (de_call rfl rfl (C__law_frac) (hr.mono (by decide)) (fun z => nomatch z) rfl tk (da_cons (de_op (op_addD rfl) de_int (de_call rfl rfl (C__law_draw) (hr.mono (by decide)) (fun z => nomatch z) rfl tk (da_cons (de_var (i := 1) rfl (.inr (.inl rfl))) (da_cons de_int da_nil)))) (da_cons de_int da_nil))) (da_cons (de_ix (ix_D rfl) (de_var (i := 3) rfl (.inl rfl)) de_int) (da_cons (de_tup (da_cons de_int (da_cons (de_op (op_addD rfl) de_int (de_call rfl rfl (C__law_draw) (hr.mono (by decide)) (fun z => nomatch z) rfl tk (da_cons (de_var (i := 1) rfl (.inr (.inl rfl))) (da_cons de_int da_nil)))) da_nil))) da_nil)))) (.inl rfl))) ds_nil)
      (ds_cons (ds_par rfl sc_law.nd rfl rfl (by decide) rfl rfl (de_call rfl rfl (C_mesh_to_star) (hr.mono (by decide)) (fun z => nomatch z) rfl tk (da_cons (de_var (i := 3) rfl (.inl rfl)) da_nil)) (de_call rfl rfl (C_star_to_mesh) (hr.mono (by decide)) (fun z => nomatch z) rfl tk (da_cons (de_var (i := 3) rfl (.inl rfl)) da_nil)) (by rfl))
      (ds_cons (ds_if (L2.PW.pt (dw_or (dt_not (dt_tru rfl (de_call rfl rfl (C__law_row) (hr.mono (by decide)) (fun z => nomatch z) rfl tk (da_cons (de_var (i := 4) rfl (.inl rfl)) (da_cons de_int da_nil))))) (dw_or1 (dt_not (dt_tru rfl (de_call rfl rfl (C__law_row) (hr.mono (by decide)) (fun z => nomatch z) rfl tk (da_cons (de_var (i := 5) rfl (.inl rfl)) (da_cons de_int da_nil)))))))) (ds_one (ds_ret de_bl)) ds_nil)
      (ds_cons (ds_for hp rfl (di_range1 rfl T.b_range de_int) (dg_name sc_law.nd rfl (.inl rfl) (.inl rfl)) (ds_cons (ds_par rfl sc_law.nd rfl rfl (by decide) rfl rfl (de_op op_modD (de_ty ty_int rfl T.b_int (by decide +kernel) (da_cons (de_op (op_addD rfl) (de_var (i := 6) rfl (.inl rfl)) de_int) da_nil)) de_int) (de_op op_modD (de_ty ty_int rfl T.b_int (by decide +kernel) (da_cons (de_op (op_addD rfl) (de_var (i := 6) rfl (.inl rfl)) de_int) da_nil)) de_int) (by rfl))
      (ds_cons (ds_if (dt_not (dt_tru rfl (de_call rfl rfl (C__law_same) (hr.mono (by decide)) (fun _ => hgd rfl) rfl tk (da_cons (de_call rfl rfl (C__law_plus) (hr.mono (by decide)) (fun z => nomatch z) rfl tk (da_cons (de_ix (ix_D rfl) (de_var (i := 4) rfl (.inl rfl)) (de_var (i := 7) rfl (.inl rfl))) (da_cons (de_ix (ix_D rfl) (de_var (i := 4) rfl (.inl rfl)) (de_var (i := 8) rfl (.inl rfl))) da_nil))) (da_cons (de_call rfl rfl (C__law_beside_slope) (hr.mono (by decide)) (fun z => nomatch z) rfl tk (da_cons (de_ix (ix_D rfl) (de_var (i := 3) rfl (.inl rfl)) (de_var (i := 6) rfl (.inl rfl))) (da_cons (de_call rfl rfl (C__law_plus) (hr.mono (by decide)) (fun z => nomatch z) rfl tk (da_cons (de_ix (ix_D rfl) (de_var (i := 3) rfl (.inl rfl)) (de_var (i := 7) rfl (.inl rfl))) (da_cons (de_ix (ix_D rfl) (de_var (i := 3) rfl (.inl rfl)) (de_var (i := 8) rfl (.inl rfl))) da_nil))) da_nil))) da_nil))))) (ds_one (ds_ret de_bl)) ds_nil)
      (ds_one (ds_if (dt_not (dt_tru rfl (de_call rfl rfl (C__law_same) (hr.mono (by decide)) (fun _ => hgd rfl) rfl tk (da_cons (de_call rfl rfl (C__law_plus) (hr.mono (by decide)) (fun z => nomatch z) rfl tk (da_cons (de_ix (ix_D rfl) (de_var (i := 3) rfl (.inl rfl)) (de_var (i := 7) rfl (.inl rfl))) (da_cons (de_ix (ix_D rfl) (de_var (i := 3) rfl (.inl rfl)) (de_var (i := 8) rfl (.inl rfl))) da_nil))) (da_cons (de_call rfl rfl (C__law_beside_slope) (hr.mono (by decide)) (fun z => nomatch z) rfl tk (da_cons (de_ix (ix_D rfl) (de_var (i := 5) rfl (.inl rfl)) (de_var (i := 6) rfl (.inl rfl))) (da_cons (de_call rfl rfl (C__law_plus) (hr.mono (by decide)) (fun z => nomatch z) rfl tk (da_cons (de_ix (ix_D rfl) (de_var (i := 5) rfl (.inl rfl)) (de_var (i := 7) rfl (.inl rfl))) (da_cons (de_ix (ix_D rfl) (de_var (i := 5) rfl (.inl rfl)) (de_var (i := 8) rfl (.inl rfl))) da_nil))) da_nil))) da_nil))))) (ds_one (ds_ret de_bl)) ds_nil)))))
      (ds_cons (ds_if (L2.PW.pt (dw_or (dt_not (dt_tru rfl (de_call rfl rfl (C__law_same) (hr.mono (by decide)) (fun _ => hgd rfl) rfl tk (da_cons (de_call rfl rfl (C_star_to_mesh) (hr.mono (by decide)) (fun z => nomatch z) rfl tk (da_cons (de_var (i := 4) rfl (.inl rfl)) da_nil)) (da_cons (de_var (i := 3) rfl (.inl rfl)) da_nil))))) (dw_or1 (dt_not (dt_tru rfl (de_call rfl rfl (C__law_same) (hr.mono (by decide)) (fun _ => hgd rfl) rfl tk (da_cons (de_call rfl rfl (C_mesh_to_star) (hr.mono (by decide)) (fun z => nomatch z) rfl tk (da_cons (de_var (i := 5) rfl (.inl rfl)) da_nil)) (da_cons (de_var (i := 3) rfl (.inl rfl)) da_nil)))))))) (ds_one (ds_ret de_bl)) ds_nil)
      (ds_cons (ds_set sc_law.nd rfl (.inl rfl) (de_tup (da_cons de_non (da_cons (de_ty (ty_list rfl) rfl T.b_list (by decide +kernel) (da_cons (de_var (i := 3) rfl (.inl rfl)) da_nil)) (da_cons (de_sl rfl (de_var (i := 3) rfl (.inl rfl)) do_none (do_some de_int)) (da_cons (de_op (op_addD rfl) (de_var (i := 3) rfl (.inl rfl)) (de_sl rfl (de_var (i := 3) rfl (.inl rfl)) do_none (do_some de_int))) (da_cons (de_op (op_addD rfl) (de_sl rfl (de_var (i := 3) rfl (.inl rfl)) do_none (do_some de_int)) (de_tup (da_cons (de_tup (da_cons de_int (da_cons de_int da_nil))) da_nil))) (da_cons (de_op (op_addD rfl) (de_sl rfl (de_var (i := 3) rfl (.inl rfl)) do_none (do_some de_int)) (de_tup (da_cons (de_tup (da_cons (de_un un_negD de_int) (da_cons de_int da_nil))) da_nil))) (da_cons (de_op (op_addD rfl) (de_tup (da_cons (de_tup (da_cons de_int (da_cons de_int da_nil))) da_nil)) (de_sl rfl (de_var (i := 3) rfl (.inl rfl)) (do_some de_int) do_none)) (da_cons (de_op (op_addD rfl) (de_tup (da_cons de_int da_nil)) (de_sl rfl (de_var (i := 3) rfl (.inl rfl)) (do_some de_int) do_none)) (da_cons (de_op (op_addD rfl) (de_tup (da_cons de_non da_nil)) (de_sl rfl (de_var (i := 3) rfl (.inl rfl)) (do_some de_int) do_none)) (da_cons (de_op (op_addD rfl) (de_tup (da_cons (de_tup (da_cons de_bl (da_cons de_int da_nil))) da_nil)) (de_sl rfl (de_var (i := 3) rfl (.inl rfl)) (do_some de_int) do_none)) da_nil))))))))))) (.inl rfl))
      (ds_one (ds_for hp rfl (di_seq rfl (de_var (i := 9) rfl (.inl rfl))) (dg_name sc_law.nd rfl (.inr rfl) (.inl rfl)) (ds_cons (ds_set sc_law.nd rfl (.inl rfl) (de_lst (da_cons (de_tl (x := "_law_told") (l := [⟨"BadValue", C0, "bad value", "reason"⟩, ⟨"Refused", C1, "refused", "reason"⟩, ⟨"TooMany", C2, "too many", "what"⟩]) rfl rfl rfl Cl hmt Ft hbt sc__law_told rfl rfl (.inl rfl) (by decide) (by decide) (fun Y hY => (.cons (by show Y.env.scope.names.lookup _ = _; rw [hY]; rfl) rfl (.cons (by show Y.env.scope.names.lookup _ = _; rw [hY]; rfl) rfl (.cons (by show Y.env.scope.names.lookup _ = _; rw [hY]; rfl) rfl .nil)))) TB rfl (by rw [hT]; exact List.mem_singleton.mpr rfl) (by rw [hT]; intro p hp _; rw [List.mem_singleton.mp hp]; rfl) (k := 5) (hr.mono (by decide)) rfl (LamX.lamS_by (sc := defScope st_law) (by decide +kernel)) rfl (fun _ _ _ _ _ => rfl) (hdb := by decide) (hd := by decide) (hcd := by decide) (fun A' outer' s' H' E' f' c' hr => (de_call rfl rfl (C_mesh_to_star) (hr.mono (by decide)) (fun z => nomatch z) rfl (takes_of rfl rfl rfl rfl) (da_cons (de_var (i := 10) rfl (.inr (.inr rfl))) da_nil)))) da_nil)) (.inl rfl))
      (ds_cons (ds_expr (de_meth rfl PySem.F.plainAttrs_list PySem.F.slot_list_append PySem.F.type_list_append mt_appD (de_var (i := 11) rfl (.inl rfl)) (da_cons (de_tl (x := "_law_told") (l := [⟨"BadValue", C0, "bad value", "reason"⟩, ⟨"Refused", C1, "refused", "reason"⟩, ⟨"TooMany", C2, "too many", "what"⟩]) rfl rfl rfl Cl hmt Ft hbt sc__law_told rfl rfl (.inl rfl) (by decide) (by decide) (fun Y hY => (.cons (by show Y.env.scope.names.lookup _ = _; rw [hY]; rfl) rfl (.cons (by show Y.env.scope.names.lookup _ = _; rw [hY]; rfl) rfl (.cons (by show Y.env.scope.names.lookup _ = _; rw [hY]; rfl) rfl .nil)))) TB rfl (by rw [hT]; exact List.mem_singleton.mpr rfl) (by rw [hT]; intro p hp _; rw [List.mem_singleton.mp hp]; rfl) (k := 5) (hr.mono (by decide)) rfl (LamX.lamS_by (sc := defScope st_law) (by decide +kernel)) rfl (fun _ _ _ _ _ => rfl) (hdb := by decide) (hd := by decide) (hcd := by decide) (fun A' outer' s' H' E' f' c' hr => (de_call rfl rfl (C_star_to_mesh) (hr.mono (by decide)) (fun z => nomatch z) rfl (takes_of rfl rfl rfl rfl) (da_cons (de_var (i := 10) rfl (.inr (.inr rfl))) da_nil)))) da_nil)))
      (ds_one (ds_if (dt_cmp (op_neDD rfl (u64 hr)) (de_var (i := 11) rfl (.inl rfl)) (de_op op_mulD (de_lst (da_cons (de_lst (da_cons de_str (da_cons de_str da_nil))) da_nil)) de_int)) (ds_one (ds_ret de_bl)) ds_nil))))))))))))))
      (ds_one (ds_ret de_bl))))
theorem w_all {w : World} {K : PySem.W.Frag} {mg : Str → Option Value} {h : Heap} {fa f C_BadValue I_BadValue C_TooMany I_TooMany C_Refused I_Refused c Pt : Addr} {oc kV doc pm ct : Value} {od an : Option Addr} {osl : Array (Option Value)} (X : K.In h) (G : h.Ns mainGlobals mg) (hfa : mg "law" = some (.ref fa))
    (a : PySem.W.nsIn K mainGlobals "law" = some (some (.ref f))) (lk : K.lookup f = some ⟨oc, od, .func (PySem.W.fnOf "law" "law" (defArgs st_law) (defBody st_law) (defScope st_law) .none kV doc pm an (.ref c) ct), osl⟩) (hcd : PySem.W.codeIn K (.ref c) "law" = true) (kp : PySem.W.keepIn K (.ref f) = true)
    (x_BadValue : DwX.OneX PP K mg "BadValue" "reason" C_BadValue I_BadValue)
    (x_TooMany : DwX.OneX PP K mg "TooMany" "what" C_TooMany I_TooMany)
    (x_Refused : DwX.OneX PP K mg "Refused" "reason" C_Refused I_Refused)
    (b_all : PySem.W.nsIn K mainGlobals "all" = some none)
    (b_bool : PySem.W.nsIn K mainGlobals "bool" = some none)
    (b_int : PySem.W.nsIn K mainGlobals "int" = some none)
    (b_isinstance : PySem.W.nsIn K mainGlobals "isinstance" = some none)
    (b_len : PySem.W.nsIn K mainGlobals "len" = some none)
    (b_list : PySem.W.nsIn K mainGlobals "list" = some none)
    (b_range : PySem.W.nsIn K mainGlobals "range" = some none)
    (b_repr : PySem.W.nsIn K mainGlobals "repr" = some none)
    (b_tuple : PySem.W.nsIn K mainGlobals "tuple" = some none)
    (b_gcd : PySem.W.nsIn K mainGlobals "gcd" = some (some (.builtin "math.gcd")))
    (f__law_digits : FunAt K mg "_law_digits" st__law_digits ["script", "first", "last"])
    (f__law_draw : FunAt K mg "_law_draw" st__law_draw ["box", "many"])
    (f_is_integer : FunAt K mg "is_integer" st_is_integer ["thing"])
    (f_is_fraction : FunAt K mg "is_fraction" st_is_fraction ["thing"])
    (f_is_slope : FunAt K mg "is_slope" st_is_slope ["thing"])
    (f_check_three : FunAt K mg "check_three" st_check_three ["slopes"])
    (f_lowest : FunAt K mg "lowest" st_lowest ["top", "bottom"])
    (f_plus : FunAt K mg "plus" st_plus ["one", "other"])
    (f_over : FunAt K mg "over" st_over ["one", "other"])
    (f_times : FunAt K mg "times" st_times ["one", "other"])
    (f_mesh_to_star : FunAt K mg "mesh_to_star" st_mesh_to_star ["slopes"])
    (f_star_to_mesh : FunAt K mg "star_to_mesh" st_star_to_mesh ["slopes"])
    (f__law_gcd : FunAt K mg "_law_gcd" st__law_gcd ["a", "b"])
    (f__law_frac : FunAt K mg "_law_frac" st__law_frac ["top", "bottom"])
    (f__law_pick : FunAt K mg "_law_pick" st__law_pick ["box", "things"])
    (f__law_slope : FunAt K mg "_law_slope" st__law_slope ["box"])
    (f__law_row : FunAt K mg "_law_row" st__law_row ["thing", "many"])
    (f__law_same : FunAt K mg "_law_same" st__law_same ["a", "b"])
    (f__law_told : FunAt K mg "_law_told" st__law_told ["call"])
    (f__law_plus : FunAt K mg "_law_plus" st__law_plus ["a", "b"])
    (f__law_over : FunAt K mg "_law_over" st__law_over ["a", "b"])
    (f__law_beside_slope : FunAt K mg "_law_beside_slope" st__law_beside_slope ["one", "other"])
    (e_0_0 : PySem.W.exmOne K (.ref C_BadValue) (.ref C_BadValue) = some true)
    (e_0_1 : PySem.W.exmOne K (.ref C_BadValue) (.ref C_Refused) = some false)
    (e_0_2 : PySem.W.exmOne K (.ref C_BadValue) (.ref C_TooMany) = some false)
    (e_1_0 : PySem.W.exmOne K (.ref C_Refused) (.ref C_BadValue) = some false)
    (e_1_1 : PySem.W.exmOne K (.ref C_Refused) (.ref C_Refused) = some true)
    (e_1_2 : PySem.W.exmOne K (.ref C_Refused) (.ref C_TooMany) = some false)
    (e_2_0 : PySem.W.exmOne K (.ref C_TooMany) (.ref C_BadValue) = some false)
    (e_2_1 : PySem.W.exmOne K (.ref C_TooMany) (.ref C_Refused) = some false)
    (e_2_2 : PySem.W.exmOne K (.ref C_TooMany) (.ref C_TooMany) = some true)
    (xf_0 : xfB K C_BadValue = true)
    (xf_1 : xfB K C_Refused = true)
    (xf_2 : xfB K C_TooMany = true)
    (hhd : PySem.W.codeHdIn K c Pt = true) (hPt : K.lookup Pt = none) (hTT : h.get? Pt = some { cls := .none, data := .fields #[] }) :
    ∃ (K : PySem.W.Frag) (T : List (Addr × Str)) (tbs : List (Addr × Addr)) (fd : FuncData), K.In h ∧ (∀ z ∈ tbs, h.get? z.2 = some { cls := .none, data := .fields #[] } ∧ K.lookup z.2 = none ∧ PySem.W.CodeHd h z.1 z.2) ∧ (∀ z ∈ T, z.1 ∈ tbs.map (·.2)) ∧
      (∀ (s : Shared) (u : Value), BindsTo s fd ⟨[u], []⟩ [(("script" : Str), u)]) ∧ ∀ base : Heap, K.In base → base.Ns mainGlobals mg → (∀ z ∈ tbs, LamX.TabB base mg z.1 z.2) → FnG PP w ⟨K, mg, T⟩ base true 8 fa fd ["script"] f_law := by
  have e := hfa.symm.trans (PySem.W.mg_of X G a)
  cases e
  refine ⟨K, [(Pt, qL)], [(c, Pt)], _, X, ?_, ?_, fun s u => .of_eq (show bindArgs (PySem.W.fnOf "law" "law" (defArgs st_law) (defBody st_law) (defScope st_law) .none kV doc pm an (.ref c) ct) ⟨[u], []⟩ = _ from rfl), fun base kb gb tb => ?_⟩
  · intro z hz; rw [List.mem_singleton.mp hz]; exact ⟨hTT, hPt, PySem.W.codeHd_of_K X hhd⟩
  · intro z hz; rw [List.mem_singleton.mp hz]; exact List.mem_singleton.mpr rfl
  have T : Txt ⟨K, mg, [(Pt, qL)]⟩ := { b_all := none_at X G b_all, b_bool := none_at X G b_bool, b_int := none_at X G b_int, b_isinstance := none_at X G b_isinstance, b_len := none_at X G b_len, b_list := none_at X G b_list, b_range := none_at X G b_range, b_repr := none_at X G b_repr, b_tuple := none_at X G b_tuple, gcd := PySem.W.mg_of X G b_gcd, x_BadValue := ⟨C_BadValue, I_BadValue, x_BadValue⟩, x_TooMany := ⟨C_TooMany, I_TooMany, x_TooMany⟩, x_Refused := ⟨C_Refused, I_Refused, x_Refused⟩ }
  obtain ⟨a__law_digits, d__law_digits, m__law_digits, F__law_digits, B__law_digits⟩ := f__law_digits
  have C__law_digits := Clb.of (P := ⟨K, mg, [(Pt, qL)]⟩) (p := PP) (w := w) (base := base) m__law_digits F__law_digits.kp B__law_digits (w__law_digits T F__law_digits )
  obtain ⟨a__law_draw, d__law_draw, m__law_draw, F__law_draw, B__law_draw⟩ := f__law_draw
  have C__law_draw := Clb.of (P := ⟨K, mg, [(Pt, qL)]⟩) (p := PP) (w := w) (base := base) m__law_draw F__law_draw.kp B__law_draw (w__law_draw T F__law_draw )
  obtain ⟨a_is_integer, d_is_integer, m_is_integer, F_is_integer, B_is_integer⟩ := f_is_integer
  have C_is_integer := Clb.of (P := ⟨K, mg, [(Pt, qL)]⟩) (p := PP) (w := w) (base := base) m_is_integer F_is_integer.kp B_is_integer (w_is_integer T F_is_integer )
  obtain ⟨a_is_fraction, d_is_fraction, m_is_fraction, F_is_fraction, B_is_fraction⟩ := f_is_fraction
  have C_is_fraction := Clb.of (P := ⟨K, mg, [(Pt, qL)]⟩) (p := PP) (w := w) (base := base) m_is_fraction F_is_fraction.kp B_is_fraction (w_is_fraction T F_is_fraction C_is_integer)
  obtain ⟨a_is_slope, d_is_slope, m_is_slope, F_is_slope, B_is_slope⟩ := f_is_slope
  have C_is_slope := Clb.of (P := ⟨K, mg, [(Pt, qL)]⟩) (p := PP) (w := w) (base := base) m_is_slope F_is_slope.kp B_is_slope (w_is_slope T F_is_slope C_is_fraction)
  obtain ⟨a_check_three, d_check_three, m_check_three, F_check_three, B_check_three⟩ := f_check_three
  have C_check_three := Clb.of (P := ⟨K, mg, [(Pt, qL)]⟩) (p := PP) (w := w) (base := base) m_check_three F_check_three.kp B_check_three (w_check_three T F_check_three C_is_slope)
  obtain ⟨a_lowest, d_lowest, m_lowest, F_lowest, B_lowest⟩ := f_lowest
  have C_lowest := Clb.of (P := ⟨K, mg, [(Pt, qL)]⟩) (p := PP) (w := w) (base := base) m_lowest F_lowest.kp B_lowest (w_lowest T F_lowest )
  obtain ⟨a_plus, d_plus, m_plus, F_plus, B_plus⟩ := f_plus
  have C_plus := Clb.of (P := ⟨K, mg, [(Pt, qL)]⟩) (p := PP) (w := w) (base := base) m_plus F_plus.kp B_plus (w_plus T F_plus C_lowest)
  obtain ⟨a_over, d_over, m_over, F_over, B_over⟩ := f_over
  have C_over := Clb.of (P := ⟨K, mg, [(Pt, qL)]⟩) (p := PP) (w := w) (base := base) m_over F_over.kp B_over (w_over T F_over C_lowest)
  obtain ⟨a_times, d_times, m_times, F_times, B_times⟩ := f_times
  have C_times := Clb.of (P := ⟨K, mg, [(Pt, qL)]⟩) (p := PP) (w := w) (base := base) m_times F_times.kp B_times (w_times T F_times C_lowest)
  obtain ⟨a_mesh_to_star, d_mesh_to_star, m_mesh_to_star, F_mesh_to_star, B_mesh_to_star⟩ := f_mesh_to_star
  have C_mesh_to_star := Clb.of (P := ⟨K, mg, [(Pt, qL)]⟩) (p := PP) (w := w) (base := base) m_mesh_to_star F_mesh_to_star.kp B_mesh_to_star (w_mesh_to_star T F_mesh_to_star C_check_three C_plus C_over C_times)
  obtain ⟨a_star_to_mesh, d_star_to_mesh, m_star_to_mesh, F_star_to_mesh, B_star_to_mesh⟩ := f_star_to_mesh
  have C_star_to_mesh := Clb.of (P := ⟨K, mg, [(Pt, qL)]⟩) (p := PP) (w := w) (base := base) m_star_to_mesh F_star_to_mesh.kp B_star_to_mesh (w_star_to_mesh T F_star_to_mesh C_check_three C_plus C_over C_times)
  obtain ⟨a__law_gcd, d__law_gcd, m__law_gcd, F__law_gcd, B__law_gcd⟩ := f__law_gcd
  have C__law_gcd := Clb.of (P := ⟨K, mg, [(Pt, qL)]⟩) (p := PP) (w := w) (base := base) m__law_gcd F__law_gcd.kp B__law_gcd (w__law_gcd T F__law_gcd )
  obtain ⟨a__law_frac, d__law_frac, m__law_frac, F__law_frac, B__law_frac⟩ := f__law_frac
  have C__law_frac := Clb.of (P := ⟨K, mg, [(Pt, qL)]⟩) (p := PP) (w := w) (base := base) m__law_frac F__law_frac.kp B__law_frac (w__law_frac T F__law_frac C__law_gcd)
  obtain ⟨a__law_pick, d__law_pick, m__law_pick, F__law_pick, B__law_pick⟩ := f__law_pick
  have C__law_pick := Clb.of (P := ⟨K, mg, [(Pt, qL)]⟩) (p := PP) (w := w) (base := base) m__law_pick F__law_pick.kp B__law_pick (w__law_pick T F__law_pick C__law_draw)
  obtain ⟨a__law_slope, d__law_slope, m__law_slope, F__law_slope, B__law_slope⟩ := f__law_slope
  have C__law_slope := Clb.of (P := ⟨K, mg, [(Pt, qL)]⟩) (p := PP) (w := w) (base := base) m__law_slope F__law_slope.kp B__law_slope (w__law_slope T F__law_slope C__law_draw C__law_frac C__law_pick)
  obtain ⟨a__law_row, d__law_row, m__law_row, F__law_row, B__law_row⟩ := f__law_row
  have C__law_row := Clb.of (P := ⟨K, mg, [(Pt, qL)]⟩) (p := PP) (w := w) (base := base) m__law_row F__law_row.kp B__law_row (w__law_row T F__law_row C__law_gcd)
  obtain ⟨a__law_same, d__law_same, m__law_same, F__law_same, B__law_same⟩ := f__law_same
  have C__law_same := Clb.of (P := ⟨K, mg, [(Pt, qL)]⟩) (p := PP) (w := w) (base := base) m__law_same F__law_same.kp B__law_same (w__law_same T F__law_same )
  obtain ⟨a__law_told, d__law_told, m__law_told, F__law_told, B__law_told⟩ := f__law_told
  obtain ⟨a__law_plus, d__law_plus, m__law_plus, F__law_plus, B__law_plus⟩ := f__law_plus
  have C__law_plus := Clb.of (P := ⟨K, mg, [(Pt, qL)]⟩) (p := PP) (w := w) (base := base) m__law_plus F__law_plus.kp B__law_plus (w__law_plus T F__law_plus C__law_frac)
  obtain ⟨a__law_over, d__law_over, m__law_over, F__law_over, B__law_over⟩ := f__law_over
  have C__law_over := Clb.of (P := ⟨K, mg, [(Pt, qL)]⟩) (p := PP) (w := w) (base := base) m__law_over F__law_over.kp B__law_over (w__law_over T F__law_over C__law_frac)
  obtain ⟨a__law_beside_slope, d__law_beside_slope, m__law_beside_slope, F__law_beside_slope, B__law_beside_slope⟩ := f__law_beside_slope
  have C__law_beside_slope := Clb.of (P := ⟨K, mg, [(Pt, qL)]⟩) (p := PP) (w := w) (base := base) m__law_beside_slope F__law_beside_slope.kp B__law_beside_slope (w__law_beside_slope T F__law_beside_slope C__law_plus C__law_over)
  refine w_law (C0 := C_BadValue) (C1 := C_Refused) (C2 := C_TooMany) (P := ⟨K, mg, [(Pt, qL)]⟩) (w := w) (base := base) T lk hcd ?_ m__law_told F__law_told B__law_told (tb (c, Pt) (List.mem_singleton.mpr rfl)) rfl C__law_digits C__law_draw C_mesh_to_star C_star_to_mesh C__law_frac C__law_slope C__law_row C__law_same C__law_plus C__law_beside_slope
  refine ⟨?_, ?_, ?_, ?_⟩
  · intro k hk; simp only [List.mem_cons, List.not_mem_nil, or_false] at hk; rcases hk with rfl | rfl | rfl
    · exact x_BadValue.gC
    · exact x_Refused.gC
    · exact x_TooMany.gC
  · intro k hk; simp only [List.mem_cons, List.not_mem_nil, or_false] at hk; rcases hk with rfl | rfl | rfl <;> (intro j hj; simp only [List.mem_cons, List.not_mem_nil, or_false] at hj; rcases hj with rfl | rfl | rfl)
    · exact e_0_0
    · exact e_0_1
    · exact e_0_2
    · exact e_1_0
    · exact e_1_1
    · exact e_1_2
    · exact e_2_0
    · exact e_2_1
    · exact e_2_2
  · intro k hk; simp only [List.mem_cons, List.not_mem_nil, or_false] at hk; rcases hk with rfl | rfl | rfl
    · exact xfB_ok xf_0
    · exact xfB_ok xf_1
    · exact xfB_ok xf_2
  · intro k hk; simp only [List.mem_cons, List.not_mem_nil, or_false] at hk; rcases hk with rfl | rfl | rfl
    · exact x_BadValue.noN
    · exact x_Refused.noN
    · exact x_TooMany.noN
end K46
end Dw

namespace Dw
open PySem PySem.Spec PyProof.Rows L2
/-! ### 19. plain facts about the layer -/
def fr (q : Rat) : D := .tup [.int q.num, .int (q.den : Int)]
theorem gcd_pos {t b : Int} (hb : b ≠ 0) : 0 < Nat.gcd t.natAbs b.natAbs := Nat.gcd_pos_of_pos_right _ (by omega)
theorem keep_app (m g : Mem) : KeepOk m (m ++ g) := ⟨by simp, fun i c hi h => .inl (by rw [List.getElem?_append_left hi] at h; exact h)⟩
theorem gcR_app {β : Type} {fit : Nat → β → Bool} {m g : Mem} {b : β} (h : fit m.length b = true) : gcR fit m (.ok b (m ++ g)) = .ok b m := by
  unfold gcR
  dsimp only
  rw [if_pos ⟨h, keep_app m g⟩, List.take_left]
theorem gcR_same {β : Type} {fit : Nat → β → Bool} {m m' : Mem} {b : β} (h : m'.length = m.length) : gcR fit m (.ok b m') = .ok b m' := by
  unfold gcR
  dsimp only
  rw [← h, List.take_length]
  split <;> rfl
theorem gcR_self {β : Type} {fit : Nat → β → Bool} {m : Mem} {b : β} : gcR fit m (.ok b m) = .ok b m := gcR_same rfl
theorem gcD_self {m : Mem} {d : D} : gcD m (.ok d m) = .ok d m := gcR_self
theorem gcT_self {m : Mem} {b : Bool} : gcT m (.ok b m) = .ok b m := gcR_self
theorem gcF_self {m : Mem} {b : Fl} : gcF m (.ok b m) = .ok b m := gcR_self
theorem gcT_app {m g : Mem} {b : Bool} : gcT m (.ok b (m ++ g)) = .ok b m := gcR_app rfl
theorem fits_fr (n : Nat) (q : Rat) : (fr q).fits n = true := rfl
theorem gcD_app {m g : Mem} {d : D} (h : d.fits m.length = true) : gcD m (.ok d (m ++ g)) = .ok d m := gcR_app h
theorem one_le_line : 1 ≤ sizeLine := by rw [sizeLine_eq]; omega
theorem le_line {n : Nat} (h : n ≤ 1000000) : n ≤ sizeLine := by rw [sizeLine_eq]; omega
theorem callD_ok {n : Nat} {cf : List D → Mem → R D} {ds : List D} {m m' : Mem} {d : D} (hn : ds.length = n) (h : cf ds m = .ok d m') (hl : m'.length = m.length) : callD n cf ds m = .ok d m' := by
  unfold callD
  rw [if_pos hn, h]
  exact gcR_same hl
theorem callD_app {n : Nat} {cf : List D → Mem → R D} {ds : List D} {m g : Mem} {d : D} (hn : ds.length = n) (h : cf ds m = .ok d (m ++ g)) (hl : d.fits m.length = true) : callD n cf ds m = .ok d m := by
  unfold callD
  rw [if_pos hn, h]
  exact gcR_app hl
theorem callD_pure {n : Nat} {cf : List D → Mem → R D} {ds : List D} {m : Mem} {d : D} (hn : ds.length = n) (h : cf ds m = .ok d m) : callD n cf ds m = .ok d m := callD_ok hn h rfl
theorem callD_exc {n : Nat} {cf : List D → Mem → R D} {ds : List D} {m g : Mem} {c f z : Str} (hn : ds.length = n) (h : cf ds m = .exc c [(f, .str z)] (m ++ g)) : callD n cf ds m = .exc c [(f, .str z)] m := by
  unfold callD
  rw [if_pos hn, h]
  unfold gcD gcR
  dsimp only
  rw [if_pos ⟨rfl, keep_app m g⟩, List.take_left]
/-- sizes -/
def sz (n : Nat) (q : Rat) : Prop := q.num.natAbs < 2 ^ n ∧ q.den < 2 ^ n
theorem log_lt {a n : Nat} (h : a < 2 ^ n) (hn : 0 < n) : a.log2 < n := by
  by_cases h0 : a = 0
  · subst h0; simpa using hn
  · exact (Nat.log2_lt h0).mpr h
theorem mulOk_of {i j : Int} {n k : Nat} (hi : i.natAbs < 2 ^ n) (hj : j.natAbs < 2 ^ k) (h : n + k < 1000000) : MulOk i j := by
  refine .inl ?_
  have h1 : i.natAbs.log2 ≤ n := by
    by_cases h0 : i.natAbs = 0
    · rw [h0]; simp
    · exact Nat.le_of_lt ((Nat.log2_lt h0).mpr hi)
  have h2 : j.natAbs.log2 ≤ k := by
    by_cases h0 : j.natAbs = 0
    · rw [h0]; simp
    · exact Nat.le_of_lt ((Nat.log2_lt h0).mpr hj)
  omega
theorem mul_lt_pow {a b n k : Nat} (ha : a < 2 ^ n) (hb : b < 2 ^ k) : a * b < 2 ^ (n + k) := by
  rw [Nat.pow_add]
  exact Nat.mul_lt_mul'' ha hb
theorem add_lt_pow {a b n k j : Nat} (ha : a < 2 ^ n) (hb : b < 2 ^ k) (h1 : n < j) (h2 : k < j) : a + b < 2 ^ j := by
  have e1 : 2 ^ n ≤ 2 ^ (j - 1) := Nat.pow_le_pow_right (by omega) (by omega)
  have e2 : 2 ^ k ≤ 2 ^ (j - 1) := Nat.pow_le_pow_right (by omega) (by omega)
  have e3 : 2 ^ j = 2 ^ (j - 1) + 2 ^ (j - 1) := by rw [← Nat.two_mul, ← Nat.pow_succ']; congr 1; omega
  omega
/-- a fraction in lowest terms, by its parts -/
theorem fr_div {t b : Int} (hb : 0 < b) : fr ((t : Rat) / (b : Rat)) = .tup [.int (t / (Nat.gcd t.natAbs b.natAbs : Nat)), .int (b / (Nat.gcd t.natAbs b.natAbs : Nat))] := by
  have hg : b.gcd t = Nat.gcd t.natAbs b.natAbs := by unfold Int.gcd; exact Nat.gcd_comm _ _
  have e1 : ((t : Rat) / (b : Rat)).num = t / (Nat.gcd t.natAbs b.natAbs : Nat) := by
    rw [← Rat.divInt_eq_div, Rat.num_divInt, Int.sign_eq_one_of_pos hb, Int.one_mul, hg]
  have e2 : (((t : Rat) / (b : Rat)).den : Int) = b / (Nat.gcd t.natAbs b.natAbs : Nat) := by
    rw [← Rat.divInt_eq_div, Rat.den_divInt, if_neg (by omega), hg, Int.natCast_ediv, Int.natAbs_of_nonneg (by omega)]
  unfold fr
  rw [e1, e2]
theorem sz_div {t b : Int} {n k : Nat} (hb : 0 < b) (ht : t.natAbs < 2 ^ n) (hbs : b.natAbs < 2 ^ k) {j : Nat} (h1 : n ≤ j) (h2 : k ≤ j) : sz j ((t : Rat) / (b : Rat)) := by
  have h := fr_div (t := t) hb
  unfold fr at h
  simp only [D.tup.injEq, List.cons.injEq, D.int.injEq, and_true] at h
  obtain ⟨e1, e2⟩ := h
  have p1 : 2 ^ n ≤ 2 ^ j := Nat.pow_le_pow_right (by omega) h1
  have p2 : 2 ^ k ≤ 2 ^ j := Nat.pow_le_pow_right (by omega) h2
  constructor
  · rw [e1, Int.natAbs_ediv_of_dvd (Int.ofNat_dvd_left.mpr (Nat.gcd_dvd_left _ _))]
    exact Nat.lt_of_le_of_lt (Nat.div_le_self _ _) (by omega)
  · have e3 : ((t : Rat) / (b : Rat)).den = (b / (Nat.gcd t.natAbs b.natAbs : Nat)).natAbs := by omega
    rw [e3, Int.natAbs_ediv_of_dvd (Int.ofNat_dvd_left.mpr (Nat.gcd_dvd_right _ _))]
    exact Nat.lt_of_le_of_lt (Nat.div_le_self _ _) (by omega)
theorem sz.mono {n k : Nat} {q : Rat} (h : sz n q) (l : n ≤ k) : sz k q := ⟨Nat.lt_of_lt_of_le h.1 (Nat.pow_le_pow_right (by omega) l), Nat.lt_of_lt_of_le h.2 (Nat.pow_le_pow_right (by omega) l)⟩
end Dw

namespace Dw
namespace K46
open PySem PySem.Spec PyProof.Rows L2
theorem divD_pos {i j : Int} {m : Mem} (h : 0 < j) (hs : j.natAbs < 2 ^ 8000) : divD (.int i) (.int j) m = some (.int (i / j), m) := by
  show (if 0 < j ∧ j.natAbs.log2 < 9000 then some (D.int (i / j), m) else none) = _
  rw [if_pos ⟨h, Nat.lt_of_lt_of_le (log_lt hs (by omega)) (by omega)⟩]
theorem s_lowest {t b : Int} {m : Mem} (hb : b ≠ 0) (hs : b.natAbs < 2 ^ 8000) : f_lowest [.int t, .int b] m = .ok (fr ((t : Rat) / (b : Rat))) m := by
  have hg := gcd_pos (t := t) hb
  have key : ∀ t b : Int, 0 < b → b.natAbs < 2 ^ 8000 → ((Nat.gcd t.natAbs b.natAbs : Nat) : Int).natAbs < 2 ^ 8000 := fun t b h1 h2 => by
    have := Nat.le_of_dvd (by omega) (Nat.gcd_dvd_right t.natAbs b.natAbs)
    omega
  by_cases h : b < 0
  · have q : fr ((t : Rat) / (b : Rat)) = fr (((-t : Int) : Rat) / ((-b : Int) : Rat)) := by
      congr 1
      rw [Rat.intCast_neg, Rat.intCast_neg]
      have : (b : Rat) ≠ 0 := by exact_mod_cast hb
      grind
    have k := key (-t) (-b) (by omega) (by omega)
    have d1 := fun i => divD_pos (i := i) (m := m) (j := ((Nat.gcd (-t).natAbs (-b).natAbs : Nat) : Int)) (by have := gcd_pos (t := -t) (b := -b) (by omega); omega) k
    rw [q, fr_div (by omega)]
    simp only [Int.natAbs_neg] at d1
    simp [f_lowest, fnB, g_lowest, retF, sSeq, contK, sIf, sAsg, sRet, sRetN, sExpr, sPar, sNil, gN, gSb, gT, gsNil, gsCons, eVar, eLit, eOp, eUn, eArgs, aNil, aCons, eIf, eAnd, eOr, eNot, tTru, tOp', tOfE, eChain, chainK, tNot', tAnd', tOr', ordD, addD, subD, negD, gcdD, mkTup, truD, blV, gcT_self, gcD_self, gcF_self, sizeLine_eq, h, d1]
  · have k := key t b (by omega) (by omega)
    have d1 := fun i => divD_pos (i := i) (m := m) (j := ((Nat.gcd t.natAbs b.natAbs : Nat) : Int)) (by omega) k
    rw [fr_div (by omega)]
    simp [f_lowest, fnB, g_lowest, retF, sSeq, contK, sIf, sAsg, sRet, sRetN, sExpr, sPar, sNil, gN, gSb, gT, gsNil, gsCons, eVar, eLit, eOp, eUn, eArgs, aNil, aCons, eIf, eAnd, eOr, eNot, tTru, tOp', tOfE, eChain, chainK, tNot', tAnd', tOr', ordD, addD, subD, negD, gcdD, mkTup, truD, blV, gcT_self, gcD_self, gcF_self, sizeLine_eq, h, d1]

theorem mulD_ok {i j : Int} {m : Mem} (h : MulOk i j) : mulD (.int i) (.int j) m = some (.int (i * j), m) := by
  unfold mulD
  simp only [h, if_true]
theorem ixD_fr0 {q : Rat} {m : Mem} : ixD (fr q) (.int 0) m = some (.int q.num, m) := rfl
theorem ixD_fr1 {q : Rat} {m : Mem} : ixD (fr q) (.int 1) m = some (.int q.den, m) := rfl
theorem eqD_int {i j : Int} {m : Mem} : eqD (.int i) (.int j) m = some (.bl (decide (i = j)), m) := by
  show (if SeqAt.shaped (.int i) = true ∧ SeqAt.shaped (.int j) = true then some (PyData.eqv (.int i) (.int j)) else none).map _ = _
  rw [if_pos ⟨rfl, rfl⟩]
  show some (D.bl (i == j), m) = _
  congr 2
theorem den_cast (q : Rat) : (q.den : Int) ≠ 0 := by have := q.den_nz; omega
theorem fr_cast (q : Rat) : ((q.num : Rat)) / ((q.den : Int) : Rat) = q := by
  have := Rat.num_divInt_den q
  rw [Rat.divInt_eq_div] at this
  exact this
theorem den_rat (q : Rat) : ((q.den : Int) : Rat) ≠ 0 := by exact_mod_cast q.den_nz
theorem num_eq (q : Rat) : (q.num : Rat) = q * ((q.den : Int) : Rat) := by
  have h := fr_cast q
  have := den_rat q
  grind
theorem c_lowest {t b : Int} {m : Mem} (hb : b ≠ 0) (hs : b.natAbs < 2 ^ 8000) : callD 2 f_lowest [.int t, .int b] m = .ok (fr ((t : Rat) / (b : Rat))) m := callD_pure rfl (s_lowest hb hs)
theorem s_times {p q : Rat} {m : Mem} {n k : Nat} (hp : sz n p) (hq : sz k q) (h : n + k < 8000) : f_times [fr p, fr q] m = .ok (fr (p * q)) m ∧ sz (n + k) (p * q) := by
  have e : p * q = ((p.num * q.num : Int) : Rat) / (((p.den : Int) * (q.den : Int) : Int) : Rat) := by
    have h1 := num_eq p
    have h2 := num_eq q
    have h3 := den_rat p
    have h4 := den_rat q
    rw [Rat.intCast_mul, Rat.intCast_mul, h1, h2]
    grind
  have b1 := mul_lt_pow hp.1 hq.1
  have b2 := mul_lt_pow hp.2 hq.2
  have dpos : (0 : Int) < (p.den : Int) * (q.den : Int) := Int.mul_pos (by have := p.den_pos; omega) (by have := q.den_pos; omega)
  have n1 : (p.num * q.num).natAbs < 2 ^ (n + k) := by rw [Int.natAbs_mul]; exact b1
  have n2 : ((p.den : Int) * (q.den : Int)).natAbs < 2 ^ (n + k) := by rw [Int.natAbs_mul]; exact b2
  refine ⟨?_, by rw [e]; exact sz_div dpos n1 n2 (Nat.le_refl _) (Nat.le_refl _)⟩
  have m1 := mulD_ok (m := m) (mulOk_of hp.1 hq.1 (by omega))
  have m2 := mulD_ok (m := m) (mulOk_of (i := (p.den : Int)) (j := (q.den : Int)) hp.2 hq.2 (by omega))
  have l := c_lowest (t := p.num * q.num) (b := (p.den : Int) * (q.den : Int)) (m := m) (by omega) (Nat.lt_of_lt_of_le n2 (Nat.pow_le_pow_right (by omega) (by omega)))
  rw [← e] at l
  simp [f_times, fnB, g_times, retF, sSeq, contK, sIf, sAsg, sRet, sRetN, sExpr, sPar, sNil, gN, gSb, gT, gsNil, gsCons, eVar, eLit, eOp, eUn, eArgs, aNil, aCons, eIf, eAnd, eOr, eNot, tTru, tOp', tOfE, eChain, chainK, tNot', tAnd', tOr', ordD, addD, subD, negD, gcdD, mkTup, truD, blV, gcT_self, gcD_self, gcF_self, sizeLine_eq, eCall, ixD_fr0, ixD_fr1, m1, m2, l]

theorem num_pos {q : Rat} (h : 0 < q) : 0 < q.num := by
  have := (Rat.lt_iff 0 q).mp h
  simpa using this
theorem over_eq (p q : Rat) (hq : 0 < q) : p / q = ((p.num * q.den : Int) : Rat) / (((p.den : Int) * q.num : Int) : Rat) := by
  have h1 := num_eq p
  have h2 := num_eq q
  have h3 := den_rat p
  have h4 := den_rat q
  have h5 : q ≠ 0 := by grind
  rw [Rat.intCast_mul, Rat.intCast_mul, h1, h2]
  grind
theorem over_sz {p q : Rat} {n k : Nat} (hp : sz n p) (hq : sz k q) : (p.num * q.den).natAbs < 2 ^ (n + k) ∧ ((p.den : Int) * q.num).natAbs < 2 ^ (n + k) := by
  constructor
  · rw [Int.natAbs_mul]; exact mul_lt_pow hp.1 hq.2
  · rw [Int.natAbs_mul]; exact mul_lt_pow hp.2 hq.1
theorem s_over {p q : Rat} {m : Mem} {n k : Nat} (hp : sz n p) (hq : sz k q) (hq0 : 0 < q) (h : n + k < 8000) : f_over [fr p, fr q] m = .ok (fr (p / q)) m ∧ sz (n + k) (p / q) := by
  have e := over_eq p q hq0
  obtain ⟨n1, n2⟩ := over_sz hp hq
  have dpos : (0 : Int) < (p.den : Int) * q.num := Int.mul_pos (by have := p.den_pos; omega) (num_pos hq0)
  refine ⟨?_, by rw [e]; exact sz_div dpos n1 n2 (Nat.le_refl _) (Nat.le_refl _)⟩
  have m1 := mulD_ok (m := m) (mulOk_of (i := p.num) (j := (q.den : Int)) hp.1 hq.2 (by omega))
  have m2 := mulD_ok (m := m) (mulOk_of (i := (p.den : Int)) (j := q.num) hp.2 hq.1 (by omega))
  have l := c_lowest (t := p.num * q.den) (b := (p.den : Int) * q.num) (m := m) (by omega) (Nat.lt_of_lt_of_le n2 (Nat.pow_le_pow_right (by omega) (by omega)))
  rw [← e] at l
  simp [f_over, fnB, g_over, retF, sSeq, contK, sIf, sAsg, sRet, sRetN, sExpr, sPar, sNil, gN, gSb, gT, gsNil, gsCons, eVar, eLit, eOp, eUn, eArgs, aNil, aCons, eIf, eAnd, eOr, eNot, tTru, tOp', tOfE, eChain, chainK, tNot', tAnd', tOr', ordD, addD, subD, negD, gcdD, mkTup, truD, blV, gcT_self, gcD_self, gcF_self, sizeLine_eq, eCall, ixD_fr0, ixD_fr1, m1, m2, l]
theorem plus_eq (p q : Rat) : p + q = ((p.num * q.den + q.num * p.den : Int) : Rat) / (((p.den : Int) * q.den : Int) : Rat) := by
  have h1 := num_eq p
  have h2 := num_eq q
  have h3 := den_rat p
  have h4 := den_rat q
  rw [Rat.intCast_add, Rat.intCast_mul, Rat.intCast_mul, Rat.intCast_mul, h1, h2]
  grind
theorem plus_sz {p q : Rat} {n k : Nat} (hp : sz n p) (hq : sz k q) : (p.num * q.den + q.num * p.den).natAbs < 2 ^ (n + k + 1) ∧ ((p.den : Int) * q.den).natAbs < 2 ^ (n + k) := by
  constructor
  · have b1 := mul_lt_pow hp.1 hq.2
    have b2 := mul_lt_pow hq.1 hp.2
    have a1 : (p.num * q.den).natAbs < 2 ^ (n + k) := by rw [Int.natAbs_mul]; exact b1
    have a2 : (q.num * p.den).natAbs < 2 ^ (n + k) := by rw [Int.natAbs_mul, Nat.add_comm]; exact b2
    have := Int.natAbs_add_le (p.num * q.den) (q.num * p.den)
    have := add_lt_pow a1 a2 (Nat.lt_succ_self _) (Nat.lt_succ_self _)
    omega
  · rw [Int.natAbs_mul]; exact mul_lt_pow hp.2 hq.2
theorem s_plus {p q : Rat} {m : Mem} {n k : Nat} (hp : sz n p) (hq : sz k q) (h : n + k + 1 < 8000) : f_plus [fr p, fr q] m = .ok (fr (p + q)) m ∧ sz (n + k + 1) (p + q) := by
  have e := plus_eq p q
  obtain ⟨n1, n2⟩ := plus_sz hp hq
  have dpos : (0 : Int) < (p.den : Int) * q.den := Int.mul_pos (by have := p.den_pos; omega) (by have := q.den_pos; omega)
  refine ⟨?_, by rw [e]; exact sz_div dpos n1 n2 (Nat.le_refl _) (by omega)⟩
  by_cases hd : p.den = q.den
  · have e2 : p + q = ((p.num + q.num : Int) : Rat) / ((p.den : Int) : Rat) := by
      have h1 := num_eq p
      have h2 := num_eq q
      have h3 := den_rat p
      rw [← hd] at h2
      rw [Rat.intCast_add, h1, h2]
      grind
    have l := c_lowest (t := p.num + q.num) (b := (p.den : Int)) (m := m) (by have := p.den_pos; omega) (Nat.lt_of_lt_of_le hp.2 (Nat.pow_le_pow_right (by omega) (by omega)))
    rw [← e2] at l
    simp [f_plus, fnB, g_plus, retF, sSeq, contK, sIf, sAsg, sRet, sRetN, sExpr, sPar, sNil, gN, gSb, gT, gsNil, gsCons, eVar, eLit, eOp, eUn, eArgs, aNil, aCons, eIf, eAnd, eOr, eNot, tTru, tOp', tOfE, eChain, chainK, tNot', tAnd', tOr', ordD, addD, subD, negD, gcdD, mkTup, truD, blV, gcT_self, gcD_self, gcF_self, sizeLine_eq, eCall, ixD_fr0, ixD_fr1, eqD_int, hd] 
    rw [← hd, l]
    simp [retF, sSeq, contK, sIf, sAsg, sRet, sRetN, sExpr, sPar, sNil, gN, gSb, gT, gsNil, gsCons, eVar, eLit, eOp, eUn, eArgs, aNil, aCons, eIf, eAnd, eOr, eNot, tTru, tOp', tOfE, eChain, chainK, tNot', tAnd', tOr', ordD, addD, subD, negD, gcdD, mkTup, truD, blV, gcT_self, gcD_self, gcF_self, sizeLine_eq]
  · have hd2 : ¬ ((p.den : Int) = (q.den : Int)) := by omega
    have m1 := mulD_ok (m := m) (mulOk_of (i := p.num) (j := (q.den : Int)) hp.1 hq.2 (by omega))
    have m3 := mulD_ok (m := m) (mulOk_of (i := q.num) (j := (p.den : Int)) hq.1 hp.2 (by omega))
    have m2 := mulD_ok (m := m) (mulOk_of (i := (p.den : Int)) (j := (q.den : Int)) hp.2 hq.2 (by omega))
    have l := c_lowest (t := p.num * q.den + q.num * p.den) (b := (p.den : Int) * q.den) (m := m) (by omega) (Nat.lt_of_lt_of_le n2 (Nat.pow_le_pow_right (by omega) (by omega)))
    rw [← e] at l
    simp [f_plus, fnB, g_plus, retF, sSeq, contK, sIf, sAsg, sRet, sRetN, sExpr, sPar, sNil, gN, gSb, gT, gsNil, gsCons, eVar, eLit, eOp, eUn, eArgs, aNil, aCons, eIf, eAnd, eOr, eNot, tTru, tOp', tOfE, eChain, chainK, tNot', tAnd', tOr', ordD, addD, subD, negD, gcdD, mkTup, truD, blV, gcT_self, gcD_self, gcF_self, sizeLine_eq, eCall, ixD_fr0, ixD_fr1, eqD_int, hd, hd2, m1, m2, m3, l]
/-! the law's own -/
theorem forG_nil {tg : GG} {b : GS} {ρ : Env} {m : Mem} : forG [] tg b [] ρ m = .ok (.nx ρ) m := by
  unfold forG
  rw [if_pos (show LiveOk m [] from fun p hp => nomatch hp)]
theorem forG_cons {tg : GG} {b : GS} {x : D} {xs : List D} {ρ : Env} {m : Mem} : forG [] tg b (x :: xs) ρ m = (gcF m ((tg x ρ m).bind fun ρ1 m1 => b ρ1 m1)).bind fun f m2 => match f with
      | .nx ρ2 => forG [] tg b xs ρ2 m2
      | .cnt ρ2 => forG [] tg b xs ρ2 m2
      | .brk ρ2 => .ok (.nx ρ2) m2
      | .ret d => .ok (.ret d) m2 := by
  rw [forG, if_pos (show LiveOk m [] from fun p hp => nomatch hp)] <;> rfl

noncomputable def gcdBody : GS := sSeq (sIf (tOp' eqD (eVar 1) (eLit (.int 0))) sBrk sNil) (sPar 0 1 (eVar 1) (eOp modD (eArgs intD (aCons (eVar 0) aNil)) (eVar 1)))
theorem gcd_turn (a b : Nat) (o : Option D) (x : D) (m : Mem) : (gcF m ((gN 2 x [some (.int a), some (.int b), o] m).bind fun ρ1 m1 => gcdBody ρ1 m1)) = if b = 0 then .ok (.brk [some (.int a), some (.int b), some x]) m else .ok (.nx [some (.int b), some (.int (a % b : Nat)), some x]) m := by
  by_cases h : b = 0
  · subst h
    simp [gcdBody, retF, sSeq, contK, sIf, sAsg, sRet, sRetN, sExpr, sPar, sNil, gN, gSb, gT, gsNil, gsCons, eVar, eLit, eOp, eUn, eArgs, aNil, aCons, eIf, eAnd, eOr, eNot, tTru, tOp', tOfE, eChain, chainK, tNot', tAnd', tOr', ordD, addD, subD, negD, gcdD, mkTup, truD, blV, gcT_self, gcD_self, gcF_self, sizeLine_eq, eqD_int, sBrk]
  · have h2 : ¬ ((b : Int) = 0) := by omega
    have h3 : 0 < b := by omega
    simp [gcdBody, retF, sSeq, contK, sIf, sAsg, sRet, sRetN, sExpr, sPar, sNil, gN, gSb, gT, gsNil, gsCons, eVar, eLit, eOp, eUn, eArgs, aNil, aCons, eIf, eAnd, eOr, eNot, tTru, tOp', tOfE, eChain, chainK, tNot', tAnd', tOr', ordD, addD, subD, negD, gcdD, mkTup, truD, blV, gcT_self, gcD_self, gcF_self, sizeLine_eq, eqD_int, sBrk, h, h2, modD, intD, h3]
theorem gcd_loop : ∀ (k : Nat) (xs : List D) (a b : Nat) (o : Option D) (m : Mem), b ≤ a → a * b < 2 ^ k → k + 1 ≤ xs.length → ∃ ρ, forG [] (gN 2) gcdBody xs [some (.int a), some (.int b), o] m = .ok (.nx ρ) m ∧ ρ[0]? = some (some (.int (Nat.gcd a b : Nat))) := by
  intro k
  induction k with
  | zero =>
    intro xs a b o m hab hk hl
    have hb : b = 0 := by
      rcases Nat.eq_zero_or_pos b with h | h
      · exact h
      · have : 1 * 1 ≤ a * b := Nat.mul_le_mul (by omega) h
        omega
    cases xs with
    | nil => simp at hl
    | cons x xs =>
      rw [forG_cons, gcd_turn, if_pos hb]
      exact ⟨_, rfl, by rw [hb]; simp⟩
  | succ k ih =>
    intro xs a b o m hab hk hl
    cases xs with
    | nil => simp at hl
    | cons x xs =>
      rw [forG_cons, gcd_turn]
      by_cases hb : b = 0
      · rw [if_pos hb]
        exact ⟨_, rfl, by rw [hb]; simp⟩
      · rw [if_neg hb]
        have h1 : a % b < b := Nat.mod_lt _ (by omega)
        have h2 : b * (a / b) + a % b = a := Nat.div_add_mod a b
        have h3 : 1 ≤ a / b := Nat.div_pos hab (by omega)
        have h4 : b * 1 ≤ b * (a / b) := Nat.mul_le_mul (Nat.le_refl _) h3
        have h5 : 2 * (a % b) ≤ a := by omega
        have h6 : b * (2 * (a % b)) ≤ b * a := Nat.mul_le_mul (Nat.le_refl _) h5
        have h7 : b * (a % b) < 2 ^ k := by
          have e1 : b * (2 * (a % b)) = 2 * (b * (a % b)) := by rw [Nat.mul_left_comm]
          have e2 : b * a = a * b := Nat.mul_comm _ _
          have e3 : 2 ^ (k + 1) = 2 * 2 ^ k := by rw [Nat.pow_succ]; omega
          omega
        obtain ⟨ρ, e, q⟩ := ih xs b (a % b) (some x) m (Nat.le_of_lt h1) h7 (by simp at hl; omega)
        refine ⟨ρ, e, ?_⟩
        rw [q, Nat.gcd_comm b, ← Nat.gcd_rec, Nat.gcd_comm]
theorem s_gcd {a b : Int} {m : Mem} {j : Nat} (hb : b.natAbs < 2 ^ j) (hj : 2 * j + 2 ≤ 4000) : f__law_gcd [.int a, .int b] m = .ok (.int (Nat.gcd a.natAbs b.natAbs : Nat)) m := by
  have main : ∃ ρ, forG [] (gN 2) gcdBody (rngD 0 4000) [some (.int a.natAbs), some (.int b.natAbs), none] m = .ok (.nx ρ) m ∧ ρ[0]? = some (some (.int (Nat.gcd a.natAbs b.natAbs : Nat))) := by
    have hl : (rngD 0 4000).length = 4000 := by unfold rngD; rw [List.length_map, List.length_range]
    cases hx : rngD 0 4000 with
    | nil => rw [hx] at hl; simp at hl
    | cons x xs =>
      rw [hx] at hl
      rw [forG_cons, gcd_turn]
      by_cases h0 : b.natAbs = 0
      · rw [if_pos h0]
        exact ⟨_, rfl, by rw [h0]; simp⟩
      · rw [if_neg h0]
        have h1 : a.natAbs % b.natAbs < b.natAbs := Nat.mod_lt _ (by omega)
        have h2 : b.natAbs * (a.natAbs % b.natAbs) < 2 ^ (j + j) := mul_lt_pow hb (by omega)
        obtain ⟨ρ, e, q⟩ := gcd_loop (j + j) xs b.natAbs (a.natAbs % b.natAbs) (some x) m (Nat.le_of_lt h1) h2 (by simp at hl; omega)
        refine ⟨ρ, e, ?_⟩
        rw [q, Nat.gcd_comm b.natAbs, ← Nat.gcd_rec, Nat.gcd_comm]
  obtain ⟨ρ, e1, e2⟩ := main
  have fin : ∀ x y : Int, x = a.natAbs → y = b.natAbs → ((forG [] (gN 2) gcdBody (rngD 0 4000) [some (.int x), some (.int y), none] m).bind fun f m => contK (sRet (eVar 0)) f m).bind retF = .ok (.int (Nat.gcd a.natAbs b.natAbs : Nat)) m := by
    intro x y hx hy
    rw [hx, hy, e1]
    simp [retF, sSeq, contK, sIf, sAsg, sRet, sRetN, sExpr, sPar, sNil, gN, gSb, gT, gsNil, gsCons, eVar, eLit, eOp, eUn, eArgs, aNil, aCons, eIf, eAnd, eOr, eNot, tTru, tOp', tOfE, eChain, chainK, tNot', tAnd', tOr', ordD, addD, subD, negD, gcdD, mkTup, truD, blV, gcT_self, gcD_self, gcF_self, sizeLine_eq, e2]
  have ha' : (if a < 0 then 0 - a else a) = (a.natAbs : Int) := by split <;> omega
  have hb' : (if b < 0 then 0 - b else b) = (b.natAbs : Int) := by split <;> omega
  have bd : sSeq (sIf (tOp' eqD (eVar 1) (eLit (.int 0))) sBrk sNil) (sPar 0 1 (eVar 1) (eOp modD (eArgs intD (aCons (eVar 0) aNil)) (eVar 1))) = gcdBody := rfl
  unfold f__law_gcd fnB g__law_gcd
  rw [bd]
  by_cases h1 : a < 0 <;> by_cases h2 : b < 0
  all_goals
    simp only [h1, h2, if_true, if_false] at ha' hb'
    have f2 := fin _ _ ha' hb'
    simp [retF, sSeq, contK, sIf, sAsg, sRet, sRetN, sExpr, sPar, sNil, gN, gSb, gT, gsNil, gsCons, eVar, eLit, eOp, eUn, eArgs, aNil, aCons, eIf, eAnd, eOr, eNot, tTru, tOp', tOfE, eChain, chainK, tNot', tAnd', tOr', ordD, addD, subD, negD, gcdD, mkTup, truD, blV, gcT_self, gcD_self, gcF_self, sizeLine_eq, h1, h2, sFor, iRg1] at f2 ⊢
    exact f2

theorem s_frac {t b : Int} {m : Mem} {j : Nat} (hb : b ≠ 0) (hs : b.natAbs < 2 ^ j) (hj : 2 * j + 2 ≤ 4000) : f__law_frac [.int t, .int b] m = .ok (fr ((t : Rat) / (b : Rat))) m := by
  have key : ∀ t b : Int, 0 < b → b.natAbs < 2 ^ j → ((Nat.gcd t.natAbs b.natAbs : Nat) : Int).natAbs < 2 ^ 8000 := fun t b h1 h2 => by
    have := Nat.le_of_dvd (by omega) (Nat.gcd_dvd_right t.natAbs b.natAbs)
    have : 2 ^ j ≤ 2 ^ 8000 := Nat.pow_le_pow_right (by omega) (by omega)
    omega
  by_cases h : b < 0
  · have q : fr ((t : Rat) / (b : Rat)) = fr (((-t : Int) : Rat) / ((-b : Int) : Rat)) := by
      congr 1
      rw [Rat.intCast_neg, Rat.intCast_neg]
      have : (b : Rat) ≠ 0 := by exact_mod_cast hb
      grind
    have k := key (-t) (-b) (by omega) (by omega)
    have d1 := fun i => divD_pos (i := i) (m := m) (j := ((Nat.gcd (-t).natAbs (-b).natAbs : Nat) : Int)) (by have := gcd_pos (t := -t) (b := -b) (by omega); omega) k
    have g1 := callD_pure (n := 2) (cf := f__law_gcd) rfl (s_gcd (a := -t) (b := -b) (m := m) (j := j) (by omega) hj)
    rw [q, fr_div (by omega)]
    simp only [Int.natAbs_neg] at d1 g1
    simp [f__law_frac, fnB, g__law_frac, retF, sSeq, contK, sIf, sAsg, sRet, sRetN, sExpr, sPar, sNil, gN, gSb, gT, gsNil, gsCons, eVar, eLit, eOp, eUn, eArgs, aNil, aCons, eIf, eAnd, eOr, eNot, tTru, tOp', tOfE, eChain, chainK, tNot', tAnd', tOr', ordD, addD, subD, negD, gcdD, mkTup, truD, blV, gcT_self, gcD_self, gcF_self, sizeLine_eq, eCall, h, d1, g1]
  · have hg := gcd_pos (t := t) hb
    have k := key t b (by omega) hs
    have d1 := fun i => divD_pos (i := i) (m := m) (j := ((Nat.gcd t.natAbs b.natAbs : Nat) : Int)) (by omega) k
    have g1 := callD_pure (n := 2) (cf := f__law_gcd) rfl (s_gcd (a := t) (b := b) (m := m) (j := j) hs hj)
    rw [fr_div (by omega)]
    simp [f__law_frac, fnB, g__law_frac, retF, sSeq, contK, sIf, sAsg, sRet, sRetN, sExpr, sPar, sNil, gN, gSb, gT, gsNil, gsCons, eVar, eLit, eOp, eUn, eArgs, aNil, aCons, eIf, eAnd, eOr, eNot, tTru, tOp', tOfE, eChain, chainK, tNot', tAnd', tOr', ordD, addD, subD, negD, gcdD, mkTup, truD, blV, gcT_self, gcD_self, gcF_self, sizeLine_eq, eCall, h, d1, g1]
theorem c_frac {t b : Int} {m : Mem} {j : Nat} (hb : b ≠ 0) (hs : b.natAbs < 2 ^ j) (hj : 2 * j + 2 ≤ 4000) : callD 2 f__law_frac [.int t, .int b] m = .ok (fr ((t : Rat) / (b : Rat))) m := callD_pure rfl (s_frac hb hs hj)
theorem l_plus {p q : Rat} {m : Mem} {n k : Nat} (hp : sz n p) (hq : sz k q) (h : n + k < 1990) : callD 2 f__law_plus [fr p, fr q] m = .ok (fr (p + q)) m := by
  have e := plus_eq p q
  obtain ⟨n1, n2⟩ := plus_sz hp hq
  have dpos : (0 : Int) < (p.den : Int) * q.den := Int.mul_pos (by have := p.den_pos; omega) (by have := q.den_pos; omega)
  have m1 := mulD_ok (m := m) (mulOk_of (i := p.num) (j := (q.den : Int)) hp.1 hq.2 (by omega))
  have m3 := mulD_ok (m := m) (mulOk_of (i := q.num) (j := (p.den : Int)) hq.1 hp.2 (by omega))
  have m2 := mulD_ok (m := m) (mulOk_of (i := (p.den : Int)) (j := (q.den : Int)) hp.2 hq.2 (by omega))
  have l := c_frac (t := p.num * q.den + q.num * p.den) (b := (p.den : Int) * q.den) (m := m) (by omega) n2 (by omega)
  rw [← e] at l
  refine callD_pure rfl ?_
  simp [f__law_plus, fnB, g__law_plus, retF, sSeq, contK, sIf, sAsg, sRet, sRetN, sExpr, sPar, sNil, gN, gSb, gT, gsNil, gsCons, eVar, eLit, eOp, eUn, eArgs, aNil, aCons, eIf, eAnd, eOr, eNot, tTru, tOp', tOfE, eChain, chainK, tNot', tAnd', tOr', ordD, addD, subD, negD, gcdD, mkTup, truD, blV, gcT_self, gcD_self, gcF_self, sizeLine_eq, eCall, ixD_fr0, ixD_fr1, m1, m2, m3, l]
theorem l_over {p q : Rat} {m : Mem} {n k : Nat} (hp : sz n p) (hq : sz k q) (hq0 : 0 < q) (h : n + k < 1990) : callD 2 f__law_over [fr p, fr q] m = .ok (fr (p / q)) m := by
  have e := over_eq p q hq0
  obtain ⟨n1, n2⟩ := over_sz hp hq
  have dpos : (0 : Int) < (p.den : Int) * q.num := Int.mul_pos (by have := p.den_pos; omega) (num_pos hq0)
  have m1 := mulD_ok (m := m) (mulOk_of (i := p.num) (j := (q.den : Int)) hp.1 hq.2 (by omega))
  have m2 := mulD_ok (m := m) (mulOk_of (i := (p.den : Int)) (j := q.num) hp.2 hq.1 (by omega))
  have l := c_frac (t := p.num * q.den) (b := (p.den : Int) * q.num) (m := m) (by omega) n2 (by omega)
  rw [← e] at l
  refine callD_pure rfl ?_
  simp [f__law_over, fnB, g__law_over, retF, sSeq, contK, sIf, sAsg, sRet, sRetN, sExpr, sPar, sNil, gN, gSb, gT, gsNil, gsCons, eVar, eLit, eOp, eUn, eArgs, aNil, aCons, eIf, eAnd, eOr, eNot, tTru, tOp', tOfE, eChain, chainK, tNot', tAnd', tOr', ordD, addD, subD, negD, gcdD, mkTup, truD, blV, gcT_self, gcD_self, gcF_self, sizeLine_eq, eCall, ixD_fr0, ixD_fr1, m1, m2, l]
theorem fr_one : fr 1 = .tup [.int 1, .int 1] := rfl
theorem sz_one (n : Nat) (h : 1 ≤ n) : sz n 1 := ⟨by show 1 < 2 ^ n; have := Nat.pow_le_pow_right (n := 2) (by omega) h; omega, by show 1 < 2 ^ n; have := Nat.pow_le_pow_right (n := 2) (by omega) h; omega⟩
theorem sz_plus {p q : Rat} {n k : Nat} (hp : sz n p) (hq : sz k q) : sz (n + k + 1) (p + q) := by
  obtain ⟨n1, n2⟩ := plus_sz hp hq
  rw [plus_eq p q]
  exact sz_div (Int.mul_pos (by have := p.den_pos; omega) (by have := q.den_pos; omega)) n1 n2 (Nat.le_refl _) (by omega)
theorem sz_over {p q : Rat} {n k : Nat} (hp : sz n p) (hq : sz k q) (hq0 : 0 < q) : sz (n + k) (p / q) := by
  obtain ⟨n1, n2⟩ := over_sz hp hq
  rw [over_eq p q hq0]
  exact sz_div (Int.mul_pos (by have := p.den_pos; omega) (num_pos hq0)) n1 n2 (Nat.le_refl _) (Nat.le_refl _)
theorem inv_pos {q : Rat} (h : 0 < q) : 0 < 1 / q := by
  rw [Rat.div_def, Rat.one_mul]
  exact Rat.inv_pos.mpr h
theorem l_beside {p q : Rat} {m : Mem} {n k : Nat} (hp : sz n p) (hq : sz k q) (hp0 : 0 < p) (hq0 : 0 < q) (h : 2 * (n + k) < 1980) : callD 2 f__law_beside_slope [fr p, fr q] m = .ok (fr (1 / (1 / p + 1 / q))) m := by
  have s1 := sz_one 1 (by omega)
  have o1 := l_over (m := m) s1 hp hp0 (by omega)
  have o2 := l_over (m := m) s1 hq hq0 (by omega)
  have z1 := sz_over s1 hp hp0
  have z2 := sz_over s1 hq hq0
  have a1 := l_plus (m := m) z1 z2 (by omega)
  have hs : 0 < 1 / p + 1 / q := by have := inv_pos hp0; have := inv_pos hq0; grind
  have o3 := l_over (m := m) s1 (sz_plus z1 z2) hs (by omega)
  refine callD_pure rfl ?_
  rw [fr_one] at o1 o2 o3
  simp [f__law_beside_slope, fnB, g__law_beside_slope, retF, sSeq, contK, sIf, sAsg, sRet, sRetN, sExpr, sPar, sNil, gN, gSb, gT, gsNil, gsCons, eVar, eLit, eOp, eUn, eArgs, aNil, aCons, eIf, eAnd, eOr, eNot, tTru, tOp', tOfE, eChain, chainK, tNot', tAnd', tOr', ordD, addD, subD, negD, gcdD, mkTup, truD, blV, gcT_self, gcD_self, gcF_self, sizeLine_eq, eCall, o1, o2, a1, o3]
end K46
end Dw

namespace Dw
namespace K46
open PySem PySem.Spec PyProof.Rows L2
theorem log_of {a n : Nat} (h : a < 2 ^ n) (h0 : 0 < n) (hn : n ≤ 1920) : a.log2 < 1920 := Nat.lt_of_lt_of_le (log_lt h h0) hn
theorem int_len {i : Int} (h : i.natAbs.log2 < 1920) : ((PyData.int i).shown).length ≤ 1921 := PyProof.Rows.int_text_len_1921 h
def pyF (q : Rat) : PyData := .tuple [.int q.num, .int (q.den : Int)]
theorem toP_fr (k : Nat) (m : Mem) (q : Rat) : toP (k + 2) m (fr q) = some (pyF q) := rfl
theorem pyF_ok {q : Rat} {n : Nat} (h : sz n q) (h0 : 0 < n) (hn : n ≤ 1920) : (pyF q).showable = true ∧ (pyF q).shown.length ≤ 4000 := by
  have h1 := log_of h.1 h0 hn
  have h2 := log_of (a := ((q.den : Int)).natAbs) h.2 h0 hn
  refine ⟨?_, ?_⟩
  · simp only [pyF, PyData.showable, PyData.showableAll, Bool.and_true, Bool.and_eq_true, decide_eq_true_eq]
    exact ⟨h1, h2⟩
  · have e1 := int_len h1
    have e2 := int_len h2
    have := tupleText_len_le [(PyData.int q.num).shown, (PyData.int (q.den : Int)).shown]
    simp only [List.map_cons, List.map_nil, List.sum_cons, List.sum_nil, List.length_cons, List.length_nil] at this
    show (tupleText [(PyData.int q.num).shown, (PyData.int (q.den : Int)).shown]).length ≤ 4000
    omega
theorem repr_fr {q : Rat} {n : Nat} {m : Mem} (h : sz n q) (h0 : 0 < n) (hn : n ≤ 1920) : ∃ z, reprD [fr q] m = some (.str z, m) := by
  obtain ⟨e1, e2⟩ := pyF_ok h h0 hn
  refine ⟨(pyF q).shown, ?_⟩
  unfold reprD
  dsimp only
  rw [toP_fr 64]
  dsimp only
  rw [if_pos ⟨e1, rfl, by simp [pyF, PyData.depth, PyData.depthAll], Nat.le_trans e2 (le_line (by omega))⟩]
theorem repr_3 {p q r : Rat} {n : Nat} {m : Mem} (hp : sz n p) (hq : sz n q) (hr : sz n r) (h0 : 0 < n) (hn : n ≤ 1920) : ∃ z, reprD [.tup [fr p, fr q, fr r]] m = some (.str z, m) := by
  obtain ⟨a1, a2⟩ := pyF_ok hp h0 hn
  obtain ⟨b1, b2⟩ := pyF_ok hq h0 hn
  obtain ⟨c1, c2⟩ := pyF_ok hr h0 hn
  refine ⟨(PyData.tuple [pyF p, pyF q, pyF r]).shown, ?_⟩
  unfold reprD
  dsimp only
  rw [show toP 66 m (.tup [fr p, fr q, fr r]) = some (.tuple [pyF p, pyF q, pyF r]) from rfl]
  dsimp only
  have hs : (PyData.tuple [pyF p, pyF q, pyF r]).showable = true := by simp only [PyData.showable, PyData.showableAll, a1, b1, c1, Bool.and_self]
  have hl : (PyData.tuple [pyF p, pyF q, pyF r]).shown.length ≤ sizeLine := by
    have := tupleText_len_le [(pyF p).shown, (pyF q).shown, (pyF r).shown]
    simp only [List.map_cons, List.map_nil, List.sum_cons, List.sum_nil, List.length_cons, List.length_nil] at this
    refine Nat.le_trans (show (tupleText [(pyF p).shown, (pyF q).shown, (pyF r).shown]).length ≤ 100000 from ?_) (le_line (by omega))
    omega
  rw [if_pos ⟨hs, rfl, by simp [pyF, PyData.depth, PyData.depthAll], hl⟩]
theorem eqD_str {z : Str} {m : Mem} : eqD (.str z) (.str z) m = some (.bl true, m) := by
  show some (D.bl (decide (z = z)), m) = _
  simp
theorem same_of {d : D} {m : Mem} {z : Str} (h : reprD [d] m = some (.str z, m)) : callD 2 f__law_same [d, d] m = .ok (.bl true) m := by
  refine callD_pure rfl ?_
  simp [f__law_same, fnB, g__law_same, retF, sSeq, contK, sIf, sAsg, sRet, sRetN, sExpr, sPar, sNil, gN, gSb, gT, gsNil, gsCons, eVar, eLit, eOp, eUn, eArgs, aNil, aCons, eIf, eAnd, eOr, eNot, tTru, tOp', tOfE, eChain, chainK, tNot', tAnd', tOr', ordD, addD, subD, negD, gcdD, mkTup, truD, blV, gcT_self, gcD_self, gcF_self, sizeLine_eq, h, eqD_str]
theorem same_fr {p q : Rat} {n : Nat} {m : Mem} (e : p = q) (h : sz n p) (h0 : 0 < n) (hn : n ≤ 1920) : callD 2 f__law_same [fr p, fr q] m = .ok (.bl true) m := by
  subst e
  obtain ⟨z, hz⟩ := repr_fr (m := m) h h0 hn
  exact same_of hz
theorem same_3 {p q r p' q' r' : Rat} {n : Nat} {m : Mem} (e1 : p = p') (e2 : q = q') (e3 : r = r') (hp : sz n p) (hq : sz n q) (hr : sz n r) (h0 : 0 < n) (hn : n ≤ 1920) : callD 2 f__law_same [.tup [fr p, fr q, fr r], .tup [fr p', fr q', fr r']] m = .ok (.bl true) m := by
  subst e1; subst e2; subst e3
  obtain ⟨z, hz⟩ := repr_3 (m := m) hp hq hr h0 hn
  exact same_of hz
/-! rows judged -/
theorem compG_nil {tg : GG} {t : GT} {g : G} {ρ : Env} {acc : List D} {m : Mem} : compG [] tg t g ρ [] acc m = .ok acc m := by
  unfold compG
  rw [if_pos (show LiveOk m [] from fun p hp => nomatch hp)]
theorem compG_cons {tg : GG} {t : GT} {g : G} {ρ : Env} {acc : List D} {x : D} {xs : List D} {m : Mem} : compG [] tg t g ρ (x :: xs) acc m = (gcO m (turnC tg t g x ρ m)).bind fun o m4 => compG [] tg t g ρ xs (keepD o acc) m4 := by
  rw [compG, if_pos (show LiveOk m [] from fun p hp => nomatch hp)]
theorem gcO_self {m : Mem} {o : Option D} : gcO m (.ok o m) = .ok o m := gcR_self
theorem neD_int {i j : Int} {m : Mem} : neD (.int i) (.int j) m = some (.bl (!decide (i = j)), m) := by
  show (if SeqAt.shaped (.int i) = true ∧ SeqAt.shaped (.int j) = true then some (PyData.eqv (.int i) (.int j)) else none).map _ = _
  rw [if_pos ⟨rfl, rfl⟩]
  rfl
theorem gcd_fr (q : Rat) : Nat.gcd q.num.natAbs q.den = 1 := q.reduced
theorem neD_nil {n k : Nat} {m : Mem} (h1 : m[n]? = some (.lst [])) (h2 : m[k]? = some (.lst [])) : neD (.ref n) (.ref k) m = some (.bl false, m) := by
  have e : ∀ n, m[n]? = some (.lst []) → toP 66 m (.ref n) = some (.list []) := fun n h => by
    unfold toP
    simp [h]
  unfold neD eqvD
  simp only [e n h1, e k h2]
  rfl
theorem row_one {q : Rat} {m : Mem} {n : Nat} {o1 o2 o3 o4 : Option D} (h : sz n q) (hn : 2 * n + 2 ≤ 4000) :
    (gcF m ((gN 2 (fr q) [o1, o2, o3, o4] m).bind fun ρ1 m1 => (sSeq (sIf (tOr' (tNot' (tTru (eUn (isD1 .tuple) (eVar 2)))) (tOr' (tOp' neD (eArgs lenD (aCons (eVar 2) aNil)) (eLit (.int 2))) (tOp' neD (eComp [3] (iSeq (eVar 2)) (gN 3) (tOr' (tNot' (tTru (eUn (isD1 .int) (eVar 3)))) (tTru (eUn (isD1 .bool) (eVar 3)))) (eVar 3)) (eArgs mkLst aNil)))) (sRet (eLit (.bl false))) sNil)
      (sIf (tOr' (tOp' ltD (eOp ixD (eVar 2) (eLit (.int 1))) (eLit (.int 1))) (tOp' neD (eCall 2 f__law_gcd (aCons (eOp ixD (eVar 2) (eLit (.int 0))) (aCons (eOp ixD (eVar 2) (eLit (.int 1))) aNil))) (eLit (.int 1)))) (sRet (eLit (.bl false))) sNil)) ρ1 m1)) = .ok (.nx [o1, o2, some (fr q), o4]) m := by
  have g1 := callD_pure (n := 2) (cf := f__law_gcd) rfl (s_gcd (a := q.num) (b := (q.den : Int)) (m := m) (j := n) h.2 hn)
  have hd := q.den_pos
  have nd : ¬ ((q.den : Int) < 1) := by omega
  have hf : fr q = .tup [.int q.num, .int (q.den : Int)] := rfl
  have nn : neD (.ref m.length) (.ref (m.length + 1)) (m ++ [.lst [], .lst []]) = some (.bl false, m ++ [.lst [], .lst []]) := neD_nil (by simp) (by simp)
  have gg : Nat.gcd q.num.natAbs (q.den : Int).natAbs = 1 := q.reduced
  rw [gg] at g1
  have e5 : ixD (.tup [.int q.num, .int (q.den : Int)]) (.int 1) m = some (.int q.den, m) := rfl
  have e6 : ixD (.tup [.int q.num, .int (q.den : Int)]) (.int 0) m = some (.int q.num, m) := rfl
  simp [retF, sSeq, contK, sIf, sAsg, sRet, sRetN, sExpr, sPar, sNil, gN, gSb, gT, gsNil, gsCons, eVar, eLit, eOp, eUn, eArgs, aNil, aCons, eIf, eAnd, eOr, eNot, tTru, tOp', tOfE, eChain, chainK, tNot', tAnd', tOr', ordD, addD, subD, negD, gcdD, mkTup, truD, blV, gcT_self, gcD_self, gcF_self, sizeLine_eq, hf, isD1, tyB, lenD, neD_int, eComp, iSeq, compG_nil, compG_cons, turnC, wipeE, gcO_self, keepD, R.noexc, mkLst, nn, gcT_app, eCall, e5, e6, g1, nd]

theorem l_row {p q r : Rat} {m : Mem} {n : Nat} (hp : sz n p) (hq : sz n q) (hr : sz n r) (hn : 2 * n + 2 ≤ 4000) : callD 2 f__law_row [.tup [fr p, fr q, fr r], .int 3] m = .ok (.bl true) m := by
  refine callD_pure rfl ?_
  have r1 := fun a b c d => row_one (m := m) (o1 := a) (o2 := b) (o3 := c) (o4 := d) hp hn
  have r2 := fun a b c d => row_one (m := m) (o1 := a) (o2 := b) (o3 := c) (o4 := d) hq hn
  have r3 := fun a b c d => row_one (m := m) (o1 := a) (o2 := b) (o3 := c) (o4 := d) hr hn
  unfold f__law_row fnB g__law_row sFor
  generalize hB : (sSeq (sIf (tOr' (tNot' (tTru (eUn (isD1 .tuple) (eVar 2)))) _) _ _) _ : GS) = B at r1 r2 r3 ⊢
  have t0 : (sIf (tOr' (tNot' (tTru (eUn (isD1 .tuple) (eVar 0)))) (tOp' neD (eArgs lenD (aCons (eVar 0) aNil)) (eVar 1))) (sRet (eLit (.bl false))) sNil) [some (.tup [fr p, fr q, fr r]), some (.int 3), none, none] m = .ok (.nx [some (.tup [fr p, fr q, fr r]), some (.int 3), none, none]) m := by
    simp [retF, sSeq, contK, sIf, sAsg, sRet, sRetN, sExpr, sPar, sNil, gN, gSb, gT, gsNil, gsCons, eVar, eLit, eOp, eUn, eArgs, aNil, aCons, eIf, eAnd, eOr, eNot, tTru, tOp', tOfE, eChain, chainK, tNot', tAnd', tOr', ordD, addD, subD, negD, gcdD, mkTup, truD, blV, gcT_self, gcD_self, gcF_self, sizeLine_eq, isD1, tyB, lenD, neD_int]
  have l0 : forG [] (gN 2) B [fr p, fr q, fr r] [some (.tup [fr p, fr q, fr r]), some (.int 3), none, none] m = .ok (.nx [some (.tup [fr p, fr q, fr r]), some (.int 3), some (fr r), none]) m := by
    rw [forG_cons, r1, R.bind_ok]
    dsimp only
    rw [forG_cons, r2, R.bind_ok]
    dsimp only
    rw [forG_cons, r3, R.bind_ok]
    dsimp only
    rw [forG_nil]
  show ((sSeq _ _ [some (.tup [fr p, fr q, fr r]), some (.int 3), none, none] m).bind retF) = _
  unfold sSeq
  rw [t0]
  simp [retF, sSeq, contK, sIf, sAsg, sRet, sRetN, sExpr, sPar, sNil, gN, gSb, gT, gsNil, gsCons, eVar, eLit, eOp, eUn, eArgs, aNil, aCons, eIf, eAnd, eOr, eNot, tTru, tOp', tOfE, eChain, chainK, tNot', tAnd', tOr', ordD, addD, subD, negD, gcdD, mkTup, truD, blV, gcT_self, gcD_self, gcF_self, sizeLine_eq, iSeq, l0]
/-! the box -/
structure Bx (M : Mem) (b d n : Nat) : Prop where
  box : ∃ at_ : Nat, M[b]? = some (.lst [.ref d, .int at_]) ∧ at_ ≤ n
  dig : ∃ xs : List Int, M[d]? = some (.lst (xs.map D.int)) ∧ ∀ x ∈ xs, 0 ≤ x ∧ x < 1009
  ne : b ≠ d
structure Same (M M' : Mem) (b : Nat) : Prop where
  len : M'.length = M.length
  at_ : ∀ i, i ≠ b → M'[i]? = M[i]?
theorem Bx.lt {M : Mem} {b d n : Nat} (h : Bx M b d n) : b < M.length ∧ d < M.length := by
  obtain ⟨a, h1, _⟩ := h.box
  obtain ⟨xs, h2, _⟩ := h.dig
  exact ⟨(List.getElem?_eq_some_iff.mp h1).1, (List.getElem?_eq_some_iff.mp h2).1⟩
theorem Bx.app {M g : Mem} {b d n : Nat} (h : Bx M b d n) : Bx (M ++ g) b d n := by
  obtain ⟨h1, h2⟩ := h.lt
  refine ⟨?_, ?_, h.ne⟩
  · obtain ⟨a, e, l⟩ := h.box; exact ⟨a, by rw [List.getElem?_append_left h1]; exact e, l⟩
  · obtain ⟨xs, e, l⟩ := h.dig; exact ⟨xs, by rw [List.getElem?_append_left h2]; exact e, l⟩
theorem Bx.take {M : Mem} {b d n k : Nat} (h : Bx M b d n) (hb : b < k) (hd : d < k) : Bx (M.take k) b d n := by
  refine ⟨?_, ?_, h.ne⟩
  · obtain ⟨a, e, l⟩ := h.box; exact ⟨a, by rw [List.getElem?_take_of_lt hb]; exact e, l⟩
  · obtain ⟨xs, e, l⟩ := h.dig; exact ⟨xs, by rw [List.getElem?_take_of_lt hd]; exact e, l⟩
theorem Bx.mono {M : Mem} {b d n k : Nat} (h : Bx M b d n) (l : n ≤ k) : Bx M b d k := ⟨let ⟨a, e, q⟩ := h.box; ⟨a, e, Nat.le_trans q l⟩, h.dig, h.ne⟩
theorem atI_nat {α : Type} {xs : List α} {i : Nat} : L2.atI xs (i : Int) = xs[i]? := by
  unfold L2.atI L2.ixN
  rw [if_pos (by omega)]
  by_cases h : i < xs.length
  · rw [if_pos (by omega)]; simp
  · rw [if_neg (by omega)]; simp; omega
theorem s_draw {M : Mem} {b d n : Nat} {many : Int} (h : Bx M b d n) (hn : n < 1000000) (hm : 0 < many) : ∃ (r : Int) (M' : Mem), f__law_draw [.ref b, .int many] M = .ok (.int r) M' ∧ 0 ≤ r ∧ r < many ∧ Bx M' b d (n + 1) ∧ Same M M' b := by
  obtain ⟨hb, hd⟩ := h.lt
  obtain ⟨a, e1, l1⟩ := h.box
  obtain ⟨xs, e2, l2⟩ := h.dig
  have ne := h.ne
  have i0 : ixD (.ref b) (.int 1) M = some (.int a, M) := by
    simp [ixD, lstOf, e1, L2.atI, L2.ixN]
  have st : setD (.ref b) (.int 1) (.int ((a : Int) + 1)) M = some (M.set b (.lst [.ref d, .int ((a : Int) + 1)])) := by
    simp [setD, e1, L2.ixN]
  obtain ⟨M', eM⟩ : ∃ M', M' = M.set b (.lst [.ref d, .int ((a : Int) + 1)]) := ⟨_, rfl⟩
  have m1 : M'[b]? = some (.lst [.ref d, .int ((a : Int) + 1)]) := by rw [eM, List.getElem?_set_self hb]
  have m2 : M'[d]? = some (.lst (xs.map D.int)) := by rw [eM, List.getElem?_set_ne ne]; exact e2
  have sm : Same M M' b := ⟨by rw [eM, List.length_set], fun i hi => by rw [eM, List.getElem?_set_ne (Ne.symm hi)]⟩
  have bx : Bx M' b d (n + 1) := ⟨⟨a + 1, by rw [m1]; rfl, by omega⟩, ⟨xs, m2, l2⟩, ne⟩
  have j0 : ixD (.ref b) (.int 0) M' = some (.ref d, M') := by
    simp [ixD, lstOf, m1, L2.atI, L2.ixN]
  have ln : lenD [.ref d] M' = some (.int xs.length, M') := by simp [lenD, lstOf, m2]
  by_cases hlt : a < xs.length
  · have hx : xs[a]? = some xs[a] := List.getElem?_eq_getElem hlt
    have k0 : ixD (.ref d) (.int a) M' = some (.int xs[a], M') := by
      simp [ixD, lstOf, m2, atI_nat, hx]
    refine ⟨xs[a] % many, M', ?_, Int.emod_nonneg _ (by omega), Int.emod_lt_of_pos _ hm, bx, sm⟩
    have c : ((a : Int) < (xs.length : Int)) := by omega
    simp [f__law_draw, fnB, g__law_draw, retF, sSeq, contK, sIf, sAsg, sRet, sRetN, sExpr, sPar, sNil, gN, gSb, gT, gsNil, gsCons, eVar, eLit, eOp, eUn, eArgs, aNil, aCons, eIf, eAnd, eOr, eNot, tTru, tOp', tOfE, eChain, chainK, tNot', tAnd', tOr', ordD, addD, subD, negD, gcdD, mkTup, truD, blV, gcT_self, gcD_self, gcF_self, sizeLine_eq, i0, st, ← eM, j0, ln, hlt, k0, intD, modD, hm]
  · obtain ⟨q1, hq1⟩ : ∃ q : Int, q = (a : Int) * a * 3 + a * 4 + a / 3 + 1 := ⟨_, rfl⟩
    refine ⟨q1 % many, M', ?_, Int.emod_nonneg _ (by omega), Int.emod_lt_of_pos _ hm, bx, sm⟩
    have a20 : a < 2 ^ 20 := by omega
    have mo1 := mulD_ok (m := M') (mulOk_of (i := (a : Int)) (j := (a : Int)) (n := 20) (k := 20) (by omega) (by omega) (by omega))
    have mo2 := mulD_ok (m := M') (mulOk_of (i := (a : Int) * a) (j := 3) (n := 40) (k := 2) (by rw [Int.natAbs_mul]; exact mul_lt_pow (n := 20) (k := 20) (by omega) (by omega)) (by decide) (by omega))
    have mo3 := mulD_ok (m := M') (mulOk_of (i := (a : Int)) (j := 4) (n := 20) (k := 3) (by omega) (by decide) (by omega))
    have dv := divD_pos (i := (a : Int)) (j := 3) (m := M') (by omega) (Nat.lt_of_lt_of_le (show (3 : Int).natAbs < 2 ^ 2 by decide) (Nat.pow_le_pow_right (by omega) (by omega)))
    simp [f__law_draw, fnB, g__law_draw, retF, sSeq, contK, sIf, sAsg, sRet, sRetN, sExpr, sPar, sNil, gN, gSb, gT, gsNil, gsCons, eVar, eLit, eOp, eUn, eArgs, aNil, aCons, eIf, eAnd, eOr, eNot, tTru, tOp', tOfE, eChain, chainK, tNot', tAnd', tOr', ordD, addD, subD, negD, gcdD, mkTup, truD, blV, gcT_self, gcD_self, gcF_self, sizeLine_eq, i0, st, ← eM, j0, ln, hlt, mo1, mo2, mo3, dv, intD, modD, hm, hq1]

theorem c_draw {M : Mem} {b d n : Nat} {many : Int} (h : Bx M b d n) (hn : n < 1000000) (hm : 0 < many) : ∃ (r : Int) (M' : Mem), callD 2 f__law_draw [.ref b, .int many] M = .ok (.int r) M' ∧ 0 ≤ r ∧ r < many ∧ Bx M' b d (n + 1) ∧ Same M M' b := by
  obtain ⟨r, M', e, h1, h2, h3, h4⟩ := s_draw h hn hm
  exact ⟨r, M', callD_ok rfl e h4.len, h1, h2, h3, h4⟩
/-- a call that moves the box and leaves garbage -/
theorem keep_box {M M' g : Mem} {b d n k : Nat} (h : Bx M b d n) (h' : Bx M' b d k) (s : Same M M' b) : KeepOk M (M' ++ g) := by
  refine ⟨by rw [List.length_append, s.len]; omega, fun i c hi e => ?_⟩
  rw [List.getElem?_append_left (by rw [s.len]; exact hi)] at e
  by_cases hb : i = b
  · subst hb
    obtain ⟨a, q, _⟩ := h'.box
    rw [q] at e
    cases e
    refine .inr ?_
    obtain ⟨_, hd⟩ := h.lt
    simp [Cell.fits, D.fitsL, D.fits, hd]
  · rw [s.at_ i hb] at e
    exact .inl e
theorem callD_box {n : Nat} {cf : List D → Mem → R D} {ds : List D} {M M' g : Mem} {v : D} {b d k j : Nat} (hn : ds.length = n) (h : Bx M b d k) (h' : Bx M' b d j) (s : Same M M' b) (e : cf ds M = .ok v (M' ++ g)) (hf : v.fits M.length = true) : callD n cf ds M = .ok v M' := by
  unfold callD
  rw [if_pos hn, e]
  unfold gcD gcR
  dsimp only
  rw [if_pos ⟨hf, keep_box h h' s⟩, ← s.len, List.take_left]
theorem Same.trans {M M' M'' : Mem} {b : Nat} (a : Same M M' b) (c : Same M' M'' b) : Same M M'' b := ⟨c.len.trans a.len, fun i h => (c.at_ i h).trans (a.at_ i h)⟩
theorem Same.refl {M : Mem} {b : Nat} : Same M M b := ⟨rfl, fun _ _ => rfl⟩
theorem c_pick {M : Mem} {b d n p : Nat} {xs : List Int} (h : Bx M b d n) (hn : n < 1000000) (hp : M[p]? = some (.lst (xs.map D.int))) (hb : p ≠ b) (hx : xs ≠ []) : ∃ (r : Int) (M' : Mem), callD 2 f__law_pick [.ref b, .ref p] M = .ok (.int r) M' ∧ r ∈ xs ∧ Bx M' b d (n + 1) ∧ Same M M' b := by
  have hl : 0 < xs.length := List.length_pos_iff.mpr hx
  have ln : lenD [.ref p] M = some (.int xs.length, M) := by simp [lenD, lstOf, hp]
  obtain ⟨r, M', e, h1, h2, h3, h4⟩ := c_draw (many := xs.length) h hn (by omega)
  obtain ⟨j, rfl⟩ : ∃ j : Nat, r = (j : Int) := ⟨r.toNat, by omega⟩
  have h5 : j < xs.length := by omega
  have hx2 : xs[j]? = some xs[j] := List.getElem?_eq_getElem h5
  have k0 : ixD (.ref p) (.int j) M' = some (.int xs[j], M') := by
    have hp' : M'[p]? = some (.lst (xs.map D.int)) := by rw [h4.at_ p hb]; exact hp
    simp [ixD, lstOf, hp', atI_nat, hx2]
  refine ⟨xs[j], M', callD_ok rfl ?_ h4.len, List.getElem_mem h5, h3, h4⟩
  simp [f__law_pick, fnB, g__law_pick, retF, sSeq, contK, sIf, sAsg, sRet, sRetN, sExpr, sPar, sNil, gN, gSb, gT, gsNil, gsCons, eVar, eLit, eOp, eUn, eArgs, aNil, aCons, eIf, eAnd, eOr, eNot, tTru, tOp', tOfE, eChain, chainK, tNot', tAnd', tOr', ordD, addD, subD, negD, gcdD, mkTup, truD, blV, gcT_self, gcD_self, gcF_self, sizeLine_eq, eCall, ln, e, k0]
theorem c_slope {M : Mem} {b d n : Nat} (h : Bx M b d n) (hn : n + 2 < 1000000) : ∃ (q : Rat) (M' : Mem), callD 1 f__law_slope [.ref b] M = .ok (fr q) M' ∧ 0 < q ∧ sz 3 q ∧ Bx M' b d (n + 2) ∧ Same M M' b := by
  obtain ⟨r, M1, e1, r1, r2, b1, s1⟩ := c_draw (many := 6) h (by omega) (by omega)
  have b2 : Bx (M1 ++ [.lst [.int 1, .int 1, .int 2, .int 3]]) b d (n + 1) := b1.app
  have hp : (M1 ++ [.lst [.int 1, .int 1, .int 2, .int 3]])[M1.length]? = some (.lst (([1, 1, 2, 3] : List Int).map D.int)) := by simp
  obtain ⟨c, M2, e2, c1, b3, s2⟩ := c_pick b2 (by omega) hp (by have := b1.lt.1; omega) (by simp)
  have hc : 0 < c ∧ c < 4 := by
    simp only [List.mem_cons, List.not_mem_nil, or_false] at c1
    omega
  have l2 := s2.len
  simp only [List.length_append, List.length_cons, List.length_nil] at l2
  obtain ⟨q, eq⟩ : ∃ q : Rat, q = ((1 + r : Int) : Rat) / (c : Rat) := ⟨_, rfl⟩
  have fq := fun m => c_frac (t := 1 + r) (b := c) (m := m) (j := 2) (by omega) (by omega) (by omega)
  have b4 : Bx (M2.take M.length) b d (n + 2) := b3.take h.lt.1 h.lt.2
  have s4 : Same M (M2.take M.length) b := by
    refine ⟨by rw [List.length_take]; have := s1.len; omega, fun i hi => ?_⟩
    by_cases hl : i < M.length
    · rw [List.getElem?_take_of_lt hl, s2.at_ i hi, List.getElem?_append_left (by rw [s1.len]; exact hl), s1.at_ i hi]
    · rw [List.getElem?_eq_none (by rw [List.length_take]; omega), List.getElem?_eq_none (by omega)]
  have em : M2 = M2.take M.length ++ M2.drop M.length := (List.take_append_drop _ _).symm
  have pq : 0 < q := by
    rw [eq, Rat.div_def]
    have h1 : (0 : Rat) < ((1 + r : Int) : Rat) := by exact_mod_cast (by omega : (0 : Int) < 1 + r)
    have h2 : (0 : Rat) < (c : Rat) := by exact_mod_cast hc.1
    exact Rat.mul_pos h1 (Rat.inv_pos.mpr h2)
  refine ⟨q, M2.take M.length, callD_box (g := M2.drop M.length) rfl h b4 s4 ?_ rfl, pq, by rw [eq]; exact sz_div hc.1 (n := 3) (k := 3) (by omega) (by omega) (Nat.le_refl _) (Nat.le_refl _), b4, s4⟩
  rw [← em]
  simp [f__law_slope, fnB, g__law_slope, retF, sSeq, contK, sIf, sAsg, sRet, sRetN, sExpr, sPar, sNil, gN, gSb, gT, gsNil, gsCons, eVar, eLit, eOp, eUn, eArgs, aNil, aCons, eIf, eAnd, eOr, eNot, tTru, tOp', tOfE, eChain, chainK, tNot', tAnd', tOr', ordD, addD, subD, negD, gcdD, mkTup, truD, blV, gcT_self, gcD_self, gcF_self, sizeLine_eq, eCall, e1, mkLst, e2, fq, eq]
end K46
end Dw

namespace Dw
namespace K46
open PySem PySem.Spec PyProof.Rows L2
theorem i_int {i : Int} {m : Mem} : callD 1 f_is_integer [.int i] m = .ok (.bl true) m := callD_pure rfl (by simp [f_is_integer, fnB, g_is_integer, retF, sSeq, contK, sIf, sAsg, sRet, sRetN, sExpr, sPar, sNil, gN, gSb, gT, gsNil, gsCons, eVar, eLit, eOp, eUn, eArgs, aNil, aCons, eIf, eAnd, eOr, eNot, tTru, tOp', tOfE, eChain, chainK, tNot', tAnd', tOr', ordD, addD, subD, negD, gcdD, mkTup, truD, blV, gcT_self, gcD_self, gcF_self, sizeLine_eq, isD1, tyB])
theorem i_bl {i : Bool} {m : Mem} : callD 1 f_is_integer [.bl i] m = .ok (.bl false) m := callD_pure rfl (by simp [f_is_integer, fnB, g_is_integer, retF, sSeq, contK, sIf, sAsg, sRet, sRetN, sExpr, sPar, sNil, gN, gSb, gT, gsNil, gsCons, eVar, eLit, eOp, eUn, eArgs, aNil, aCons, eIf, eAnd, eOr, eNot, tTru, tOp', tOfE, eChain, chainK, tNot', tAnd', tOr', ordD, addD, subD, negD, gcdD, mkTup, truD, blV, gcT_self, gcD_self, gcF_self, sizeLine_eq, isD1, tyB])
theorem f_two {a b : Int} {m : Mem} : callD 1 f_is_fraction [.tup [.int a, .int b]] m = .ok (.bl (decide (1 ≤ b) && decide (Nat.gcd a.natAbs b.natAbs = 1))) m := by
  refine callD_pure rfl ?_
  have e5 : ixD (.tup [.int a, .int b]) (.int 1) m = some (.int b, m) := rfl
  have e6 : ixD (.tup [.int a, .int b]) (.int 0) m = some (.int a, m) := rfl
  have al : allD [.ref m.length] (m ++ [.lst [.bl true, .bl true]]) = some (.bl true, m ++ [.lst [.bl true, .bl true]]) := by simp [allD, lstOf, blV]
  have gz : decide ((Nat.gcd a.natAbs b.natAbs : Int) = 1) = decide (Nat.gcd a.natAbs b.natAbs = 1) := by
    by_cases h : Nat.gcd a.natAbs b.natAbs = 1
    · simp [h]
    · have : ¬ ((Nat.gcd a.natAbs b.natAbs : Int) = 1) := by omega
      simp [h, this]
  by_cases hb : 1 ≤ b
  · simp [f_is_fraction, fnB, g_is_fraction, retF, sSeq, contK, sIf, sAsg, sRet, sRetN, sExpr, sPar, sNil, gN, gSb, gT, gsNil, gsCons, eVar, eLit, eOp, eUn, eArgs, aNil, aCons, eIf, eAnd, eOr, eNot, tTru, tOp', tOfE, eChain, chainK, tNot', tAnd', tOr', ordD, addD, subD, negD, gcdD, mkTup, truD, blV, gcT_self, gcD_self, gcF_self, sizeLine_eq, isD1, tyB, lenD, neD_int, eComp, iSeq, compG_nil, compG_cons, turnC, wipeE, gcO_self, keepD, R.noexc, tYes', eCall, i_int, al, gcT_app, e5, e6, eqD_int, hb, gz]
  · simp [f_is_fraction, fnB, g_is_fraction, retF, sSeq, contK, sIf, sAsg, sRet, sRetN, sExpr, sPar, sNil, gN, gSb, gT, gsNil, gsCons, eVar, eLit, eOp, eUn, eArgs, aNil, aCons, eIf, eAnd, eOr, eNot, tTru, tOp', tOfE, eChain, chainK, tNot', tAnd', tOr', ordD, addD, subD, negD, gcdD, mkTup, truD, blV, gcT_self, gcD_self, gcF_self, sizeLine_eq, isD1, tyB, lenD, neD_int, eComp, iSeq, compG_nil, compG_cons, turnC, wipeE, gcO_self, keepD, R.noexc, tYes', eCall, i_int, al, gcT_app, e5, e6, eqD_int, hb, gz]
theorem f_bl {x : Bool} {b : Int} {m : Mem} : callD 1 f_is_fraction [.tup [.bl x, .int b]] m = .ok (.bl false) m := by
  refine callD_pure rfl ?_
  have al : allD [.ref m.length] (m ++ [.lst [.bl false, .bl true]]) = some (.bl false, m ++ [.lst [.bl false, .bl true]]) := by simp [allD, lstOf, blV]
  simp [f_is_fraction, fnB, g_is_fraction, retF, sSeq, contK, sIf, sAsg, sRet, sRetN, sExpr, sPar, sNil, gN, gSb, gT, gsNil, gsCons, eVar, eLit, eOp, eUn, eArgs, aNil, aCons, eIf, eAnd, eOr, eNot, tTru, tOp', tOfE, eChain, chainK, tNot', tAnd', tOr', ordD, addD, subD, negD, gcdD, mkTup, truD, blV, gcT_self, gcD_self, gcF_self, sizeLine_eq, isD1, tyB, lenD, neD_int, eComp, iSeq, compG_nil, compG_cons, turnC, wipeE, gcO_self, keepD, R.noexc, tYes', eCall, i_int, i_bl, al, gcT_app]
theorem f_int {i : Int} {m : Mem} : callD 1 f_is_fraction [.int i] m = .ok (.bl false) m := callD_pure rfl (by simp [f_is_fraction, fnB, g_is_fraction, retF, sSeq, contK, sIf, sAsg, sRet, sRetN, sExpr, sPar, sNil, gN, gSb, gT, gsNil, gsCons, eVar, eLit, eOp, eUn, eArgs, aNil, aCons, eIf, eAnd, eOr, eNot, tTru, tOp', tOfE, eChain, chainK, tNot', tAnd', tOr', ordD, addD, subD, negD, gcdD, mkTup, truD, blV, gcT_self, gcD_self, gcF_self, sizeLine_eq, isD1, tyB])
theorem f_non {m : Mem} : callD 1 f_is_fraction [.non] m = .ok (.bl false) m := callD_pure rfl (by simp [f_is_fraction, fnB, g_is_fraction, retF, sSeq, contK, sIf, sAsg, sRet, sRetN, sExpr, sPar, sNil, gN, gSb, gT, gsNil, gsCons, eVar, eLit, eOp, eUn, eArgs, aNil, aCons, eIf, eAnd, eOr, eNot, tTru, tOp', tOfE, eChain, chainK, tNot', tAnd', tOr', ordD, addD, subD, negD, gcdD, mkTup, truD, blV, gcT_self, gcD_self, gcF_self, sizeLine_eq, isD1, tyB])
/-- what is_slope says of a value -/
def Sl (x : D) (k : Bool) : Prop := ∀ m, callD 1 f_is_slope [x] m = .ok (.bl k) m
theorem sl_two (a b : Int) : Sl (.tup [.int a, .int b]) (decide (1 ≤ b) && decide (Nat.gcd a.natAbs b.natAbs = 1) && decide (0 < a)) := fun m => by
  refine callD_pure rfl ?_
  have e6 : ixD (.tup [.int a, .int b]) (.int 0) m = some (.int a, m) := rfl
  cases hk : (decide (1 ≤ b) && decide (Nat.gcd a.natAbs b.natAbs = 1))
  · have f := f_two (a := a) (b := b) (m := m)
    rw [hk] at f
    simp [f_is_slope, fnB, g_is_slope, retF, sSeq, contK, sIf, sAsg, sRet, sRetN, sExpr, sPar, sNil, gN, gSb, gT, gsNil, gsCons, eVar, eLit, eOp, eUn, eArgs, aNil, aCons, eIf, eAnd, eOr, eNot, tTru, tOp', tOfE, eChain, chainK, tNot', tAnd', tOr', ordD, addD, subD, negD, gcdD, mkTup, truD, blV, gcT_self, gcD_self, gcF_self, sizeLine_eq, eCall, f, e6]
  · have f := f_two (a := a) (b := b) (m := m)
    rw [hk] at f
    simp [f_is_slope, fnB, g_is_slope, retF, sSeq, contK, sIf, sAsg, sRet, sRetN, sExpr, sPar, sNil, gN, gSb, gT, gsNil, gsCons, eVar, eLit, eOp, eUn, eArgs, aNil, aCons, eIf, eAnd, eOr, eNot, tTru, tOp', tOfE, eChain, chainK, tNot', tAnd', tOr', ordD, addD, subD, negD, gcdD, mkTup, truD, blV, gcT_self, gcD_self, gcF_self, sizeLine_eq, eCall, f, e6]
theorem sl_fr {q : Rat} (h : 0 < q) : Sl (fr q) true := by
  have z := sl_two q.num (q.den : Int)
  have h1 := num_pos h
  have h2 := q.den_pos
  have h3 : Nat.gcd q.num.natAbs (q.den : Int).natAbs = 1 := q.reduced
  have e : (decide (1 ≤ (q.den : Int)) && decide (Nat.gcd q.num.natAbs (q.den : Int).natAbs = 1) && decide (0 < q.num)) = true := by
    rw [Bool.and_eq_true, Bool.and_eq_true]
    exact ⟨⟨decide_eq_true (by omega), decide_eq_true h3⟩, decide_eq_true h1⟩
  rw [e] at z
  exact z
theorem sl_bl (x : Bool) (b : Int) : Sl (.tup [.bl x, .int b]) false := fun m => callD_pure rfl (by simp [f_is_slope, fnB, g_is_slope, retF, sSeq, contK, sIf, sAsg, sRet, sRetN, sExpr, sPar, sNil, gN, gSb, gT, gsNil, gsCons, eVar, eLit, eOp, eUn, eArgs, aNil, aCons, eIf, eAnd, eOr, eNot, tTru, tOp', tOfE, eChain, chainK, tNot', tAnd', tOr', ordD, addD, subD, negD, gcdD, mkTup, truD, blV, gcT_self, gcD_self, gcF_self, sizeLine_eq, eCall, f_bl])
theorem sl_int (i : Int) : Sl (.int i) false := fun m => callD_pure rfl (by simp [f_is_slope, fnB, g_is_slope, retF, sSeq, contK, sIf, sAsg, sRet, sRetN, sExpr, sPar, sNil, gN, gSb, gT, gsNil, gsCons, eVar, eLit, eOp, eUn, eArgs, aNil, aCons, eIf, eAnd, eOr, eNot, tTru, tOp', tOfE, eChain, chainK, tNot', tAnd', tOr', ordD, addD, subD, negD, gcdD, mkTup, truD, blV, gcT_self, gcD_self, gcF_self, sizeLine_eq, eCall, f_int])
theorem sl_non : Sl .non false := fun m => callD_pure rfl (by simp [f_is_slope, fnB, g_is_slope, retF, sSeq, contK, sIf, sAsg, sRet, sRetN, sExpr, sPar, sNil, gN, gSb, gT, gsNil, gsCons, eVar, eLit, eOp, eUn, eArgs, aNil, aCons, eIf, eAnd, eOr, eNot, tTru, tOp', tOfE, eChain, chainK, tNot', tAnd', tOr', ordD, addD, subD, negD, gcdD, mkTup, truD, blV, gcT_self, gcD_self, gcF_self, sizeLine_eq, eCall, f_non])
abbrev bad3 (m : Mem) : R D := .exc "BadValue" [("reason", .str (PySem.Str.ofString "slopes"))] m
theorem ck_three {x y z : D} {a b c : Bool} {m : Mem} (hx : Sl x a) (hy : Sl y b) (hz : Sl z c) : callD 1 f_check_three [.tup [x, y, z]] m = if (a && b && c) = true then .ok .non m else bad3 m := by
  have al : ∀ a b c : Bool, allD [.ref m.length] (m ++ [.lst [.bl a, .bl b, .bl c]]) = some (.bl (a && b && c), m ++ [.lst [.bl a, .bl b, .bl c]]) := by
    intro a b c
    cases a <;> cases b <;> cases c <;> simp [allD, lstOf, blV]
  have main : f_check_three [.tup [x, y, z]] m = if (a && b && c) = true then .ok .non m else bad3 m := by
    have h1 := hx m
    have h2 := hy m
    have h3 := hz m
    cases hk : (a && b && c)
    · have al' := al a b c
      rw [hk] at al'
      simp [f_check_three, fnB, g_check_three, retF, sSeq, contK, sIf, sAsg, sRet, sRetN, sExpr, sPar, sNil, gN, gSb, gT, gsNil, gsCons, eVar, eLit, eOp, eUn, eArgs, aNil, aCons, eIf, eAnd, eOr, eNot, tTru, tOp', tOfE, eChain, chainK, tNot', tAnd', tOr', ordD, addD, subD, negD, gcdD, mkTup, truD, blV, gcT_self, gcD_self, gcF_self, sizeLine_eq, isD1, tyB, lenD, neD_int, eComp, iSeq, compG_nil, compG_cons, turnC, wipeE, gcO_self, keepD, R.noexc, tYes', eCall, h1, h2, h3, al', gcT_app, sRaise]
    · have al' := al a b c
      rw [hk] at al'
      simp [f_check_three, fnB, g_check_three, retF, sSeq, contK, sIf, sAsg, sRet, sRetN, sExpr, sPar, sNil, gN, gSb, gT, gsNil, gsCons, eVar, eLit, eOp, eUn, eArgs, aNil, aCons, eIf, eAnd, eOr, eNot, tTru, tOp', tOfE, eChain, chainK, tNot', tAnd', tOr', ordD, addD, subD, negD, gcdD, mkTup, truD, blV, gcT_self, gcD_self, gcF_self, sizeLine_eq, isD1, tyB, lenD, neD_int, eComp, iSeq, compG_nil, compG_cons, turnC, wipeE, gcO_self, keepD, R.noexc, tYes', eCall, h1, h2, h3, al', gcT_app, sRaise]
  cases hk : (a && b && c)
  · rw [hk] at main
    have e : f_check_three [.tup [x, y, z]] m = .exc "BadValue" [("reason", .str (PySem.Str.ofString "slopes"))] (m ++ []) := by rw [main]; simp
    exact callD_exc rfl e
  · rw [hk] at main
    exact callD_pure rfl main
theorem ck_bad {d : D} {m : Mem} (h : f_check_three [d] m = bad3 m) : callD 1 f_check_three [d] m = bad3 m := callD_exc (g := []) rfl (by rw [List.append_nil]; exact h)
theorem ck_non {m : Mem} : callD 1 f_check_three [.non] m = bad3 m := ck_bad (by simp [f_check_three, fnB, g_check_three, retF, sSeq, contK, sIf, sAsg, sRet, sRetN, sExpr, sPar, sNil, gN, gSb, gT, gsNil, gsCons, eVar, eLit, eOp, eUn, eArgs, aNil, aCons, eIf, eAnd, eOr, eNot, tTru, tOp', tOfE, eChain, chainK, tNot', tAnd', tOr', ordD, addD, subD, negD, gcdD, mkTup, truD, blV, gcT_self, gcD_self, gcF_self, sizeLine_eq, isD1, tyB, sRaise])
theorem ck_ref {n : Nat} {xs : List D} {m : Mem} (h : m[n]? = some (.lst xs)) : callD 1 f_check_three [.ref n] m = bad3 m := ck_bad (by simp [f_check_three, fnB, g_check_three, retF, sSeq, contK, sIf, sAsg, sRet, sRetN, sExpr, sPar, sNil, gN, gSb, gT, gsNil, gsCons, eVar, eLit, eOp, eUn, eArgs, aNil, aCons, eIf, eAnd, eOr, eNot, tTru, tOp', tOfE, eChain, chainK, tNot', tAnd', tOr', ordD, addD, subD, negD, gcdD, mkTup, truD, blV, gcT_self, gcD_self, gcF_self, sizeLine_eq, isD1, tyB, sRaise, h])
theorem ck_len {xs : List D} {m : Mem} (h : xs.length = 2 ∨ xs.length = 4) : callD 1 f_check_three [.tup xs] m = bad3 m := ck_bad (by
  rcases h with h | h <;> simp [f_check_three, fnB, g_check_three, retF, sSeq, contK, sIf, sAsg, sRet, sRetN, sExpr, sPar, sNil, gN, gSb, gT, gsNil, gsCons, eVar, eLit, eOp, eUn, eArgs, aNil, aCons, eIf, eAnd, eOr, eNot, tTru, tOp', tOfE, eChain, chainK, tNot', tAnd', tOr', ordD, addD, subD, negD, gcdD, mkTup, truD, blV, gcT_self, gcD_self, gcF_self, sizeLine_eq, isD1, tyB, sRaise, lenD, neD_int, h])
theorem ck_ok {p q r : Rat} {m : Mem} (hp : 0 < p) (hq : 0 < q) (hr : 0 < r) : callD 1 f_check_three [.tup [fr p, fr q, fr r]] m = .ok .non m := by
  rw [ck_three (sl_fr hp) (sl_fr hq) (sl_fr hr)]
  rfl
/-- check_three refuses: so do both -/
theorem mesh_bad {d : D} {m : Mem} (h : callD 1 f_check_three [d] m = bad3 m) : callD 1 f_mesh_to_star [d] m = bad3 m := callD_exc (g := []) rfl (by simp [f_mesh_to_star, fnB, g_mesh_to_star, retF, sSeq, contK, sIf, sAsg, sRet, sRetN, sExpr, sPar, sNil, gN, gSb, gT, gsNil, gsCons, eVar, eLit, eOp, eUn, eArgs, aNil, aCons, eIf, eAnd, eOr, eNot, tTru, tOp', tOfE, eChain, chainK, tNot', tAnd', tOr', ordD, addD, subD, negD, gcdD, mkTup, truD, blV, gcT_self, gcD_self, gcF_self, sizeLine_eq, eCall, h])
theorem star_bad {d : D} {m : Mem} (h : callD 1 f_check_three [d] m = bad3 m) : callD 1 f_star_to_mesh [d] m = bad3 m := callD_exc (g := []) rfl (by simp [f_star_to_mesh, fnB, g_star_to_mesh, retF, sSeq, contK, sIf, sAsg, sRet, sRetN, sExpr, sPar, sNil, gN, gSb, gT, gsNil, gsCons, eVar, eLit, eOp, eUn, eArgs, aNil, aCons, eIf, eAnd, eOr, eNot, tTru, tOp', tOfE, eChain, chainK, tNot', tAnd', tOr', ordD, addD, subD, negD, gcdD, mkTup, truD, blV, gcT_self, gcD_self, gcF_self, sizeLine_eq, eCall, h])
theorem c_plus {p q : Rat} {m : Mem} {n k : Nat} (hp : sz n p) (hq : sz k q) (h : n + k + 1 < 8000) : callD 2 f_plus [fr p, fr q] m = .ok (fr (p + q)) m := callD_pure rfl (s_plus hp hq h).1
theorem c_times {p q : Rat} {m : Mem} {n k : Nat} (hp : sz n p) (hq : sz k q) (h : n + k < 8000) : callD 2 f_times [fr p, fr q] m = .ok (fr (p * q)) m := callD_pure rfl (s_times hp hq h).1
theorem sz_times {p q : Rat} {n k : Nat} (hp : sz n p) (hq : sz k q) (h : n + k < 8000) : sz (n + k) (p * q) := (s_times (m := []) hp hq h).2
theorem c_over {p q : Rat} {m : Mem} {n k : Nat} (hp : sz n p) (hq : sz k q) (hq0 : 0 < q) (h : n + k < 8000) : callD 2 f_over [fr p, fr q] m = .ok (fr (p / q)) m := callD_pure rfl (s_over hp hq hq0 h).1
theorem c_mesh {p q r : Rat} {m : Mem} {n : Nat} (hp : sz n p) (hq : sz n q) (hr : sz n r) (p0 : 0 < p) (q0 : 0 < q) (r0 : 0 < r) (hn : 5 * n + 10 < 8000) :
    callD 1 f_mesh_to_star [.tup [fr p, fr q, fr r]] m = .ok (.tup [fr (q * r / (p + q + r)), fr (p * r / (p + q + r)), fr (p * q / (p + q + r))]) m := by
  have h1 := sz_plus hp hq
  have h2 := sz_plus h1 hr
  have hs : 0 < p + q + r := by grind
  have a1 := c_plus (m := m) hp hq (by omega)
  have a2 := c_plus (m := m) h1 hr (by omega)
  have t1 := c_times (m := m) hq hr (by omega)
  have t2 := c_times (m := m) hp hr (by omega)
  have t3 := c_times (m := m) hp hq (by omega)
  have o1 := c_over (m := m) (sz_times hq hr (by omega)) h2 hs (by omega)
  have o2 := c_over (m := m) (sz_times hp hr (by omega)) h2 hs (by omega)
  have o3 := c_over (m := m) (sz_times hp hq (by omega)) h2 hs (by omega)
  have ck := ck_ok (m := m) p0 q0 r0
  have x0 : ixD (.tup [fr p, fr q, fr r]) (.int 0) m = some (fr p, m) := rfl
  have x1 : ixD (.tup [fr p, fr q, fr r]) (.int 1) m = some (fr q, m) := rfl
  have x2 : ixD (.tup [fr p, fr q, fr r]) (.int 2) m = some (fr r, m) := rfl
  refine callD_pure rfl ?_
  simp [f_mesh_to_star, fnB, g_mesh_to_star, retF, sSeq, contK, sIf, sAsg, sRet, sRetN, sExpr, sPar, sNil, gN, gSb, gT, gsNil, gsCons, eVar, eLit, eOp, eUn, eArgs, aNil, aCons, eIf, eAnd, eOr, eNot, tTru, tOp', tOfE, eChain, chainK, tNot', tAnd', tOr', ordD, addD, subD, negD, gcdD, mkTup, truD, blV, gcT_self, gcD_self, gcF_self, sizeLine_eq, eCall, ck, x0, x1, x2, a1, a2, t1, t2, t3, o1, o2, o3]
theorem c_star {p q r : Rat} {m : Mem} {n : Nat} (hp : sz n p) (hq : sz n q) (hr : sz n r) (p0 : 0 < p) (q0 : 0 < q) (r0 : 0 < r) (hn : 7 * n + 10 < 8000) :
    callD 1 f_star_to_mesh [.tup [fr p, fr q, fr r]] m = .ok (.tup [fr ((p * q + q * r + p * r) / p), fr ((p * q + q * r + p * r) / q), fr ((p * q + q * r + p * r) / r)]) m := by
  have z1 := sz_times hp hq (by omega)
  have z2 := sz_times hq hr (by omega)
  have z3 := sz_times hp hr (by omega)
  have w1 := sz_plus z1 z2
  have w2 := sz_plus w1 z3
  have t1 := c_times (m := m) hp hq (by omega)
  have t2 := c_times (m := m) hq hr (by omega)
  have t3 := c_times (m := m) hp hr (by omega)
  have a1 := c_plus (m := m) z1 z2 (by omega)
  have a2 := c_plus (m := m) w1 z3 (by omega)
  have o1 := c_over (m := m) w2 hp p0 (by omega)
  have o2 := c_over (m := m) w2 hq q0 (by omega)
  have o3 := c_over (m := m) w2 hr r0 (by omega)
  have ck := ck_ok (m := m) p0 q0 r0
  have x0 : ixD (.tup [fr p, fr q, fr r]) (.int 0) m = some (fr p, m) := rfl
  have x1 : ixD (.tup [fr p, fr q, fr r]) (.int 1) m = some (fr q, m) := rfl
  have x2 : ixD (.tup [fr p, fr q, fr r]) (.int 2) m = some (fr r, m) := rfl
  obtain ⟨S, eS⟩ : ∃ S, S = p * q + q * r + p * r := ⟨_, rfl⟩
  rw [← eS] at o1 o2 o3 a2 ⊢
  refine callD_app (g := [.lst [fr (S / p), fr (S / q), fr (S / r)]]) rfl ?_ rfl
  have tu : tupleD [.ref m.length] (m ++ [.lst [fr (S / p), fr (S / q), fr (S / r)]]) = some (.tup [fr (S / p), fr (S / q), fr (S / r)], m ++ [.lst [fr (S / p), fr (S / q), fr (S / r)]]) := by simp [tupleD, lstOf]
  simp [f_star_to_mesh, fnB, g_star_to_mesh, retF, sSeq, contK, sIf, sAsg, sRet, sRetN, sExpr, sPar, sNil, gN, gSb, gT, gsNil, gsCons, eVar, eLit, eOp, eUn, eArgs, aNil, aCons, eIf, eAnd, eOr, eNot, tTru, tOp', tOfE, eChain, chainK, tNot', tAnd', tOr', ordD, addD, subD, negD, gcdD, mkTup, truD, blV, gcT_self, gcD_self, gcF_self, sizeLine_eq, eCall, ck, x0, x1, x2, t1, t2, t3, a1, a2, o1, o2, o3, eComp, iSeq, compG_nil, compG_cons, turnC, wipeE, gcO_self, keepD, R.noexc, tYes', tu]
end K46
end Dw

namespace Dw
namespace K46
open PySem PySem.Spec PyProof.Rows L2
/-! the digits -/
def Dg (M : Mem) (k : Nat) : Prop := ∃ xs : List Int, M = [.lst (xs.map D.int)] ∧ (∀ x ∈ xs, 0 ≤ x ∧ x < 1009) ∧ xs.length ≤ k
theorem mulOk_r {i j : Int} (h : j.natAbs < 2 ^ 60) : MulOk i j := .inr (.inr (by omega))
theorem mulOk_l {i j : Int} (h : i.natAbs < 2 ^ 60) : MulOk i j := .inr (.inl (by omega))
theorem div_small {i j : Int} {m : Mem} (h : 0 < j) (hs : j.natAbs < 2 ^ 40) : divD (.int i) (.int j) m = some (.int (i / j), m) := divD_pos h (Nat.lt_of_lt_of_le hs (Nat.pow_le_pow_right (by omega) (by omega)))
theorem dg_app {M : Mem} {k : Nat} {x : Int} (h : Dg M k) (hk : k < 1000000) (h0 : 0 ≤ x) (h1 : x < 1009) : ∃ M', appD (.ref 0) [.int x] M = some (.non, M') ∧ Dg M' (k + 1) ∧ M'.length = M.length ∧ tyD "list" (.ref 0) M = true := by
  obtain ⟨xs, rfl, a, b⟩ := h
  have hl : xs.length < 16777216 := by omega
  refine ⟨[.lst ((xs ++ [x]).map D.int)], ?_, ⟨xs ++ [x], rfl, ?_, by simp; omega⟩, rfl, by simp [tyD]⟩
  · simp [appD, sizeLine_eq, hl]
  · intro y hy
    rcases List.mem_append.mp hy with hy | hy
    · exact a y hy
    · rw [List.mem_singleton.mp hy]; exact ⟨h0, h1⟩
theorem gcF_len {m m' : Mem} {f : Fl} (h : m'.length = m.length) : gcF m (.ok f m') = .ok f m' := gcR_same h
theorem dig_turn1 {M : Mem} {k : Nat} {x : D} {cell : Int} {s0 s1 s2 s4 s6 s7 : Option D} (h : Dg M k) (hk : k < 1000000) : ∃ (c : Int) (M' : Mem), gcF M ((gN 6 x [s0, s1, s2, some (.ref 0), s4, some (.int cell), s6, s7] M).bind fun ρ1 m1 => g__law_digits_4 ρ1 m1) = .ok (.nx [s0, s1, s2, some (.ref 0), s4, some (.int c), some x, s7]) M' ∧ Dg M' (k + 1) := by
  by_cases hc : 0 < cell
  · obtain ⟨M', e, d, hl, t⟩ := dg_app (x := cell % 1009) h hk (Int.emod_nonneg _ (by omega)) (Int.emod_lt_of_pos _ (by omega))
    refine ⟨cell / 1009, M', ?_, d⟩
    have dv := div_small (i := cell) (j := 1009) (m := M') (by omega) (by omega)
    rw [← gcF_len (f := .nx [s0, s1, s2, some (.ref 0), s4, some (.int (cell / 1009)), some x, s7]) hl]
    congr 1
    simp [g__law_digits_4, g__law_digits_3, g__law_digits_2, retF, sSeq, contK, sIf, sAsg, sRet, sRetN, sExpr, sPar, sNil, gN, gSb, gT, gsNil, gsCons, eVar, eLit, eOp, eUn, eArgs, aNil, aCons, eIf, eAnd, eOr, eNot, tTru, tOp', tOfE, eChain, chainK, tNot', tAnd', tOr', ordD, addD, subD, negD, gcdD, mkTup, truD, blV, gcT_self, gcD_self, gcF_self, sizeLine_eq, hc, eMeth, methK, t, intD, modD, e, dv]
  · obtain ⟨xs, rfl, a, b⟩ := h
    refine ⟨cell, _, ?_, ⟨xs, rfl, a, by omega⟩⟩
    simp [g__law_digits_4, g__law_digits_3, retF, sSeq, contK, sIf, sAsg, sRet, sRetN, sExpr, sPar, sNil, gN, gSb, gT, gsNil, gsCons, eVar, eLit, eOp, eUn, eArgs, aNil, aCons, eIf, eAnd, eOr, eNot, tTru, tOp', tOfE, eChain, chainK, tNot', tAnd', tOr', ordD, addD, subD, negD, gcdD, mkTup, truD, blV, gcT_self, gcD_self, gcF_self, sizeLine_eq, hc]
theorem dig_loop1 : ∀ (l : List D) (M : Mem) (k : Nat) (cell : Int) (s0 s1 s2 s4 s6 s7 : Option D), Dg M k → k + l.length < 1000000 → ∃ (c : Int) (o : Option D) (M' : Mem), forG [] (gN 6) g__law_digits_4 l [s0, s1, s2, some (.ref 0), s4, some (.int cell), s6, s7] M = .ok (.nx [s0, s1, s2, some (.ref 0), s4, some (.int c), o, s7]) M' ∧ Dg M' (k + l.length) := by
  intro l
  induction l with
  | nil => intro M k cell s0 s1 s2 s4 s6 s7 h _; exact ⟨cell, s6, M, forG_nil, h⟩
  | cons x l ih =>
    intro M k cell s0 s1 s2 s4 s6 s7 h hk
    simp only [List.length_cons] at hk
    obtain ⟨c, M1, e1, d1⟩ := dig_turn1 (x := x) (cell := cell) (s0 := s0) (s1 := s1) (s2 := s2) (s4 := s4) (s6 := s6) (s7 := s7) h (by omega)
    obtain ⟨c2, o, M2, e2, d2⟩ := ih M1 (k + 1) c s0 s1 s2 s4 (some x) s7 d1 (by omega)
    refine ⟨c2, o, M2, ?_, by simp only [List.length_cons]; rw [show k + (l.length + 1) = k + 1 + l.length by omega]; exact d2⟩
    rw [forG_cons, e1, R.bind_ok]
    exact e2
theorem dig_turn2 {M : Mem} {k : Nat} {j seed : Int} {s0 s1 s2 s4 s5 s6 : Option D} (h : Dg M k) (hk : k < 1000000) : ∃ (c : Int) (M' : Mem), gcF M ((gN 6 (.int j) [s0, s1, s2, some (.ref 0), s4, s5, s6, some (.int seed)] M).bind fun ρ1 m1 => g__law_digits_7 ρ1 m1) = .ok (.nx [s0, s1, s2, some (.ref 0), s4, s5, some (.int j), some (.int c)]) M' ∧ Dg M' (k + 1) := by
  obtain ⟨c, ec⟩ : ∃ c : Int, c = (seed * 40014 + 11 * j + 7) % 2147483563 := ⟨_, rfl⟩
  obtain ⟨M', e, d, hl, t⟩ := dg_app (x := c / 1013 % 1009) h hk (Int.emod_nonneg _ (by omega)) (Int.emod_lt_of_pos _ (by omega))
  refine ⟨c, M', ?_, d⟩
  have m1 := mulD_ok (m := M) (mulOk_r (i := seed) (j := 40014) (by decide))
  have m2 := mulD_ok (m := M) (mulOk_l (i := 11) (j := j) (by decide))
  have dv := div_small (i := c) (j := 1013) (m := M) (by omega) (by omega)
  rw [← gcF_len (f := .nx [s0, s1, s2, some (.ref 0), s4, s5, some (.int j), some (.int c)]) hl]
  congr 1
  simp [g__law_digits_7, g__law_digits_5, g__law_digits_6, retF, sSeq, contK, sIf, sAsg, sRet, sRetN, sExpr, sPar, sNil, gN, gSb, gT, gsNil, gsCons, eVar, eLit, eOp, eUn, eArgs, aNil, aCons, eIf, eAnd, eOr, eNot, tTru, tOp', tOfE, eChain, chainK, tNot', tAnd', tOr', ordD, addD, subD, negD, gcdD, mkTup, truD, blV, gcT_self, gcD_self, gcF_self, sizeLine_eq, m1, m2, intD, modD, ← ec, dv, eMeth, methK, t, e]
theorem dig_loop2 : ∀ (l : List D) (M : Mem) (k : Nat) (seed : Int) (s0 s1 s2 s4 s5 s6 : Option D), Dg M k → k + l.length < 1000000 → (∀ x ∈ l, ∃ j : Int, x = .int j) → ∃ (c : Int) (o : Option D) (M' : Mem), forG [] (gN 6) g__law_digits_7 l [s0, s1, s2, some (.ref 0), s4, s5, s6, some (.int seed)] M = .ok (.nx [s0, s1, s2, some (.ref 0), s4, s5, o, some (.int c)]) M' ∧ Dg M' (k + l.length) := by
  intro l
  induction l with
  | nil => intro M k seed s0 s1 s2 s4 s5 s6 h _ _; exact ⟨seed, s6, M, forG_nil, h⟩
  | cons x l ih =>
    intro M k seed s0 s1 s2 s4 s5 s6 h hk hx
    simp only [List.length_cons] at hk
    obtain ⟨j, rfl⟩ := hx x List.mem_cons_self
    obtain ⟨c, M1, e1, d1⟩ := dig_turn2 (j := j) (seed := seed) (s0 := s0) (s1 := s1) (s2 := s2) (s4 := s4) (s5 := s5) (s6 := s6) h (by omega)
    obtain ⟨c2, o, M2, e2, d2⟩ := ih M1 (k + 1) c s0 s1 s2 s4 s5 (some (.int j)) d1 (by omega) fun y hy => hx y (List.mem_cons_of_mem _ hy)
    refine ⟨c2, o, M2, ?_, by simp only [List.length_cons]; rw [show k + (l.length + 1) = k + 1 + l.length by omega]; exact d2⟩
    rw [forG_cons, e1, R.bind_ok]
    exact e2
theorem rng_int (lo : Int) (n : Nat) : ∀ x ∈ rngD lo n, ∃ j : Nat, x = .int (lo + j) ∧ j < n := fun x hx => by
  unfold rngD at hx
  obtain ⟨k, hk, rfl⟩ := List.mem_map.mp hx
  exact ⟨k, rfl, List.mem_range.mp hk⟩
theorem rng_len (lo : Int) (n : Nat) : (rngD lo n).length = n := by unfold rngD; simp
theorem Dg.mono {M : Mem} {k j : Nat} (h : Dg M k) (l : k ≤ j) : Dg M j := let ⟨xs, e, a, b⟩ := h; ⟨xs, e, a, Nat.le_trans b l⟩
theorem dig_turn {M : Mem} {k j : Nat} {ns : List Int} {s1 s2 s4 s5 s6 s7 : Option D} (h : Dg M k) (hk : k + 60 < 1000000) : ∃ (t5 t6 t7 : Option D) (M' : Mem), gcF M ((gN 4 (.int j) [some (.fl (ns.map D.int)), s1, s2, some (.ref 0), s4, s5, s6, s7] M).bind fun ρ1 m1 => g__law_digits_12 ρ1 m1) = .ok (.nx [some (.fl (ns.map D.int)), s1, s2, some (.ref 0), some (.int j), t5, t6, t7]) M' ∧ Dg M' (k + 60) := by
  have st9 : ∃ c : Int, g__law_digits_9 [some (.fl (ns.map D.int)), s1, s2, some (.ref 0), some (.int j), s5, s6, s7] M = .ok (.nx [some (.fl (ns.map D.int)), s1, s2, some (.ref 0), some (.int j), some (.int c), s6, s7]) M := by
    by_cases hj : j < ns.length
    · have hx : ns[j]? = some ns[j] := List.getElem?_eq_getElem hj
      have k0 : ixD (.fl (ns.map D.int)) (.int j) M = some (.int ns[j], M) := by simp [ixD, atI_nat, hx]
      exact ⟨ns[j], by simp [g__law_digits_9, retF, sSeq, contK, sIf, sAsg, sRet, sRetN, sExpr, sPar, sNil, gN, gSb, gT, gsNil, gsCons, eVar, eLit, eOp, eUn, eArgs, aNil, aCons, eIf, eAnd, eOr, eNot, tTru, tOp', tOfE, eChain, chainK, tNot', tAnd', tOr', ordD, addD, subD, negD, gcdD, mkTup, truD, blV, gcT_self, gcD_self, gcF_self, sizeLine_eq, lenD, hj, k0]⟩
    · exact ⟨0, by simp [g__law_digits_9, retF, sSeq, contK, sIf, sAsg, sRet, sRetN, sExpr, sPar, sNil, gN, gSb, gT, gsNil, gsCons, eVar, eLit, eOp, eUn, eArgs, aNil, aCons, eIf, eAnd, eOr, eNot, tTru, tOp', tOfE, eChain, chainK, tNot', tAnd', tOr', ordD, addD, subD, negD, gcdD, mkTup, truD, blV, gcT_self, gcD_self, gcF_self, sizeLine_eq, lenD, hj]⟩
  obtain ⟨c0, e9⟩ := st9
  have st10 : ∃ c : Int, g__law_digits_10 [some (.fl (ns.map D.int)), s1, s2, some (.ref 0), some (.int j), some (.int c0), s6, s7] M = .ok (.nx [some (.fl (ns.map D.int)), s1, s2, some (.ref 0), some (.int j), some (.int c), s6, s7]) M := by
    have m1 := mulD_ok (m := M) (mulOk_l (i := 2) (j := c0) (by decide))
    by_cases hc : c0 < 0
    · exact ⟨1 - 2 * c0, by simp [g__law_digits_10, g__law_digits_1, retF, sSeq, contK, sIf, sAsg, sRet, sRetN, sExpr, sPar, sNil, gN, gSb, gT, gsNil, gsCons, eVar, eLit, eOp, eUn, eArgs, aNil, aCons, eIf, eAnd, eOr, eNot, tTru, tOp', tOfE, eChain, chainK, tNot', tAnd', tOr', ordD, addD, subD, negD, gcdD, mkTup, truD, blV, gcT_self, gcD_self, gcF_self, sizeLine_eq, hc, m1]⟩
    · exact ⟨c0, by simp [g__law_digits_10, g__law_digits_1, retF, sSeq, contK, sIf, sAsg, sRet, sRetN, sExpr, sPar, sNil, gN, gSb, gT, gsNil, gsCons, eVar, eLit, eOp, eUn, eArgs, aNil, aCons, eIf, eAnd, eOr, eNot, tTru, tOp', tOfE, eChain, chainK, tNot', tAnd', tOr', ordD, addD, subD, negD, gcdD, mkTup, truD, blV, gcT_self, gcD_self, gcF_self, sizeLine_eq, hc]⟩
  obtain ⟨c1, e10⟩ := st10
  have st11 : ∃ (t5 t6 t7 : Option D) (M' : Mem), g__law_digits_11 [some (.fl (ns.map D.int)), s1, s2, some (.ref 0), some (.int j), some (.int c1), s6, s7] M = .ok (.nx [some (.fl (ns.map D.int)), s1, s2, some (.ref 0), some (.int j), t5, t6, t7]) M' ∧ Dg M' (k + 60) := by
    by_cases hc : (1000000000000000000 : Int) ≤ c1
    · obtain ⟨c, o, M', e, d⟩ := dig_loop1 (rngD 0 60) M k c1 (some (.fl (ns.map D.int))) s1 s2 (some (.int j)) s6 s7 h (by rw [rng_len]; omega)
      rw [rng_len] at d
      exact ⟨some (.int c), o, s7, M', by simp [g__law_digits_11, retF, sSeq, contK, sIf, sAsg, sRet, sRetN, sExpr, sPar, sNil, gN, gSb, gT, gsNil, gsCons, eVar, eLit, eOp, eUn, eArgs, aNil, aCons, eIf, eAnd, eOr, eNot, tTru, tOp', tOfE, eChain, chainK, tNot', tAnd', tOr', ordD, addD, subD, negD, gcdD, mkTup, truD, blV, gcT_self, gcD_self, gcF_self, sizeLine_eq, hc, sFor, iRg1, e], d⟩
    · obtain ⟨sd, esd⟩ : ∃ sd : Int, sd = (c1 * 40699 + j * 52769 + 31) % 2147483399 := ⟨_, rfl⟩
      obtain ⟨c, o, M', e, d⟩ := dig_loop2 (rngD 0 12) M k sd (some (.fl (ns.map D.int))) s1 s2 (some (.int j)) (some (.int c1)) s6 h (by rw [rng_len]; omega) (fun x hx => let ⟨j, e, _⟩ := rng_int 0 12 x hx; ⟨_, e⟩)
      rw [rng_len] at d
      have m1 := mulD_ok (m := M) (mulOk_r (i := c1) (j := 40699) (by decide))
      have m2 := mulD_ok (m := M) (mulOk_r (i := (j : Int)) (j := 52769) (by decide))
      exact ⟨some (.int c1), o, some (.int c), M', by simp [g__law_digits_11, g__law_digits_8, retF, sSeq, contK, sIf, sAsg, sRet, sRetN, sExpr, sPar, sNil, gN, gSb, gT, gsNil, gsCons, eVar, eLit, eOp, eUn, eArgs, aNil, aCons, eIf, eAnd, eOr, eNot, tTru, tOp', tOfE, eChain, chainK, tNot', tAnd', tOr', ordD, addD, subD, negD, gcdD, mkTup, truD, blV, gcT_self, gcD_self, gcF_self, sizeLine_eq, hc, m1, m2, intD, modD, ← esd, sFor, iRg1, e], d.mono (by omega)⟩
  obtain ⟨t5, t6, t7, M', e11, d⟩ := st11
  refine ⟨t5, t6, t7, M', ?_, d⟩
  have hl : M'.length = M.length := by
    obtain ⟨_, rfl, _⟩ := d
    obtain ⟨_, rfl, _⟩ := h
    rfl
  rw [← gcF_len (f := .nx [some (.fl (ns.map D.int)), s1, s2, some (.ref 0), some (.int j), t5, t6, t7]) hl]
  congr 1
  show ((R.ok ([some (.fl (ns.map D.int)), s1, s2, some (.ref 0), s4, s5, s6, s7].set 4 (some (.int j))) M).bind fun ρ1 m1 => g__law_digits_12 ρ1 m1) = _
  simp only [List.set, R.bind_ok, g__law_digits_12, sSeq, e9, contK, e10, e11]
theorem dig_loop {ns : List Int} : ∀ (l : List D) (M : Mem) (k : Nat) (s1 s2 s4 s5 s6 s7 : Option D), Dg M k → k + 60 * l.length < 1000000 → (∀ x ∈ l, ∃ j : Nat, x = .int j) → ∃ (t4 t5 t6 t7 : Option D) (M' : Mem), forG [] (gN 4) g__law_digits_12 l [some (.fl (ns.map D.int)), s1, s2, some (.ref 0), s4, s5, s6, s7] M = .ok (.nx [some (.fl (ns.map D.int)), s1, s2, some (.ref 0), t4, t5, t6, t7]) M' ∧ Dg M' (k + 60 * l.length) := by
  intro l
  induction l with
  | nil => intro M k s1 s2 s4 s5 s6 s7 h _ _; exact ⟨s4, s5, s6, s7, M, forG_nil, h⟩
  | cons x l ih =>
    intro M k s1 s2 s4 s5 s6 s7 h hk hx
    simp only [List.length_cons] at hk
    obtain ⟨j, rfl⟩ := hx x List.mem_cons_self
    obtain ⟨t5, t6, t7, M1, e1, d1⟩ := dig_turn (j := j) (ns := ns) (s1 := s1) (s2 := s2) (s4 := s4) (s5 := s5) (s6 := s6) (s7 := s7) h (by omega)
    obtain ⟨u4, u5, u6, u7, M2, e2, d2⟩ := ih M1 (k + 60) s1 s2 (some (.int j)) t5 t6 t7 d1 (by omega) fun y hy => hx y (List.mem_cons_of_mem _ hy)
    refine ⟨u4, u5, u6, u7, M2, ?_, by simp only [List.length_cons]; rw [show k + 60 * (l.length + 1) = k + 60 + 60 * l.length by omega]; exact d2⟩
    rw [forG_cons, e1, R.bind_ok]
    exact e2
theorem s_digits (ns : List Int) : ∃ M, f__law_digits [.fl (ns.map D.int), .int 0, .int 63] [] = .ok (.ref 0) M ∧ Dg M 3780 := by
  obtain ⟨t4, t5, t6, t7, M, e, d⟩ := dig_loop (ns := ns) (rngD 0 63) [.lst []] 0 (some (.int 0)) (some (.int 63)) none none none none ⟨[], rfl, by simp, by simp⟩ (by rw [rng_len]; omega) (fun x hx => let ⟨j, e, _⟩ := rng_int 0 63 x hx; ⟨j, by rw [e]; congr 1; omega⟩)
  rw [rng_len] at d
  refine ⟨M, ?_, d⟩
  simp [f__law_digits, fnB, g__law_digits, retF, sSeq, contK, sIf, sAsg, sRet, sRetN, sExpr, sPar, sNil, gN, gSb, gT, gsNil, gsCons, eVar, eLit, eOp, eUn, eArgs, aNil, aCons, eIf, eAnd, eOr, eNot, tTru, tOp', tOfE, eChain, chainK, tNot', tAnd', tOr', ordD, addD, subD, negD, gcdD, mkTup, truD, blV, gcT_self, gcD_self, gcF_self, sizeLine_eq, mkLst, sFor, iRg2, rg2, e]
end K46
end Dw

namespace Dw
namespace K46
open PySem PySem.Spec PyProof.Rows L2
theorem ipos {i : Int} (h : 0 < i) : (0 : Rat) < (i : Rat) := by exact_mod_cast h
/-! the law: slopes -/
theorem gcO_len {m m' : Mem} {o : Option D} (h : m'.length = m.length) : gcO m (.ok o m') = .ok o m' := gcR_same h
theorem gcT_len {m m' : Mem} {b : Bool} (h : m'.length = m.length) : gcT m (.ok b m') = .ok b m' := gcR_same h
theorem st10 {M : Mem} {b d n : Nat} {s0 s2 s3 s4 s5 s6 s7 s8 s9 sa sb : Option D} (h : Bx M b d n) (hn : n + 6 < 1000000) : ∃ (p q r : Rat) (M' g : Mem), g_law_10 [s0, some (.ref b), s2, s3, s4, s5, s6, s7, s8, s9, sa, sb] M = .ok (.nx [s0, some (.ref b), s2, some (.tup [fr p, fr q, fr r]), s4, s5, s6, s7, s8, s9, sa, sb]) (M' ++ g) ∧ Bx M' b d (n + 6) ∧ Same M M' b ∧ 0 < p ∧ 0 < q ∧ 0 < r ∧ sz 3 p ∧ sz 3 q ∧ sz 3 r := by
  obtain ⟨p, M1, e1, p0, pz, b1, s1⟩ := c_slope h (by omega)
  obtain ⟨q, M2, e2, q0, qz, b2, s2'⟩ := c_slope b1 (by omega)
  obtain ⟨r, M3, e3, r0, rz, b3, s3'⟩ := c_slope b2 (by omega)
  refine ⟨p, q, r, M3, [.lst [fr p, fr q, fr r]], ?_, b3, (s1.trans s2').trans s3', p0, q0, r0, pz, qz, rz⟩
  have rg : rngD 0 3 = [.int 0, .int 1, .int 2] := rfl
  have tu : tupleD [.ref M3.length] (M3 ++ [.lst [fr p, fr q, fr r]]) = some (.tup [fr p, fr q, fr r], M3 ++ [.lst [fr p, fr q, fr r]]) := by simp [tupleD, lstOf]
  simp [g_law_10, retF, sSeq, contK, sIf, sAsg, sRet, sRetN, sExpr, sPar, sNil, gN, gSb, gT, gsNil, gsCons, eVar, eLit, eOp, eUn, eArgs, aNil, aCons, eIf, eAnd, eOr, eNot, tTru, tOp', tOfE, eChain, chainK, tNot', tAnd', tOr', ordD, addD, subD, negD, gcdD, mkTup, truD, blV, gcT_self, gcD_self, gcF_self, sizeLine_eq, eComp, iRg1, rg, compG_nil, compG_cons, turnC, wipeE, tYes', eCall, e1, e2, e3, gcO_len s1.len, gcO_len s2'.len, gcO_len s3'.len, keepD, R.noexc, tu]
theorem frac_999983 (s : Int) (h : s = 0 ∨ s = 1) : D.tup [.int 999983, .int (1 + s)] = fr ((999983 : Rat) / ((1 + s : Int) : Rat)) := by
  have e : fr (((999983 : Int) : Rat) / ((1 + s : Int) : Rat)) = _ := fr_div (t := 999983) (b := 1 + s) (by omega)
  rw [show ((999983 : Int) : Rat) = (999983 : Rat) from rfl] at e
  rw [e]
  rcases h with rfl | rfl <;> rfl
theorem st11 {M : Mem} {b d n : Nat} {p q r : Rat} {s0 s2 s4 s5 s6 s7 s8 s9 sa sb : Option D} (h : Bx M b d n) (hn : n + 3 < 1000000) (p0 : 0 < p) (q0 : 0 < q) (r0 : 0 < r) (pz : sz 3 p) (qz : sz 3 q) (rz : sz 3 r) :
    ∃ (p' q' r' : Rat) (M' : Mem), g_law_11 [s0, some (.ref b), s2, some (.tup [fr p, fr q, fr r]), s4, s5, s6, s7, s8, s9, sa, sb] M = .ok (.nx [s0, some (.ref b), s2, some (.tup [fr p', fr q', fr r']), s4, s5, s6, s7, s8, s9, sa, sb]) M' ∧ Bx M' b d (n + 3) ∧ Same M M' b ∧ 0 < p' ∧ 0 < q' ∧ 0 < r' ∧ sz 20 p' ∧ sz 20 q' ∧ sz 20 r' := by
  obtain ⟨t, M1, e1, t0, t1, b1, s1⟩ := c_draw (many := 4) h (by omega) (by omega)
  by_cases ht : t = 0
  · subst ht
    obtain ⟨u, M2, e2, u0, u1, b2, s2'⟩ := c_draw (many := 1008) b1 (by omega) (by omega)
    obtain ⟨v, M3, e3, v0, v1, b3, s3'⟩ := c_draw (many := 2) b2 (by omega) (by omega)
    obtain ⟨w, ew⟩ : ∃ w : Rat, w = ((1 + u : Int) : Rat) / ((1009 : Int) : Rat) := ⟨_, rfl⟩
    have fq : ∀ m, callD 2 f__law_frac [.int (1 + u), .int 1009] m = .ok (fr w) m := fun m => by rw [ew]; exact c_frac (t := 1 + u) (b := 1009) (m := m) (j := 10) (by omega) (by omega) (by omega)
    obtain ⟨z, ez⟩ : ∃ z : Rat, z = (999983 : Rat) / ((1 + v : Int) : Rat) := ⟨_, rfl⟩
    have fz := frac_999983 v (by omega)
    rw [← ez] at fz
    have w0 : 0 < w := by
      rw [ew, Rat.div_def]
      have h1 : (0 : Rat) < ((1 + u : Int) : Rat) := ipos (by omega)
      have h2 : (0 : Rat) < ((1009 : Int) : Rat) := ipos (by omega)
      exact Rat.mul_pos h1 (Rat.inv_pos.mpr h2)
    have z0 : 0 < z := by
      rw [ez, Rat.div_def]
      have h1 : (0 : Rat) < ((999983 : Int) : Rat) := ipos (by omega)
      have h2 : (0 : Rat) < ((1 + v : Int) : Rat) := ipos (by omega)
      exact Rat.mul_pos h1 (Rat.inv_pos.mpr h2)
    have wz : sz 20 w := by rw [ew]; exact sz_div (by omega) (n := 20) (k := 20) (by omega) (by omega) (Nat.le_refl _) (Nat.le_refl _)
    have zz : sz 20 z := by rw [ez]; exact sz_div (t := 999983) (by omega) (n := 20) (k := 20) (by omega) (by omega) (Nat.le_refl _) (Nat.le_refl _)
    refine ⟨w, p, z, M3, ?_, b3, (s1.trans s2').trans s3', w0, p0, z0, wz, pz.mono (by omega), zz⟩
    have x0 : ixD (.tup [fr p, fr q, fr r]) (.int 0) M2 = some (fr p, M2) := rfl
    simp [g_law_11, g_law_1, retF, sSeq, contK, sIf, sAsg, sRet, sRetN, sExpr, sPar, sNil, gN, gSb, gT, gsNil, gsCons, eVar, eLit, eOp, eUn, eArgs, aNil, aCons, eIf, eAnd, eOr, eNot, tTru, tOp', tOfE, eChain, chainK, tNot', tAnd', tOr', ordD, addD, subD, negD, gcdD, mkTup, truD, blV, gcT_self, gcD_self, gcF_self, sizeLine_eq, eCall, e1, eqD_int, gcT_len s1.len, e2, fq, x0, e3, fz]
  · refine ⟨p, q, r, M1, ?_, b1.mono (by omega), s1, p0, q0, r0, pz.mono (by omega), qz.mono (by omega), rz.mono (by omega)⟩
    simp [g_law_11, retF, sSeq, contK, sIf, sAsg, sRet, sRetN, sExpr, sPar, sNil, gN, gSb, gT, gsNil, gsCons, eVar, eLit, eOp, eUn, eArgs, aNil, aCons, eIf, eAnd, eOr, eNot, tTru, tOp', tOfE, eChain, chainK, tNot', tAnd', tOr', ordD, addD, subD, negD, gcdD, mkTup, truD, blV, gcT_self, gcD_self, gcF_self, sizeLine_eq, eCall, e1, eqD_int, gcT_len s1.len, ht]
/-- the three that are judged -/
theorem st12 {M : Mem} {p q r : Rat} {s0 s1 s2 s4 s5 s6 s7 s8 s9 sa sb : Option D} (p0 : 0 < p) (q0 : 0 < q) (r0 : 0 < r) (pz : sz 20 p) (qz : sz 20 q) (rz : sz 20 r) :
    g_law_12 [s0, s1, s2, some (.tup [fr p, fr q, fr r]), s4, s5, s6, s7, s8, s9, sa, sb] M = .ok (.nx [s0, s1, s2, some (.tup [fr p, fr q, fr r]), some (.tup [fr (q * r / (p + q + r)), fr (p * r / (p + q + r)), fr (p * q / (p + q + r))]), some (.tup [fr ((p * q + q * r + p * r) / p), fr ((p * q + q * r + p * r) / q), fr ((p * q + q * r + p * r) / r)]), s6, s7, s8, s9, sa, sb]) M := by
  have a1 := c_mesh (m := M) pz qz rz p0 q0 r0 (by omega)
  have a2 := c_star (m := M) pz qz rz p0 q0 r0 (by omega)
  simp [g_law_12, retF, sSeq, contK, sIf, sAsg, sRet, sRetN, sExpr, sPar, sNil, gN, gSb, gT, gsNil, gsCons, eVar, eLit, eOp, eUn, eArgs, aNil, aCons, eIf, eAnd, eOr, eNot, tTru, tOp', tOfE, eChain, chainK, tNot', tAnd', tOr', ordD, addD, subD, negD, gcdD, mkTup, truD, blV, gcT_self, gcD_self, gcF_self, sizeLine_eq, eCall, a1, a2]
theorem szs {p q r : Rat} (p0 : 0 < p) (q0 : 0 < q) (r0 : 0 < r) (pz : sz 20 p) (qz : sz 20 q) (rz : sz 20 r) :
    (sz 102 (q * r / (p + q + r)) ∧ sz 102 (p * r / (p + q + r)) ∧ sz 102 (p * q / (p + q + r))) ∧ (sz 143 ((p * q + q * r + p * r) / p) ∧ sz 143 ((p * q + q * r + p * r) / q) ∧ sz 143 ((p * q + q * r + p * r) / r)) := by
  have h1 := sz_plus (sz_plus pz qz) rz
  have hs : 0 < p + q + r := by grind
  have z1 := sz_times pz qz (by omega)
  have z2 := sz_times qz rz (by omega)
  have z3 := sz_times pz rz (by omega)
  have w2 := sz_plus (sz_plus z1 z2) z3
  exact ⟨⟨(sz_over z2 h1 hs).mono (by omega), (sz_over z3 h1 hs).mono (by omega), (sz_over z1 h1 hs).mono (by omega)⟩, ⟨(sz_over w2 pz p0).mono (by omega), (sz_over w2 qz q0).mono (by omega), (sz_over w2 rz r0).mono (by omega)⟩⟩
theorem st13 {M : Mem} {a b c x y z : Rat} {s0 s1 s2 s3 s6 s7 s8 s9 sa sb : Option D} (az : sz 143 a) (bz : sz 143 b) (cz : sz 143 c) (xz : sz 143 x) (yz : sz 143 y) (zz : sz 143 z) :
    g_law_13 [s0, s1, s2, s3, some (.tup [fr a, fr b, fr c]), some (.tup [fr x, fr y, fr z]), s6, s7, s8, s9, sa, sb] M = .ok (.nx [s0, s1, s2, s3, some (.tup [fr a, fr b, fr c]), some (.tup [fr x, fr y, fr z]), s6, s7, s8, s9, sa, sb]) M := by
  have r1 := l_row (m := M) az bz cz (by omega)
  have r2 := l_row (m := M) xz yz zz (by omega)
  simp [g_law_13, retF, sSeq, contK, sIf, sAsg, sRet, sRetN, sExpr, sPar, sNil, gN, gSb, gT, gsNil, gsCons, eVar, eLit, eOp, eUn, eArgs, aNil, aCons, eIf, eAnd, eOr, eNot, tTru, tOp', tOfE, eChain, chainK, tNot', tAnd', tOr', ordD, addD, subD, negD, gcdD, mkTup, truD, blV, gcT_self, gcD_self, gcF_self, sizeLine_eq, eCall, r1, r2]
theorem pos3 {p q r : Rat} (p0 : 0 < p) (q0 : 0 < q) (r0 : 0 < r) : 0 < (p * q + q * r + p * r) ∧ 0 < p + q + r ∧ 0 < p * q ∧ 0 < q * r ∧ 0 < p * r := by
  have h1 := Rat.mul_pos p0 q0
  have h2 := Rat.mul_pos q0 r0
  have h3 := Rat.mul_pos p0 r0
  exact ⟨by grind, by grind, h1, h2, h3⟩
theorem div_pos {p q : Rat} (p0 : 0 < p) (q0 : 0 < q) : 0 < p / q := by rw [Rat.div_def]; exact Rat.mul_pos p0 (Rat.inv_pos.mpr q0)
/-- one turn of the inner loop, its two tests -/
theorem turn_in {M : Mem} {S A Bm : List D} {k i j : Nat} {pk pi pj ai aj bk bi bj : Rat} {s0 s1 s2 o6 o7 o8 s9 sa sb : Option D}
    (Sk : S[k]? = some (fr pk)) (Si : S[i]? = some (fr pi)) (Sj : S[j]? = some (fr pj)) (Ai : A[i]? = some (fr ai)) (Aj : A[j]? = some (fr aj)) (Bk : Bm[k]? = some (fr bk)) (Bi : Bm[i]? = some (fr bi)) (Bj : Bm[j]? = some (fr bj))
    (hi : ((k : Int) + 1) % 3 = i) (hj : ((k : Int) + 2) % 3 = j) (pkz : sz 20 pk) (piz : sz 20 pi) (pjz : sz 20 pj) (aiz : sz 102 ai) (ajz : sz 102 aj) (bkz : sz 143 bk) (biz : sz 143 bi) (bjz : sz 143 bj)
    (pk0 : 0 < pk) (pi0 : 0 < pi) (pj0 : 0 < pj) (bk0 : 0 < bk) (bi0 : 0 < bi) (bj0 : 0 < bj) (e1 : ai + aj = 1 / (1 / pk + 1 / (pi + pj))) (e2 : pi + pj = 1 / (1 / bk + 1 / (bi + bj))) :
    gcF M ((gN 6 (.int k) [s0, s1, s2, some (.tup S), some (.tup A), some (.tup Bm), o6, o7, o8, s9, sa, sb] M).bind fun ρ1 m1 => g_law_5 ρ1 m1) = .ok (.nx [s0, s1, s2, some (.tup S), some (.tup A), some (.tup Bm), some (.int k), some (.int i), some (.int j), s9, sa, sb]) M := by
  have ix : ∀ (L : List D) (n : Nat) (d : D), L[n]? = some d → ixD (.tup L) (.int n) M = some (d, M) := fun L n d h => by simp [ixD, atI_nat, h]
  have a1 := l_plus (m := M) aiz ajz (by omega)
  have a2 := l_plus (m := M) piz pjz (by omega)
  have a3 := l_plus (m := M) biz bjz (by omega)
  have g1 := l_beside (m := M) pkz (sz_plus piz pjz) pk0 (by grind) (by omega)
  have g2 := l_beside (m := M) bkz (sz_plus biz bjz) bk0 (by grind) (by omega)
  have q1 := same_fr (m := M) e1 (sz_plus aiz ajz) (by omega) (by omega)
  have q2 := same_fr (m := M) e2 (sz_plus piz pjz) (by omega) (by omega)
  simp [g_law_5, g_law_2, g_law_3, g_law_4, retF, sSeq, contK, sIf, sAsg, sRet, sRetN, sExpr, sPar, sNil, gN, gSb, gT, gsNil, gsCons, eVar, eLit, eOp, eUn, eArgs, aNil, aCons, eIf, eAnd, eOr, eNot, tTru, tOp', tOfE, eChain, chainK, tNot', tAnd', tOr', ordD, addD, subD, negD, gcdD, mkTup, truD, blV, gcT_self, gcD_self, gcF_self, sizeLine_eq, intD, modD, hi, hj, eCall, ix _ _ _ Sk, ix _ _ _ Si, ix _ _ _ Sj, ix _ _ _ Ai, ix _ _ _ Aj, ix _ _ _ Bk, ix _ _ _ Bi, ix _ _ _ Bj, a1, a2, a3, g1, g2, q1, q2]
end K46
end Dw

namespace Dw
namespace K46
open PySem PySem.Spec PyProof.Rows L2
theorem id1 {p q r S : Rat} (p0 : 0 < p) (q0 : 0 < q) (r0 : 0 < r) (hS : S = p + q + r) : p * r / S + p * q / S = 1 / (1 / p + 1 / (q + r)) := by
  have h1 : p + (q + r) ≠ 0 := by grind
  have h2 : q + r ≠ 0 := by grind
  have h3 : p ≠ 0 := by grind
  have h5 : p * (q + r) ≠ 0 := by grind
  have h4 : 1 / p + 1 / (q + r) = (p + (q + r)) / (p * (q + r)) := by grind
  have h6 : S ≠ 0 := by grind
  rw [h4]
  grind
theorem id2 {p q r Q : Rat} (p0 : 0 < p) (q0 : 0 < q) (r0 : 0 < r) (Q0 : 0 < Q) (hQ : Q = p * (q + r) + q * r) : q + r = 1 / (1 / (Q / p) + 1 / (Q / q + Q / r)) := by
  have a1 : p ≠ 0 := by grind
  have a2 : q ≠ 0 := by grind
  have a3 : r ≠ 0 := by grind
  have a4 : Q ≠ 0 := by grind
  have a5 : q + r ≠ 0 := by grind
  have b1 : 1 / (Q / p) = p / Q := by grind
  have b2 : Q / q + Q / r = Q * (q + r) / (q * r) := by grind
  have a6 : q * r ≠ 0 := by grind
  have a7 : Q * (q + r) ≠ 0 := by grind
  have b3 : 1 / (Q * (q + r) / (q * r)) = q * r / (Q * (q + r)) := by grind
  have b4 : p / Q + q * r / (Q * (q + r)) = 1 / (q + r) := by grind
  rw [b1, b2, b3, b4]
  grind
theorem id3 {p q r S : Rat} (p0 : 0 < p) (q0 : 0 < q) (r0 : 0 < r) (S0 : 0 < S) (hS : S = p + q + r) : (q * r / S * (p * r / S) + p * r / S * (p * q / S) + q * r / S * (p * q / S)) / (q * r / S) = p := by
  have a1 : p ≠ 0 := by grind
  have a2 : q ≠ 0 := by grind
  have a3 : r ≠ 0 := by grind
  have a4 : S ≠ 0 := by grind
  have b1 : q * r / S * (p * r / S) + p * r / S * (p * q / S) + q * r / S * (p * q / S) = p * q * r / S := by grind
  have a6 : q * r ≠ 0 := by grind
  have a7 : q * r / S ≠ 0 := by grind
  rw [b1]
  grind
theorem id4 {p q r Q : Rat} (p0 : 0 < p) (q0 : 0 < q) (r0 : 0 < r) (Q0 : 0 < Q) (hQ : Q = p * q + q * r + p * r) : Q / q * (Q / r) / (Q / p + Q / q + Q / r) = p := by
  have a1 : p ≠ 0 := by grind
  have a2 : q ≠ 0 := by grind
  have a3 : r ≠ 0 := by grind
  have a4 : Q ≠ 0 := by grind
  have a5 : p * q * r ≠ 0 := by grind
  have b1 : Q / p + Q / q + Q / r = Q * Q / (p * q * r) := by grind
  have b2 : Q / q * (Q / r) = Q * Q / (q * r) := by grind
  have a6 : q * r ≠ 0 := by grind
  have a7 : Q * Q ≠ 0 := by grind
  have a8 : Q * Q / (p * q * r) ≠ 0 := by grind
  rw [b1, b2]
  grind
theorem id3b {p q r S : Rat} (p0 : 0 < p) (q0 : 0 < q) (r0 : 0 < r) (S0 : 0 < S) (hS : S = p + q + r) : (q * r / S * (p * r / S) + p * r / S * (p * q / S) + q * r / S * (p * q / S)) / (p * r / S) = q := by
  have a1 : p ≠ 0 := by grind
  have a2 : q ≠ 0 := by grind
  have a3 : r ≠ 0 := by grind
  have a4 : S ≠ 0 := by grind
  have b1 : q * r / S * (p * r / S) + p * r / S * (p * q / S) + q * r / S * (p * q / S) = p * q * r / S := by grind
  have a6 : p * r ≠ 0 := by grind
  have a7 : p * r / S ≠ 0 := by grind
  rw [b1]
  grind
theorem id3c {p q r S : Rat} (p0 : 0 < p) (q0 : 0 < q) (r0 : 0 < r) (S0 : 0 < S) (hS : S = p + q + r) : (q * r / S * (p * r / S) + p * r / S * (p * q / S) + q * r / S * (p * q / S)) / (p * q / S) = r := by
  have a1 : p ≠ 0 := by grind
  have a2 : q ≠ 0 := by grind
  have a3 : r ≠ 0 := by grind
  have a4 : S ≠ 0 := by grind
  have b1 : q * r / S * (p * r / S) + p * r / S * (p * q / S) + q * r / S * (p * q / S) = p * q * r / S := by grind
  have a6 : p * q ≠ 0 := by grind
  have a7 : p * q / S ≠ 0 := by grind
  rw [b1]
  grind
theorem id4' {p q r Q : Rat} (p0 : 0 < p) (q0 : 0 < q) (r0 : 0 < r) (Q0 : 0 < Q) (hQ : Q = p * q + q * r + p * r) : Q / p + Q / q + Q / r = Q * Q / (p * q * r) ∧ Q * Q / (p * q * r) ≠ 0 ∧ p * q * r ≠ 0 ∧ p ≠ 0 ∧ q ≠ 0 ∧ r ≠ 0 ∧ Q * Q ≠ 0 := by
  have a1 : p ≠ 0 := by grind
  have a2 : q ≠ 0 := by grind
  have a3 : r ≠ 0 := by grind
  have a4 : Q ≠ 0 := by grind
  have a5 : p * q * r ≠ 0 := by grind
  have b1 : Q / p + Q / q + Q / r = Q * Q / (p * q * r) := by grind
  have a7 : Q * Q ≠ 0 := by grind
  have a8 : Q * Q / (p * q * r) ≠ 0 := by grind
  exact ⟨b1, a8, a5, a1, a2, a3, a7⟩
theorem id4b {p q r Q : Rat} (p0 : 0 < p) (q0 : 0 < q) (r0 : 0 < r) (Q0 : 0 < Q) (hQ : Q = p * q + q * r + p * r) : Q / p * (Q / r) / (Q / p + Q / q + Q / r) = q := by
  obtain ⟨b1, a8, a5, a1, a2, a3, a7⟩ := id4' p0 q0 r0 Q0 hQ
  have b2 : Q / p * (Q / r) = Q * Q / (p * r) := by grind
  have a6 : p * r ≠ 0 := by grind
  rw [b1, b2]
  grind
theorem id4c {p q r Q : Rat} (p0 : 0 < p) (q0 : 0 < q) (r0 : 0 < r) (Q0 : 0 < Q) (hQ : Q = p * q + q * r + p * r) : Q / p * (Q / q) / (Q / p + Q / q + Q / r) = r := by
  obtain ⟨b1, a8, a5, a1, a2, a3, a7⟩ := id4' p0 q0 r0 Q0 hQ
  have b2 : Q / p * (Q / q) = Q * Q / (p * q) := by grind
  have a6 : p * q ≠ 0 := by grind
  rw [b1, b2]
  grind
theorem id1b {p q r S : Rat} (p0 : 0 < p) (q0 : 0 < q) (r0 : 0 < r) (hS : S = p + q + r) : p * q / S + q * r / S = 1 / (1 / q + 1 / (r + p)) := by
  have e := q0
  have h1 : q + (r + p) ≠ 0 := by grind
  have h2 : r + p ≠ 0 := by grind
  have h3 : q ≠ 0 := by grind
  have h5 : q * (r + p) ≠ 0 := by grind
  have h4 : 1 / q + 1 / (r + p) = (q + (r + p)) / (q * (r + p)) := by grind
  have h6 : S ≠ 0 := by grind
  rw [h4]
  grind
theorem id1c {p q r S : Rat} (p0 : 0 < p) (q0 : 0 < q) (r0 : 0 < r) (hS : S = p + q + r) : q * r / S + p * r / S = 1 / (1 / r + 1 / (p + q)) := by
  have h1 : r + (p + q) ≠ 0 := by grind
  have h2 : p + q ≠ 0 := by grind
  have h3 : r ≠ 0 := by grind
  have h5 : r * (p + q) ≠ 0 := by grind
  have h4 : 1 / r + 1 / (p + q) = (r + (p + q)) / (r * (p + q)) := by grind
  have h6 : S ≠ 0 := by grind
  rw [h4]
  grind
theorem loop_in {M : Mem} {p q r : Rat} {s0 s1 s2 o6 o7 o8 s9 sa sb : Option D} (p0 : 0 < p) (q0 : 0 < q) (r0 : 0 < r) (pz : sz 20 p) (qz : sz 20 q) (rz : sz 20 r) :
    forG [] (gN 6) g_law_5 (rngD 0 3) [s0, s1, s2, some (.tup [fr p, fr q, fr r]), some (.tup [fr (q * r / (p + q + r)), fr (p * r / (p + q + r)), fr (p * q / (p + q + r))]), some (.tup [fr ((p * q + q * r + p * r) / p), fr ((p * q + q * r + p * r) / q), fr ((p * q + q * r + p * r) / r)]), o6, o7, o8, s9, sa, sb] M = .ok (.nx [s0, s1, s2, some (.tup [fr p, fr q, fr r]), some (.tup [fr (q * r / (p + q + r)), fr (p * r / (p + q + r)), fr (p * q / (p + q + r))]), some (.tup [fr ((p * q + q * r + p * r) / p), fr ((p * q + q * r + p * r) / q), fr ((p * q + q * r + p * r) / r)]), some (.int (2 : Nat)), some (.int (0 : Nat)), some (.int (1 : Nat)), s9, sa, sb]) M := by
  obtain ⟨⟨az, bz, cz⟩, xz, yz, zz⟩ := szs p0 q0 r0 pz qz rz
  obtain ⟨Q0, S0, _, _, _⟩ := pos3 p0 q0 r0
  have x0 := div_pos Q0 p0
  have y0 := div_pos Q0 q0
  have z0 := div_pos Q0 r0
  have rg : rngD 0 3 = [.int (0 : Nat), .int (1 : Nat), .int (2 : Nat)] := rfl
  rw [rg, forG_cons, turn_in (k := 0) (i := 1) (j := 2) rfl rfl rfl rfl rfl rfl rfl rfl rfl rfl pz qz rz bz cz xz yz zz p0 q0 r0 x0 y0 z0 (id1 p0 q0 r0 rfl) (id2 p0 q0 r0 Q0 (by grind)), R.bind_ok]
  dsimp only
  rw [forG_cons, turn_in (k := 1) (i := 2) (j := 0) rfl rfl rfl rfl rfl rfl rfl rfl rfl rfl qz rz pz cz az yz zz xz q0 r0 p0 y0 z0 x0 (id1b p0 q0 r0 rfl) (id2 q0 r0 p0 Q0 (by grind)), R.bind_ok]
  dsimp only
  rw [forG_cons, turn_in (k := 2) (i := 0) (j := 1) rfl rfl rfl rfl rfl rfl rfl rfl rfl rfl rz pz qz az bz zz xz yz r0 p0 q0 z0 x0 y0 (id1c p0 q0 r0 rfl) (id2 r0 p0 q0 Q0 (by grind)), R.bind_ok]
  dsimp only
  rw [forG_nil]
theorem st14 {M : Mem} {p q r : Rat} {s0 s1 s2 o6 o7 o8 s9 sa sb : Option D} (p0 : 0 < p) (q0 : 0 < q) (r0 : 0 < r) (pz : sz 20 p) (qz : sz 20 q) (rz : sz 20 r) :
    g_law_14 [s0, s1, s2, some (.tup [fr p, fr q, fr r]), some (.tup [fr (q * r / (p + q + r)), fr (p * r / (p + q + r)), fr (p * q / (p + q + r))]), some (.tup [fr ((p * q + q * r + p * r) / p), fr ((p * q + q * r + p * r) / q), fr ((p * q + q * r + p * r) / r)]), o6, o7, o8, s9, sa, sb] M = .ok (.nx [s0, s1, s2, some (.tup [fr p, fr q, fr r]), some (.tup [fr (q * r / (p + q + r)), fr (p * r / (p + q + r)), fr (p * q / (p + q + r))]), some (.tup [fr ((p * q + q * r + p * r) / p), fr ((p * q + q * r + p * r) / q), fr ((p * q + q * r + p * r) / r)]), o6, o7, o8, s9, sa, sb]) M := by
  obtain ⟨⟨az, bz, cz⟩, xz, yz, zz⟩ := szs p0 q0 r0 pz qz rz
  obtain ⟨Q0, S0, h1, h2, h3⟩ := pos3 p0 q0 r0
  have x0 := div_pos Q0 p0
  have y0 := div_pos Q0 q0
  have z0 := div_pos Q0 r0
  have a0 := div_pos h2 S0
  have b0 := div_pos h3 S0
  have c0 := div_pos h1 S0
  have e1 := c_star (m := M) az bz cz a0 b0 c0 (by omega)
  have e2 := c_mesh (m := M) xz yz zz x0 y0 z0 (by omega)
  obtain ⟨S, hS⟩ : ∃ S, S = p + q + r := ⟨_, rfl⟩
  obtain ⟨Q, hQ⟩ : ∃ Q, Q = p * q + q * r + p * r := ⟨_, rfl⟩
  rw [← hS] at S0 e1
  rw [← hQ] at Q0 e2
  have i1 := id3 p0 q0 r0 S0 hS
  have i2 := id3b p0 q0 r0 S0 hS
  have i3 := id3c p0 q0 r0 S0 hS
  have j1 := id4 p0 q0 r0 Q0 hQ
  have j2 := id4b p0 q0 r0 Q0 hQ
  have j3 := id4c p0 q0 r0 Q0 hQ
  rw [i1, i2, i3] at e1
  rw [j1, j2, j3] at e2
  have sm := same_3 (m := M) (p := p) (q := q) (r := r) rfl rfl rfl pz qz rz (by omega) (by omega)
  rw [← hS, ← hQ]
  simp [g_law_14, retF, sSeq, contK, sIf, sAsg, sRet, sRetN, sExpr, sPar, sNil, gN, gSb, gT, gsNil, gsCons, eVar, eLit, eOp, eUn, eArgs, aNil, aCons, eIf, eAnd, eOr, eNot, tTru, tOp', tOfE, eChain, chainK, tNot', tAnd', tOr', ordD, addD, subD, negD, gcdD, mkTup, truD, blV, gcT_self, gcD_self, gcF_self, sizeLine_eq, eCall, e1, e2, sm]
/-! what is refused -/
abbrev x01 : D := .tup [.int 0, .int 1]
def odds (L : Nat) (x y z : D) : List D := [.non, .ref L, .tup [x, y], .tup [x, y, z, x], .tup [x, y, .tup [.int 0, .int 1]], .tup [x, y, .tup [.int (-1), .int 2]], .tup [.tup [.int 2, .int 4], y, z], .tup [.int 1, y, z], .tup [.non, y, z], .tup [.tup [.bl true, .int 1], y, z]]
theorem sl2 {x y z : D} {m : Mem} : slD (.tup [x, y, z]) none (some 2) m = some (.tup [x, y], m) := rfl
theorem sl1 {x y z : D} {m : Mem} : slD (.tup [x, y, z]) none (some 1) m = some (.tup [x], m) := rfl
theorem sl3 {x y z : D} {m : Mem} : slD (.tup [x, y, z]) (some 1) none m = some (.tup [y, z], m) := rfl
theorem st15 {M : Mem} {x y z : D} {s0 s1 s2 s4 s5 s6 s7 s8 s9 sa sb : Option D} :
    g_law_15 [s0, s1, s2, some (.tup [x, y, z]), s4, s5, s6, s7, s8, s9, sa, sb] M = .ok (.nx [s0, s1, s2, some (.tup [x, y, z]), s4, s5, s6, s7, s8, some (.tup (odds M.length x y z)), sa, sb]) (M ++ [.lst [x, y, z]]) := by
  simp [g_law_15, retF, sSeq, contK, sIf, sAsg, sRet, sRetN, sExpr, sPar, sNil, gN, gSb, gT, gsNil, gsCons, eVar, eLit, eOp, eUn, eArgs, aNil, aCons, eIf, eAnd, eOr, eNot, tTru, tOp', tOfE, eChain, chainK, tNot', tAnd', tOr', ordD, addD, subD, negD, gcdD, mkTup, truD, blV, gcT_self, gcD_self, gcF_self, sizeLine_eq, listD, eSl, oNone, oSome, sl1, sl2, sl3, odds]
theorem fr_two (q : Rat) : fr q = .tup [.int q.num, .int (q.den : Int)] := rfl
theorem odd_bad {M : Mem} {L : Nat} {p q r : Rat} (hL : ∃ xs, M[L]? = some (.lst xs)) (p0 : 0 < p) (q0 : 0 < q) (r0 : 0 < r) : ∀ o ∈ odds L (fr p) (fr q) (fr r), callD 1 f_check_three [o] M = bad3 M := by
  intro o ho
  simp only [odds, List.mem_cons, List.not_mem_nil, or_false] at ho
  have sp := sl_fr p0
  have sq := sl_fr q0
  have sr := sl_fr r0
  rcases ho with rfl | rfl | rfl | rfl | rfl | rfl | rfl | rfl | rfl | rfl
  · exact ck_non
  · obtain ⟨xs, h⟩ := hL; exact ck_ref h
  · exact ck_len (.inl rfl)
  · exact ck_len (.inr rfl)
  · rw [ck_three sp sq (sl_two 0 1)]; rfl
  · rw [ck_three sp sq (sl_two (-1) 2)]; rfl
  · rw [ck_three (sl_two 2 4) sq sr]; rfl
  · rw [ck_three (sl_int 1) sq sr]; rfl
  · rw [ck_three sl_non sq sr]; rfl
  · rw [ck_three (sl_bl true 1) sq sr]; rfl
abbrev msg1 : List D := [.str (PySem.Str.ofString "bad value"), .str (PySem.Str.ofString "slopes")]
theorem told_bad {g : G} {ρ : Env} {M : Mem} (h : g ρ M = bad3 M) : eTold told_l g ρ M = .ok (.ref M.length) (M ++ [.lst msg1]) := by
  unfold eTold
  rw [h]
  rfl
def pMsg : PyData := .list [.list [.str (PySem.Str.ofString "bad value"), .str (PySem.Str.ofString "slopes")], .list [.str (PySem.Str.ofString "bad value"), .str (PySem.Str.ofString "slopes")]]
theorem toP_two {m : Mem} {n a b : Nat} (h : m[n]? = some (.lst [.ref a, .ref b])) (ha : m[a]? = some (.lst msg1)) (hb : m[b]? = some (.lst msg1)) : toP 66 m (.ref n) = some pMsg := by
  have one : ∀ a, m[a]? = some (.lst msg1) → toP 65 m (.ref a) = some (.list [.str (PySem.Str.ofString "bad value"), .str (PySem.Str.ofString "slopes")]) := fun a h => by
    unfold toP
    simp [h, toP]
  unfold toP
  simp [h, one a ha, one b hb, pMsg]
theorem neD_msg {m : Mem} {n k a b c d : Nat} (h : m[n]? = some (.lst [.ref a, .ref b])) (ha : m[a]? = some (.lst msg1)) (hb : m[b]? = some (.lst msg1)) (h' : m[k]? = some (.lst [.ref c, .ref d])) (hc : m[c]? = some (.lst msg1)) (hd : m[d]? = some (.lst msg1)) : neD (.ref n) (.ref k) m = some (.bl false, m) := by
  unfold neD eqvD
  simp only [toP_two h ha hb, toP_two h' hc hd]
  rw [if_pos ⟨by decide +kernel, by decide +kernel⟩, show PyData.eqv pMsg pMsg = true by decide +kernel]
  rfl
theorem told_turn {M : Mem} {o : D} {s0 s1 s2 s3 s4 s5 s6 s7 s8 s9 sa sb : Option D} (h1 : callD 1 f_check_three [o] M = bad3 M) (h2 : ∀ g, callD 1 f_check_three [o] (M ++ g) = bad3 (M ++ g)) :
    ∃ g, ((gN 10 o [s0, s1, s2, s3, s4, s5, s6, s7, s8, s9, sa, sb] M).bind fun ρ1 m1 => g_law_9 ρ1 m1) = .ok (.nx [s0, s1, s2, s3, s4, s5, s6, s7, s8, s9, some o, some (.ref (M.length + 1))]) (M ++ g) := by
  have t1 : eTold told_l (eCall 1 f_mesh_to_star (aCons (eVar 10) aNil)) [s0, s1, s2, s3, s4, s5, s6, s7, s8, s9, some o, sb] M = .ok (.ref M.length) (M ++ [.lst msg1]) := told_bad (by simp [eCall, retF, sSeq, contK, sIf, sAsg, sRet, sRetN, sExpr, sPar, sNil, gN, gSb, gT, gsNil, gsCons, eVar, eLit, eOp, eUn, eArgs, aNil, aCons, eIf, eAnd, eOr, eNot, tTru, tOp', tOfE, eChain, chainK, tNot', tAnd', tOr', ordD, addD, subD, negD, gcdD, mkTup, truD, blV, gcT_self, gcD_self, gcF_self, sizeLine_eq, mesh_bad h1])
  have e6 : g_law_6 [s0, s1, s2, s3, s4, s5, s6, s7, s8, s9, some o, sb] M = .ok (.nx [s0, s1, s2, s3, s4, s5, s6, s7, s8, s9, some o, some (.ref (M.length + 1))]) (M ++ [.lst msg1, .lst [.ref M.length]]) := by
    simp [g_law_6, retF, sSeq, contK, sIf, sAsg, sRet, sRetN, sExpr, sPar, sNil, gN, gSb, gT, gsNil, gsCons, eVar, eLit, eOp, eUn, eArgs, aNil, aCons, eIf, eAnd, eOr, eNot, tTru, tOp', tOfE, eChain, chainK, tNot', tAnd', tOr', ordD, addD, subD, negD, gcdD, mkTup, truD, blV, gcT_self, gcD_self, gcF_self, sizeLine_eq, t1, mkLst]
  have t2 : eTold told_l (eCall 1 f_star_to_mesh (aCons (eVar 10) aNil)) [s0, s1, s2, s3, s4, s5, s6, s7, s8, s9, some o, some (.ref (M.length + 1))] (M ++ [.lst msg1, .lst [.ref M.length]]) = .ok (.ref (M.length + 2)) (M ++ [.lst msg1, .lst [.ref M.length], .lst msg1]) := by
    have := told_bad (g := eCall 1 f_star_to_mesh (aCons (eVar 10) aNil)) (ρ := [s0, s1, s2, s3, s4, s5, s6, s7, s8, s9, some o, some (.ref (M.length + 1))]) (M := M ++ [.lst msg1, .lst [.ref M.length]]) (by simp [eCall, retF, sSeq, contK, sIf, sAsg, sRet, sRetN, sExpr, sPar, sNil, gN, gSb, gT, gsNil, gsCons, eVar, eLit, eOp, eUn, eArgs, aNil, aCons, eIf, eAnd, eOr, eNot, tTru, tOp', tOfE, eChain, chainK, tNot', tAnd', tOr', ordD, addD, subD, negD, gcdD, mkTup, truD, blV, gcT_self, gcD_self, gcF_self, sizeLine_eq, star_bad (h2 [.lst msg1, .lst [.ref M.length]])])
    rw [this]
    simp
  have ap : appD (.ref (M.length + 1)) [.ref (M.length + 2)] (M ++ [.lst msg1, .lst [.ref M.length], .lst msg1]) = some (.non, M ++ [.lst msg1, .lst [.ref M.length, .ref (M.length + 2)], .lst msg1]) := by
    simp [appD, sizeLine_eq, List.set_append]
  have ty : tyD "list" (.ref (M.length + 1)) (M ++ [.lst msg1, .lst [.ref M.length]]) = true := by simp [tyD]
  have e7 : g_law_7 [s0, s1, s2, s3, s4, s5, s6, s7, s8, s9, some o, some (.ref (M.length + 1))] (M ++ [.lst msg1, .lst [.ref M.length]]) = .ok (.nx [s0, s1, s2, s3, s4, s5, s6, s7, s8, s9, some o, some (.ref (M.length + 1))]) (M ++ [.lst msg1, .lst [.ref M.length, .ref (M.length + 2)], .lst msg1]) := by
    simp [g_law_7, retF, sSeq, contK, sIf, sAsg, sRet, sRetN, sExpr, sPar, sNil, gN, gSb, gT, gsNil, gsCons, eVar, eLit, eOp, eUn, eArgs, aNil, aCons, eIf, eAnd, eOr, eNot, tTru, tOp', tOfE, eChain, chainK, tNot', tAnd', tOr', ordD, addD, subD, negD, gcdD, mkTup, truD, blV, gcT_self, gcD_self, gcF_self, sizeLine_eq, eMeth, methK, ty, t2, ap]
  obtain ⟨N, eN⟩ : ∃ N, N = M ++ [.lst msg1, .lst [.ref M.length, .ref (M.length + 2)], .lst msg1] := ⟨_, rfl⟩
  have lN : N.length = M.length + 3 := by rw [eN]; simp
  have k1 : N[M.length + 1]? = some (.lst [.ref M.length, .ref (M.length + 2)]) := by rw [eN]; simp
  have k2 : N[M.length]? = some (.lst msg1) := by rw [eN]; simp
  have k3 : N[M.length + 2]? = some (.lst msg1) := by rw [eN]; simp
  have up : ∀ i c g, N[i]? = some c → (N ++ g)[i]? = some c := fun i c g h => by rw [List.getElem?_append_left (List.getElem?_eq_some_iff.mp h).1]; exact h
  obtain ⟨tail, et⟩ : ∃ t : Mem, t = [.lst msg1, .lst [.ref N.length], .lst [.ref N.length, .ref N.length]] := ⟨_, rfl⟩
  have n1 : (N ++ tail)[N.length + 2]? = some (.lst [.ref N.length, .ref N.length]) := by rw [et]; simp
  have n2 : (N ++ tail)[N.length]? = some (.lst msg1) := by rw [et]; simp
  have ne : neD (.ref (M.length + 1)) (.ref (N.length + 2)) (N ++ tail) = some (.bl false, N ++ tail) := neD_msg (up _ _ _ k1) (up _ _ _ k2) (up _ _ _ k3) n1 n2 n2
  have ml : mulD (.ref (N.length + 1)) (.int 2) (N ++ [.lst msg1, .lst [.ref N.length]]) = some (.ref (N.length + 2), N ++ tail) := by
    simp [mulD, et, sizeLine_eq]
  have e8 : g_law_8 [s0, s1, s2, s3, s4, s5, s6, s7, s8, s9, some o, some (.ref (M.length + 1))] N = .ok (.nx [s0, s1, s2, s3, s4, s5, s6, s7, s8, s9, some o, some (.ref (M.length + 1))]) N := by
    simp [g_law_8, retF, sSeq, contK, sIf, sAsg, sRet, sRetN, sExpr, sPar, sNil, gN, gSb, gT, gsNil, gsCons, eVar, eLit, eOp, eUn, eArgs, aNil, aCons, eIf, eAnd, eOr, eNot, tTru, tOp', tOfE, eChain, chainK, tNot', tAnd', tOr', ordD, addD, subD, negD, gcdD, mkTup, truD, blV, gcT_self, gcD_self, gcF_self, sizeLine_eq, mkLst, ml, ne, gcT_app]
  rw [← eN] at e7
  refine ⟨[.lst msg1, .lst [.ref M.length, .ref (M.length + 2)], .lst msg1], ?_⟩
  rw [← eN]
  show ((R.ok ([s0, s1, s2, s3, s4, s5, s6, s7, s8, s9, sa, sb].set 10 (some o)) M).bind fun ρ1 m1 => g_law_9 ρ1 m1) = _
  simp only [List.set, R.bind_ok, g_law_9, sSeq, e6, contK, e7, e8]

/-- memory: as it was, and garbage -/
theorem gcF_or {M g : Mem} {f : Fl} : ∃ g', gcF M (.ok f (M ++ g)) = .ok f (M ++ g') := by
  unfold gcF gcR
  dsimp only
  split
  · exact ⟨[], by rw [List.take_left]; simp⟩
  · exact ⟨g, rfl⟩
theorem odd_loop {M : Mem} : ∀ (l : List D) (g : Mem) (s0 s1 s2 s3 s4 s5 s6 s7 s8 s9 sa sb : Option D), (∀ o ∈ l, ∀ g, callD 1 f_check_three [o] (M ++ g) = bad3 (M ++ g)) →
    ∃ (oa ob : Option D) (g' : Mem), forG [] (gN 10) g_law_9 l [s0, s1, s2, s3, s4, s5, s6, s7, s8, s9, sa, sb] (M ++ g) = .ok (.nx [s0, s1, s2, s3, s4, s5, s6, s7, s8, s9, oa, ob]) (M ++ g') := by
  intro l
  induction l with
  | nil => intro g s0 s1 s2 s3 s4 s5 s6 s7 s8 s9 sa sb _; exact ⟨sa, sb, g, forG_nil⟩
  | cons o l ih =>
    intro g s0 s1 s2 s3 s4 s5 s6 s7 s8 s9 sa sb h
    have ho := h o List.mem_cons_self
    obtain ⟨g1, e1⟩ := told_turn (M := M ++ g) (o := o) (s0 := s0) (s1 := s1) (s2 := s2) (s3 := s3) (s4 := s4) (s5 := s5) (s6 := s6) (s7 := s7) (s8 := s8) (s9 := s9) (sa := sa) (sb := sb) (ho g) (fun g2 => by rw [List.append_assoc]; exact ho _)
    obtain ⟨g2, e2⟩ := gcF_or (M := M ++ g) (g := g1) (f := .nx [s0, s1, s2, s3, s4, s5, s6, s7, s8, s9, some o, some (.ref ((M ++ g).length + 1))])
    obtain ⟨oa, ob, g3, e3⟩ := ih (g ++ g2) s0 s1 s2 s3 s4 s5 s6 s7 s8 s9 (some o) (some (.ref ((M ++ g).length + 1))) fun y hy => h y (List.mem_cons_of_mem _ hy)
    refine ⟨oa, ob, g3, ?_⟩
    rw [forG_cons, e1, e2, R.bind_ok]
    dsimp only
    rw [List.append_assoc]
    exact e3
/-- one turn of the law -/
theorem law_turn {M : Mem} {b d n : Nat} {x : D} {s0 s2 s3 s4 s5 s6 s7 s8 s9 sa sb : Option D} (h : Bx M b d n) (hn : n + 9 < 1000000) :
    ∃ (t2 t3 t4 t5 t6 t7 t8 t9 ta tb : Option D) (M' : Mem), gcF M ((gN 2 x [s0, some (.ref b), s2, s3, s4, s5, s6, s7, s8, s9, sa, sb] M).bind fun ρ1 m1 => g_law_16 ρ1 m1) = .ok (.nx [s0, some (.ref b), t2, t3, t4, t5, t6, t7, t8, t9, ta, tb]) M' ∧ Bx M' b d (n + 9) := by
  obtain ⟨p, q, r, M1, g1, e10, b1, s1, p0, q0, r0, pz, qz, rz⟩ := st10 (s0 := s0) (s2 := some x) (s3 := s3) (s4 := s4) (s5 := s5) (s6 := s6) (s7 := s7) (s8 := s8) (s9 := s9) (sa := sa) (sb := sb) h (by omega)
  obtain ⟨p', q', r', M2, e11, b2, s2', p0', q0', r0', pz', qz', rz'⟩ := st11 (s0 := s0) (s2 := some x) (s4 := s4) (s5 := s5) (s6 := s6) (s7 := s7) (s8 := s8) (s9 := s9) (sa := sa) (sb := sb) (b1.app (g := g1)) (by omega) p0 q0 r0 pz qz rz
  have e12 := st12 (M := M2) (s0 := s0) (s1 := some (.ref b)) (s2 := some x) (s4 := s4) (s5 := s5) (s6 := s6) (s7 := s7) (s8 := s8) (s9 := s9) (sa := sa) (sb := sb) p0' q0' r0' pz' qz' rz'
  obtain ⟨⟨az, bz, cz⟩, xz, yz, zz⟩ := szs p0' q0' r0' pz' qz' rz'
  have e13 := st13 (M := M2) (s0 := s0) (s1 := some (.ref b)) (s2 := some x) (s3 := some (.tup [fr p', fr q', fr r'])) (s6 := s6) (s7 := s7) (s8 := s8) (s9 := s9) (sa := sa) (sb := sb) (az.mono (by omega)) (bz.mono (by omega)) (cz.mono (by omega)) xz yz zz
  have ein := loop_in (M := M2) (s0 := s0) (s1 := some (.ref b)) (s2 := some x) (o6 := s6) (o7 := s7) (o8 := s8) (s9 := s9) (sa := sa) (sb := sb) p0' q0' r0' pz' qz' rz'
  have e14 := st14 (M := M2) (s0 := s0) (s1 := some (.ref b)) (s2 := some x) (o6 := some (.int (2 : Nat))) (o7 := some (.int (0 : Nat))) (o8 := some (.int (1 : Nat))) (s9 := s9) (sa := sa) (sb := sb) p0' q0' r0' pz' qz' rz'
  obtain ⟨A, hA⟩ : ∃ A, A = some (D.tup [fr (q' * r' / (p' + q' + r')), fr (p' * r' / (p' + q' + r')), fr (p' * q' / (p' + q' + r'))]) := ⟨_, rfl⟩
  obtain ⟨B, hB⟩ : ∃ B, B = some (D.tup [fr ((p' * q' + q' * r' + p' * r') / p'), fr ((p' * q' + q' * r' + p' * r') / q'), fr ((p' * q' + q' * r' + p' * r') / r')]) := ⟨_, rfl⟩
  rw [← hA, ← hB] at e12 e13 ein e14
  have e15 := st15 (M := M2) (x := fr p') (y := fr q') (z := fr r') (s0 := s0) (s1 := some (.ref b)) (s2 := some x) (s4 := A) (s5 := B) (s6 := some (.int (2 : Nat))) (s7 := some (.int (0 : Nat))) (s8 := some (.int (1 : Nat))) (s9 := s9) (sa := sa) (sb := sb)
  obtain ⟨M3, eM3⟩ : ∃ M3, M3 = M2 ++ [.lst [fr p', fr q', fr r']] := ⟨_, rfl⟩
  rw [← eM3] at e15
  obtain ⟨oa, ob, g4, eo⟩ := odd_loop (M := M3) (odds M2.length (fr p') (fr q') (fr r')) [] s0 (some (.ref b)) (some x) (some (.tup [fr p', fr q', fr r'])) A B (some (.int (2 : Nat))) (some (.int (0 : Nat))) (some (.int (1 : Nat))) (some (.tup (odds M2.length (fr p') (fr q') (fr r')))) sa sb (fun o ho g => odd_bad ⟨[fr p', fr q', fr r'], by rw [eM3]; simp⟩ p0' q0' r0' o ho)
  rw [List.append_nil] at eo
  have body : g_law_16 [s0, some (.ref b), some x, s3, s4, s5, s6, s7, s8, s9, sa, sb] M = .ok (.nx [s0, some (.ref b), some x, some (.tup [fr p', fr q', fr r']), A, B, some (.int (2 : Nat)), some (.int (0 : Nat)), some (.int (1 : Nat)), some (.tup (odds M2.length (fr p') (fr q') (fr r'))), oa, ob]) (M3 ++ g4) := by
    have lp : (sFor (iRg1 (eLit (.int 3))) (gN 6) g_law_5) [s0, some (.ref b), some x, some (.tup [fr p', fr q', fr r']), A, B, s6, s7, s8, s9, sa, sb] M2 = .ok (.nx [s0, some (.ref b), some x, some (.tup [fr p', fr q', fr r']), A, B, some (.int (2 : Nat)), some (.int (0 : Nat)), some (.int (1 : Nat)), s9, sa, sb]) M2 := by
      show ((R.ok (⟨rngD 0 3, []⟩ : Itn) M2).bind fun it m1 => forG it.live (gN 6) g_law_5 it.items _ m1) = _
      exact ein
    have lo : (sFor (iSeq (eVar 9)) (gN 10) g_law_9) [s0, some (.ref b), some x, some (.tup [fr p', fr q', fr r']), A, B, some (.int (2 : Nat)), some (.int (0 : Nat)), some (.int (1 : Nat)), some (.tup (odds M2.length (fr p') (fr q') (fr r'))), sa, sb] M3 = .ok (.nx [s0, some (.ref b), some x, some (.tup [fr p', fr q', fr r']), A, B, some (.int (2 : Nat)), some (.int (0 : Nat)), some (.int (1 : Nat)), some (.tup (odds M2.length (fr p') (fr q') (fr r'))), oa, ob]) (M3 ++ g4) := by
      show ((R.ok (⟨odds M2.length (fr p') (fr q') (fr r'), []⟩ : Itn) M3).bind fun it m1 => forG it.live (gN 10) g_law_9 it.items _ m1) = _
      exact eo
    simp only [g_law_16, sSeq, e10, R.bind_ok, contK, e11, e12, e13, lp, e14, e15, lo]
  have bM : Bx (M3 ++ g4) b d (n + 9) := by rw [eM3]; exact (b2.app).app
  show ∃ (t2 t3 t4 t5 t6 t7 t8 t9 ta tb : Option D) (M' : Mem), gcF M ((R.ok ([s0, some (.ref b), s2, s3, s4, s5, s6, s7, s8, s9, sa, sb].set 2 (some x)) M).bind fun ρ1 m1 => g_law_16 ρ1 m1) = _ ∧ _
  simp only [List.set, R.bind_ok, body]
  unfold gcF gcR
  dsimp only
  split
  · exact ⟨_, _, _, _, _, _, _, _, _, _, _, rfl, bM.take h.lt.1 h.lt.2⟩
  · exact ⟨_, _, _, _, _, _, _, _, _, _, _, rfl, bM⟩
theorem law_loop : ∀ (l : List D) (M : Mem) (b d n : Nat) (s0 s2 s3 s4 s5 s6 s7 s8 s9 sa sb : Option D), Bx M b d n → n + 9 * l.length < 1000000 → ∃ (ρ : Env) (M' : Mem), forG [] (gN 2) g_law_16 l [s0, some (.ref b), s2, s3, s4, s5, s6, s7, s8, s9, sa, sb] M = .ok (.nx ρ) M' := by
  intro l
  induction l with
  | nil => intro M b d n s0 s2 s3 s4 s5 s6 s7 s8 s9 sa sb _ _; exact ⟨_, _, forG_nil⟩
  | cons x l ih =>
    intro M b d n s0 s2 s3 s4 s5 s6 s7 s8 s9 sa sb h hn
    simp only [List.length_cons] at hn
    obtain ⟨t2, t3, t4, t5, t6, t7, t8, t9, ta, tb, M1, e1, b1⟩ := law_turn (x := x) (s0 := s0) (s2 := s2) (s3 := s3) (s4 := s4) (s5 := s5) (s6 := s6) (s7 := s7) (s8 := s8) (s9 := s9) (sa := sa) (sb := sb) h (by omega)
    obtain ⟨ρ, M2, e2⟩ := ih M1 b d (n + 9) s0 t2 t3 t4 t5 t6 t7 t8 t9 ta tb b1 (by omega)
    refine ⟨ρ, M2, ?_⟩
    rw [forG_cons, e1, R.bind_ok]
    exact e2
theorem law_ok (ns : List Int) : ∃ m, f_law [.fl (ns.map D.int)] [] = .ok (.bl true) m := by
  obtain ⟨M, e, xs, eM, hx, hl⟩ := s_digits ns
  have cd : callD 3 f__law_digits [.fl (ns.map D.int), .int 0, .int 63] [] = .ok (.ref 0) M := by
    unfold callD
    rw [if_pos (show ([D.fl (ns.map D.int), .int 0, .int 63] : List D).length = 3 from rfl), e]
    unfold gcD gcR
    dsimp only
    rw [if_neg (fun z => by simp [D.fits] at z)]
  have lM : M.length = 1 := by rw [eM]; rfl
  have bx : Bx (M ++ [.lst [.ref 0, .int 0]]) 1 0 0 := by
    refine ⟨⟨0, ?_, Nat.le_refl _⟩, ⟨xs, ?_, hx⟩, by omega⟩
    · rw [eM]; rfl
    · rw [eM]; rfl
  obtain ⟨ρ, M2, e2⟩ := law_loop (rngD 0 5) (M ++ [.lst [.ref 0, .int 0]]) 1 0 0 (some (.fl (ns.map D.int))) none none none none none none none none none none bx (by rw [rng_len]; omega)
  refine ⟨M2, ?_⟩
  simp [f_law, fnB, g_law, g_law_17, retF, sSeq, contK, sIf, sAsg, sRet, sRetN, sExpr, sPar, sNil, gN, gSb, gT, gsNil, gsCons, eVar, eLit, eOp, eUn, eArgs, aNil, aCons, eIf, eAnd, eOr, eNot, tTru, tOp', tOfE, eChain, chainK, tNot', tAnd', tOr', ordD, addD, subD, negD, gcdD, mkTup, truD, blV, gcT_self, gcD_self, gcF_self, sizeLine_eq, eCall, cd, mkLst, lM, sFor, iRg1, e2]
end K46
end Dw

open PySem PySem.W PyProof.Rows
theorem PySem.Challenge.cw_ductwise_k46_stars_and_triangles_holds : PySem.Challenge.rw_ductwise_k46_stars_and_triangles.Holds := by
  w_on; o_law; k_head; (case hw => w_witness2)
  k_fill
  refine Dw.walk_G (k := 8) (n := 63) (x := "script") (cf := Dw.K46.f_law) rfl (by decide) rfl ⟨rfl, by decide, by decide⟩ ?F ?S
  case S => exact fun ns _ _ => Dw.K46.law_ok ns
  case F =>
    intro w mg fa h Y G hmg
    have X := km_in_of Y
    have TT := km_tabs_of Y
    refine' Dw.K46.w_all X G hmg ?a ?lk ?hcd ?kp ?x_BadValue ?x_TooMany ?x_Refused ?b_all ?b_bool ?b_int ?b_isinstance ?b_len ?b_list ?b_range ?b_repr ?b_tuple ?b_gcd ?f__law_digits ?f__law_draw ?f_is_integer ?f_is_fraction ?f_is_slope ?f_check_three ?f_lowest ?f_plus ?f_over ?f_times ?f_mesh_to_star ?f_star_to_mesh ?f__law_gcd ?f__law_frac ?f__law_pick ?f__law_slope ?f__law_row ?f__law_same ?f__law_told ?f__law_plus ?f__law_over ?f__law_beside_slope ?e_0_0 ?e_0_1 ?e_0_2 ?e_1_0 ?e_1_1 ?e_1_2 ?e_2_0 ?e_2_1 ?e_2_2 ?xf_0 ?xf_1 ?xf_2 ?hhd ?hPt ?hTT
    (case a => k_is); (case lk => k_is); (case hcd => k_is); (case kp => k_is)
    case x_BadValue =>
      refine' Dw.one_at X G ?aC ?xL ?iC ?l1 ?c1 ?lc ?lx ?sa ?nb ?tI ?kC ?eC ?vC ?tC ?any ?nos ?sup ?slf ?hbm ?top ?hvs ?hfile ?s1 ?s2 ?s3 ?s4 ?s5 ?s6 ?s7 ?s8 ?bd ?en
      (case aC => k_is); (case xL => k_is); (case iC => k_is); (case l1 => k_is); (case c1 => k_is); (case lc => k_is); (case lx => k_is); (case sa => k_is); (case nb => k_is); (case tI => k_is); (case kC => k_is); (case eC => k_is); (case vC => k_is); (case tC => k_is); (case any => k_is); (case nos => k_is); (case sup => kernel_rfl); (case slf => k_is)
      (case hbm => decide +kernel); (case top => decide +kernel); (case hvs => rfl); (case hfile => decide +kernel); (case s1 => rfl); (case s2 => rfl); (case s3 => rfl); (case s4 => rfl); (case s5 => decide); (case s6 => rfl); (case s7 => rfl); (case s8 => rfl); (case bd => intro u v; rfl); (case en => intro L; exact ⟨⟨_, rfl⟩, rfl, rfl, rfl⟩)
    case x_TooMany =>
      refine' Dw.one_at X G ?aC ?xL ?iC ?l1 ?c1 ?lc ?lx ?sa ?nb ?tI ?kC ?eC ?vC ?tC ?any ?nos ?sup ?slf ?hbm ?top ?hvs ?hfile ?s1 ?s2 ?s3 ?s4 ?s5 ?s6 ?s7 ?s8 ?bd ?en
      (case aC => k_is); (case xL => k_is); (case iC => k_is); (case l1 => k_is); (case c1 => k_is); (case lc => k_is); (case lx => k_is); (case sa => k_is); (case nb => k_is); (case tI => k_is); (case kC => k_is); (case eC => k_is); (case vC => k_is); (case tC => k_is); (case any => k_is); (case nos => k_is); (case sup => kernel_rfl); (case slf => k_is)
      (case hbm => decide +kernel); (case top => decide +kernel); (case hvs => rfl); (case hfile => decide +kernel); (case s1 => rfl); (case s2 => rfl); (case s3 => rfl); (case s4 => rfl); (case s5 => decide); (case s6 => rfl); (case s7 => rfl); (case s8 => rfl); (case bd => intro u v; rfl); (case en => intro L; exact ⟨⟨_, rfl⟩, rfl, rfl, rfl⟩)
    case x_Refused =>
      refine' Dw.one_at X G ?aC ?xL ?iC ?l1 ?c1 ?lc ?lx ?sa ?nb ?tI ?kC ?eC ?vC ?tC ?any ?nos ?sup ?slf ?hbm ?top ?hvs ?hfile ?s1 ?s2 ?s3 ?s4 ?s5 ?s6 ?s7 ?s8 ?bd ?en
      (case aC => k_is); (case xL => k_is); (case iC => k_is); (case l1 => k_is); (case c1 => k_is); (case lc => k_is); (case lx => k_is); (case sa => k_is); (case nb => k_is); (case tI => k_is); (case kC => k_is); (case eC => k_is); (case vC => k_is); (case tC => k_is); (case any => k_is); (case nos => k_is); (case sup => kernel_rfl); (case slf => k_is)
      (case hbm => decide +kernel); (case top => decide +kernel); (case hvs => rfl); (case hfile => decide +kernel); (case s1 => rfl); (case s2 => rfl); (case s3 => rfl); (case s4 => rfl); (case s5 => decide); (case s6 => rfl); (case s7 => rfl); (case s8 => rfl); (case bd => intro u v; rfl); (case en => intro L; exact ⟨⟨_, rfl⟩, rfl, rfl, rfl⟩)
    (case b_all => k_is)
    (case b_bool => k_is)
    (case b_int => k_is)
    (case b_isinstance => k_is)
    (case b_len => k_is)
    (case b_list => k_is)
    (case b_range => k_is)
    (case b_repr => k_is)
    (case b_tuple => k_is)
    (case b_gcd => k_is)
    case f__law_digits =>
      refine' Dw.fun_at X G ?hb ?a ?l ?c ?k
      (case a => k_is); (case l => k_is); (case c => k_is); (case k => k_is); (case hb => exact fun _ _ _ _ _ _ us hl => match us, hl with | [_, _, _], _ => rfl)
    case f__law_draw =>
      refine' Dw.fun_at X G ?hb ?a ?l ?c ?k
      (case a => k_is); (case l => k_is); (case c => k_is); (case k => k_is); (case hb => exact fun _ _ _ _ _ _ us hl => match us, hl with | [_, _], _ => rfl)
    case f_is_integer =>
      refine' Dw.fun_at X G ?hb ?a ?l ?c ?k
      (case a => k_is); (case l => k_is); (case c => k_is); (case k => k_is); (case hb => exact fun _ _ _ _ _ _ us hl => match us, hl with | [_], _ => rfl)
    case f_is_fraction =>
      refine' Dw.fun_at X G ?hb ?a ?l ?c ?k
      (case a => k_is); (case l => k_is); (case c => k_is); (case k => k_is); (case hb => exact fun _ _ _ _ _ _ us hl => match us, hl with | [_], _ => rfl)
    case f_is_slope =>
      refine' Dw.fun_at X G ?hb ?a ?l ?c ?k
      (case a => k_is); (case l => k_is); (case c => k_is); (case k => k_is); (case hb => exact fun _ _ _ _ _ _ us hl => match us, hl with | [_], _ => rfl)
    case f_check_three =>
      refine' Dw.fun_at X G ?hb ?a ?l ?c ?k
      (case a => k_is); (case l => k_is); (case c => k_is); (case k => k_is); (case hb => exact fun _ _ _ _ _ _ us hl => match us, hl with | [_], _ => rfl)
    case f_lowest =>
      refine' Dw.fun_at X G ?hb ?a ?l ?c ?k
      (case a => k_is); (case l => k_is); (case c => k_is); (case k => k_is); (case hb => exact fun _ _ _ _ _ _ us hl => match us, hl with | [_, _], _ => rfl)
    case f_plus =>
      refine' Dw.fun_at X G ?hb ?a ?l ?c ?k
      (case a => k_is); (case l => k_is); (case c => k_is); (case k => k_is); (case hb => exact fun _ _ _ _ _ _ us hl => match us, hl with | [_, _], _ => rfl)
    case f_over =>
      refine' Dw.fun_at X G ?hb ?a ?l ?c ?k
      (case a => k_is); (case l => k_is); (case c => k_is); (case k => k_is); (case hb => exact fun _ _ _ _ _ _ us hl => match us, hl with | [_, _], _ => rfl)
    case f_times =>
      refine' Dw.fun_at X G ?hb ?a ?l ?c ?k
      (case a => k_is); (case l => k_is); (case c => k_is); (case k => k_is); (case hb => exact fun _ _ _ _ _ _ us hl => match us, hl with | [_, _], _ => rfl)
    case f_mesh_to_star =>
      refine' Dw.fun_at X G ?hb ?a ?l ?c ?k
      (case a => k_is); (case l => k_is); (case c => k_is); (case k => k_is); (case hb => exact fun _ _ _ _ _ _ us hl => match us, hl with | [_], _ => rfl)
    case f_star_to_mesh =>
      refine' Dw.fun_at X G ?hb ?a ?l ?c ?k
      (case a => k_is); (case l => k_is); (case c => k_is); (case k => k_is); (case hb => exact fun _ _ _ _ _ _ us hl => match us, hl with | [_], _ => rfl)
    case f__law_gcd =>
      refine' Dw.fun_at X G ?hb ?a ?l ?c ?k
      (case a => k_is); (case l => k_is); (case c => k_is); (case k => k_is); (case hb => exact fun _ _ _ _ _ _ us hl => match us, hl with | [_, _], _ => rfl)
    case f__law_frac =>
      refine' Dw.fun_at X G ?hb ?a ?l ?c ?k
      (case a => k_is); (case l => k_is); (case c => k_is); (case k => k_is); (case hb => exact fun _ _ _ _ _ _ us hl => match us, hl with | [_, _], _ => rfl)
    case f__law_pick =>
      refine' Dw.fun_at X G ?hb ?a ?l ?c ?k
      (case a => k_is); (case l => k_is); (case c => k_is); (case k => k_is); (case hb => exact fun _ _ _ _ _ _ us hl => match us, hl with | [_, _], _ => rfl)
    case f__law_slope =>
      refine' Dw.fun_at X G ?hb ?a ?l ?c ?k
      (case a => k_is); (case l => k_is); (case c => k_is); (case k => k_is); (case hb => exact fun _ _ _ _ _ _ us hl => match us, hl with | [_], _ => rfl)
    case f__law_row =>
      refine' Dw.fun_at X G ?hb ?a ?l ?c ?k
      (case a => k_is); (case l => k_is); (case c => k_is); (case k => k_is); (case hb => exact fun _ _ _ _ _ _ us hl => match us, hl with | [_, _], _ => rfl)
    case f__law_same =>
      refine' Dw.fun_at X G ?hb ?a ?l ?c ?k
      (case a => k_is); (case l => k_is); (case c => k_is); (case k => k_is); (case hb => exact fun _ _ _ _ _ _ us hl => match us, hl with | [_, _], _ => rfl)
    case f__law_told =>
      refine' Dw.fun_at X G ?hb ?a ?l ?c ?k
      (case a => k_is); (case l => k_is); (case c => k_is); (case k => k_is); (case hb => exact fun _ _ _ _ _ _ us hl => match us, hl with | [_], _ => rfl)
    case f__law_plus =>
      refine' Dw.fun_at X G ?hb ?a ?l ?c ?k
      (case a => k_is); (case l => k_is); (case c => k_is); (case k => k_is); (case hb => exact fun _ _ _ _ _ _ us hl => match us, hl with | [_, _], _ => rfl)
    case f__law_over =>
      refine' Dw.fun_at X G ?hb ?a ?l ?c ?k
      (case a => k_is); (case l => k_is); (case c => k_is); (case k => k_is); (case hb => exact fun _ _ _ _ _ _ us hl => match us, hl with | [_, _], _ => rfl)
    case f__law_beside_slope =>
      refine' Dw.fun_at X G ?hb ?a ?l ?c ?k
      (case a => k_is); (case l => k_is); (case c => k_is); (case k => k_is); (case hb => exact fun _ _ _ _ _ _ us hl => match us, hl with | [_, _], _ => rfl)
    (case e_0_0 => first | k_is | kernel_rfl)
    (case e_0_1 => first | k_is | kernel_rfl)
    (case e_0_2 => first | k_is | kernel_rfl)
    (case e_1_0 => first | k_is | kernel_rfl)
    (case e_1_1 => first | k_is | kernel_rfl)
    (case e_1_2 => first | k_is | kernel_rfl)
    (case e_2_0 => first | k_is | kernel_rfl)
    (case e_2_1 => first | k_is | kernel_rfl)
    (case e_2_2 => first | k_is | kernel_rfl)
    (case xf_0 => kernel_rfl)
    (case xf_1 => kernel_rfl)
    (case xf_2 => kernel_rfl)
    (case hTT => exact TT _ (List.mem_singleton.mpr rfl)); (case hhd => kernel_rfl); (case hPt => first | k_is | kernel_rfl)
