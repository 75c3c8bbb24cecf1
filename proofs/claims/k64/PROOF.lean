import PyProof.Rows.All
import Wide.All
import OpenK.AllK
import Wide.FinOn
import PySem.Challenge.RW_loopplaces_k64_main_the_least_beat
import HandS.ForMost
import HandS.Deep
import HandS.NoneIn
import HandS.Lambda
import HandS.TupAny
import HandS.IsInst
import HandS.Wide
import KE.DataMinMax
import KE.SortData
import HandS.Style
import PyProof.WalksMore
import HandS.StrMore
import HandS.Walk
import HandS.Words
import HandS.Iter
import HandS.Zip
import KE.GoesEnum
import HandS.TupSets
import HandS.SetFor
import HandS.Strs
import HandS.Flow
import HandS.TupMul
import HandS.WordsExc
import HandS.EndTab
import KE.KNestM
import HandS.Star
import HandS.Gcd
import HandS.TryOnly
import HandS.ExcOwn
import HandS.Conv
set_option Elab.async false
set_option linter.all false
set_option maxRecDepth 100000
set_option maxHeartbeats 4000000
/-! pure data over the hand layer: what a piece of code comes to, as plain data. -/
namespace SE
open PySem PySem.Spec PyProof.Rows L2

abbrev D := PyData
/-- what a piece of code comes to: a thing, an own exception with its field, or nothing told -/
inductive R (α : Type) where
  | ok (a : α) | ex (c : Str) (ds : List PyData) | no
def R.bind {α β : Type} : R α → (α → R β) → R β
  | .ok a, f => f a
  | .ex c ds, _ => .ex c ds
  | .no, _ => .no
@[simp] theorem R.bind_ok {α β : Type} (a : α) (f : α → R β) : (R.ok a).bind f = f a := of_eq_true (eq_self (f a))
@[simp] theorem R.bind_no {α β : Type} (f : α → R β) : (R.no : R α).bind f = .no := rfl
@[simp] theorem R.bind_ex {α β : Type} (c : Str) (ds : List PyData) (f : α → R β) : (R.ex c ds : R α).bind f = .ex c ds := rfl
abbrev R.map {α β : Type} (r : R α) (f : α → β) : R β := r.bind fun a => .ok (f a)
theorem R.bind_assoc {α β γ : Type} (r : R α) (f : α → R β) (g : β → R γ) : (r.bind f).bind g = r.bind fun a => (f a).bind g := by cases r <;> rfl

/-- a slot: a value that no one changes, or a list of one's own -/
inductive Sl where
  | val (d : PyData) | own (ds : List PyData) (t : Option Addr) | raw (v : V) (P : Hp → Prop)
abbrev En := List (Option Sl)
/-- the wish: what is wanted of an exception; the tables of code objects that stand all the while -/
structure Wx where
  ex : Str → List PyData → Hp → Prop
  tabs : List (Addr × Str)

theorem Same.seqT {K : PySem.W.Frag} {H H' : Hp} {a : Addr} {xs : List V} (e : Same H H') (h : SqT K H a xs) : SqT K H' a xs := by
  rcases h with (h | ⟨o, h⟩) | h
  · exact .inl (.inl (e _ _ h))
  · exact .inl (.inr ⟨o, e _ _ h⟩)
  · exact .inr h
theorem Same.seqL {K : PySem.W.Frag} {H H' : Hp} {a : Addr} {xs : List V} (e : Same H H') (h : SqL K H a xs) : SqL K H' a xs := by
  rcases h with (h | ⟨o, h⟩) | h
  · exact .inl (.inl (e _ _ h))
  · exact .inl (.inr ⟨o, e _ _ h⟩)
  · exact .inr h
theorem Same.new {H : Hp} {p : Addr} {o : HO} (h : H p = none) : Same H (upd H p o) := fun a u e => by
  rw [upd_ne (ne_of_none e h)]
  exact e
/-! a value is a datum: as Dp, no list of the written part -/
mutual
inductive Rp (K : PySem.W.Frag) (H : Hp) : V → PyData → Prop
  | non : Rp K H .non .none
  | bl (b : Bool) : Rp K H (.bl b) (.bool b)
  | int (i : Int) : Rp K H (.int i) (.int i)
  | str (x : Str) : Rp K H (.str x) (.str x)
  | lst {a : Addr} {xs : List V} {ds : List PyData} : Rd H a (.lst xs) → RpAll K H xs ds → Rp K H (.ref a) (.list ds)
  | tup {a : Addr} {xs : List V} {ds : List PyData} : SqT K H a xs → RpAll K H xs ds → Rp K H (.ref a) (.tuple ds)
  | kl {a : Addr} {xs : List V} {ds : List PyData} : SqL K H a xs → RpAll K H xs ds → Rp K H (.ref a) (.dict [(.none, .list ds)])
inductive RpAll (K : PySem.W.Frag) (H : Hp) : List V → List PyData → Prop
  | nil : RpAll K H [] []
  | cons {v : V} {vs : List V} {d : PyData} {ds : List PyData} : Rp K H v d → RpAll K H vs ds → RpAll K H (v :: vs) (d :: ds)
end
theorem Rd.same {H H' : Hp} {a : Addr} {u : HO} (e : Same H H') (h : Rd H a u) : Rd H' a u := by
  rcases h with h | ⟨o, h⟩
  · exact .inl (e _ _ h)
  · exact .inr ⟨o, e _ _ h⟩
mutual
theorem Rp.dp {K : PySem.W.Frag} {H : Hp} : ∀ (d : PyData) {v : V}, d.canLay0 = true → Rp K H v d → Dp K H v d
  | .none, _, _, h => by cases h; exact .non
  | .bool b, _, _, h => by cases h; exact .bl b
  | .int i, _, _, h => by cases h; exact .int i
  | .str x, _, _, h => by cases h; exact .str x
  | .list ds, _, c, h => by
    cases h with
    | lst hs ha => exact .lst (.inl hs) (Rp.dps ds (by unfold PyData.canLay0 at c; exact c) ha)
  | .tuple ds, _, c, h => by
    cases h with
    | tup hs ha => exact .tup hs (Rp.dps ds (by unfold PyData.canLay0 at c; exact c) ha)
  | .dict _, _, c, h => by unfold PyData.canLay0 at c; cases c
theorem Rp.dps {K : PySem.W.Frag} {H : Hp} : ∀ (ds : List PyData) {vs : List V}, PyData.canLayAll0 ds = true → RpAll K H vs ds → DpAll K H vs ds
  | [], _, _, h => by cases h; exact .nil
  | d :: ds, _, c, h => by
    unfold PyData.canLayAll0 at c
    have c := Bool.and_eq_true_iff.mp c
    cases h with
    | cons h1 h2 => exact .cons (Rp.dp d c.1 h1) (Rp.dps ds c.2 h2)
end
mutual
theorem dp_same {K : PySem.W.Frag} {H H' : Hp} (e : Same H H') : ∀ (d : PyData) {v : V}, Rp K H v d → Rp K H' v d
  | .none, _, h => by cases h; exact .non
  | .bool b, _, h => by cases h; exact .bl b
  | .int i, _, h => by cases h; exact .int i
  | .str x, _, h => by cases h; exact .str x
  | .list ds, _, h => by
    cases h with
    | lst hs ha => exact .lst (Rd.same e hs) (dps_same e ds ha)
  | .tuple ds, _, h => by
    cases h with
    | tup hs ha => exact .tup (Same.seqT e hs) (dps_same e ds ha)
  | .dict [(.none, .list ds)], _, h => by
    cases h with
    | kl hs ha => exact .kl (Same.seqL e hs) (dps_same e ds ha)
theorem dps_same {K : PySem.W.Frag} {H H' : Hp} (e : Same H H') : ∀ (ds : List PyData) {vs : List V}, RpAll K H vs ds → RpAll K H' vs ds
  | [], _, h => by cases h; exact .nil
  | d :: ds, _, h => by
    cases h with
    | cons h1 h2 => exact .cons (dp_same e d h1) (dps_same e ds h2)
end
section
variable {K : PySem.W.Frag} {H H' : Hp} {v : V} {vs : List V} {d : PyData} {ds : List PyData}
theorem RpAll.len : ∀ {vs : List V} {ds : List PyData}, RpAll K H vs ds → vs.length = ds.length
  | _, _, .nil => rfl
  | _, _, .cons _ t => congrArg (· + 1) (RpAll.len t)
theorem RpAll.get : ∀ {vs : List V} {ds : List PyData} {i : Nat} {d : PyData}, RpAll K H vs ds → ds[i]? = some d → ∃ v, vs[i]? = some v ∧ Rp K H v d
  | _, _, _, _, .nil, e => by simp at e
  | _, _, 0, _, .cons h _, e => by simp at e; subst e; exact ⟨_, rfl, h⟩
  | _, _, i + 1, d, .cons _ t, e => by
    obtain ⟨v, h1, h2⟩ := RpAll.get (i := i) (d := d) t (by simpa using e)
    exact ⟨v, by simpa using h1, h2⟩
theorem RpAll.get' : ∀ {vs : List V} {ds : List PyData} {i : Nat} {v : V}, RpAll K H vs ds → vs[i]? = some v → ∃ d, ds[i]? = some d ∧ Rp K H v d
  | _, _, _, _, .nil, e => by simp at e
  | _, _, 0, _, .cons h _, e => by simp at e; subst e; exact ⟨_, rfl, h⟩
  | _, _, i + 1, d, .cons _ t, e => by
    obtain ⟨v, h1, h2⟩ := RpAll.get' (i := i) t (by simpa using e)
    exact ⟨v, by simpa using h1, h2⟩
theorem RpAll.app : ∀ {vs ws : List V} {ds es : List PyData}, RpAll K H vs ds → RpAll K H ws es → RpAll K H (vs ++ ws) (ds ++ es)
  | _, _, _, _, .nil, s => s
  | _, _, _, _, .cons r t, s => .cons r (RpAll.app t s)
theorem RpAll.one (h : Rp K H v d) : RpAll K H [v] [d] := .cons h .nil
theorem RpAll.setAt (h : Rp K H v d) : ∀ {vs : List V} {ds : List PyData} (i : Nat), RpAll K H vs ds → RpAll K H (vs.set i v) (ds.set i d)
  | _, _, _, .nil => .nil
  | _, _, 0, .cons _ t => .cons h t
  | _, _, i + 1, .cons q t => .cons q (RpAll.setAt h i t)
theorem RpAll.take : ∀ {vs : List V} {ds : List PyData} (n : Nat), RpAll K H vs ds → RpAll K H (vs.take n) (ds.take n)
  | _, _, 0, _ => by simpa using RpAll.nil
  | _, _, _ + 1, .nil => .nil
  | _, _, n + 1, .cons r t => .cons r (RpAll.take n t)
theorem RpAll.drop : ∀ {vs : List V} {ds : List PyData} (n : Nat), RpAll K H vs ds → RpAll K H (vs.drop n) (ds.drop n)
  | _, _, 0, r => r
  | _, _, _ + 1, .nil => .nil
  | _, _, n + 1, .cons _ t => RpAll.drop n t
end

/-! ### slots -/
/-- σ's slots hold what ρ tells: values over what stands still (G), own lists (their cells in cs) -/
inductive Slots (K : PySem.W.Frag) (F G H : Hp) : List (Option V) → En → List Addr → Prop
  | nil : Slots K F G H [] [] []
  | skip {x σ ρ cs} : Slots K F G H σ ρ cs → Slots K F G H (x :: σ) (none :: ρ) cs
  | raw {v P σ ρ cs} : (∀ G', Same G G' → P G') → Slots K F G H σ ρ cs → Slots K F G H (some v :: σ) (some (.raw v P) :: ρ) cs
  | val {v d σ ρ cs} : Rp K G v d → Slots K F G H σ ρ cs → Slots K F G H (some v :: σ) (some (.val d) :: ρ) cs
  | own {a vs ds t σ ρ cs} : (∀ b, t = some b → b = a) → G a = none → F a = none → H a = some (.lst vs) → RpAll K G vs ds → a ∉ cs → Slots K F G H σ ρ cs → Slots K F G H (some (.ref a) :: σ) (some (.own ds t) :: ρ) (a :: cs)
section
variable {K : PySem.W.Frag} {F G G' H H' : Hp} {σ : List (Option V)} {ρ : En} {cs : List Addr}
theorem Slots.len (h : Slots K F G H σ ρ cs) : σ.length = ρ.length := by
  induction h with
  | nil => rfl
  | skip _ ih => simp [ih]
  | raw _ _ ih => simp [ih]
  | val _ _ ih => simp [ih]
  | own _ _ _ _ _ _ _ ih => simp [ih]
theorem Slots.val_at (h : Slots K F G H σ ρ cs) : ∀ {i : Nat} {d : PyData}, ρ[i]? = some (some (.val d)) → ∃ v, σ[i]? = some (some v) ∧ Rp K G v d := by
  induction h with
  | nil => intro i d e; simp at e
  | skip _ ih =>
    intro i d e
    cases i with
    | zero => simp at e
    | succ i => simpa using ih (i := i) (by simpa using e)
  | raw _ _ ih =>
    intro i d e
    cases i with
    | zero => simp at e
    | succ i => simpa using ih (i := i) (by simpa using e)
  | val hv _ ih =>
    intro i d e
    cases i with
    | zero => simp at e; subst e; exact ⟨_, rfl, hv⟩
    | succ i => simpa using ih (i := i) (by simpa using e)
  | own _ _ _ _ _ _ _ ih =>
    intro i d e
    cases i with
    | zero => simp at e
    | succ i => simpa using ih (i := i) (by simpa using e)
theorem Slots.raw_at (h : Slots K F G H σ ρ cs) : ∀ {i : Nat} {v : V} {P : Hp → Prop}, ρ[i]? = some (some (.raw v P)) → σ[i]? = some (some v) ∧ ∀ G', Same G G' → P G' := by
  induction h with
  | nil => intro i d P e; simp at e
  | raw hp _ ih =>
    intro i d P e
    cases i with
    | zero => simp at e; obtain ⟨rfl, rfl⟩ := e; exact ⟨rfl, hp⟩
    | succ i => simpa using ih (i := i) (by simpa using e)
  | skip _ ih =>
    intro i d P e
    cases i with
    | zero => simp at e
    | succ i => simpa using ih (i := i) (by simpa using e)
  | val hv _ ih =>
    intro i d P e
    cases i with
    | zero => simp at e
    | succ i => simpa using ih (i := i) (by simpa using e)
  | own _ _ _ _ _ _ _ ih =>
    intro i d P e
    cases i with
    | zero => simp at e
    | succ i => simpa using ih (i := i) (by simpa using e)
theorem Slots.own_at (h : Slots K F G H σ ρ cs) : ∀ {i : Nat} {ds : List PyData} {t : Option Addr}, ρ[i]? = some (some (.own ds t)) → ∃ a vs, σ[i]? = some (some (.ref a)) ∧ a ∈ cs ∧ H a = some (.lst vs) ∧ RpAll K G vs ds ∧ ∀ b, t = some b → b = a := by
  induction h with
  | nil => intro i d t e; simp at e
  | skip _ ih =>
    intro i d t e
    cases i with
    | zero => simp at e
    | succ i => simpa using ih (i := i) (by simpa using e)
  | raw _ _ ih =>
    intro i d t e
    cases i with
    | zero => simp at e
    | succ i => simpa using ih (i := i) (by simpa using e)
  | val hv _ ih =>
    intro i d t e
    cases i with
    | zero => simp at e
    | succ i => simpa using ih (i := i) (by simpa using e)
  | @own a vs ds t σ ρ cs h0 h1 h2 h3 h4 h5 h6 ih =>
    intro i d t e
    cases i with
    | zero => simp at e; obtain ⟨rfl, rfl⟩ := e; exact ⟨a, vs, rfl, List.mem_cons_self, h3, h4, h0⟩
    | succ i =>
      obtain ⟨b, ws, e1, e2, e3, e4, e5⟩ := ih (i := i) (by simpa using e)
      exact ⟨b, ws, by simpa using e1, List.mem_cons_of_mem _ e2, e3, e4, e5⟩
theorem Slots.cell (h : Slots K F G H σ ρ cs) : ∀ a ∈ cs, G a = none ∧ F a = none ∧ ∃ vs, H a = some (.lst vs) := by
  induction h with
  | nil => intro a e; simp at e
  | skip _ ih => exact ih
  | raw _ _ ih => exact ih
  | val _ _ ih => exact ih
  | own h0 h1 h2 h3 h4 h5 h6 ih =>
    intro b e
    rcases List.mem_cons.mp e with e | e
    · subst e; exact ⟨h1, h2, _, h3⟩
    · exact ih b e
theorem Slots.grow (h : Slots K F G H σ ρ cs) (e : Same G G') (hG : ∀ a ∈ cs, G' a = none) (hH : ∀ a ∈ cs, H' a = H a) : Slots K F G' H' σ ρ cs := by
  induction h with
  | nil => exact .nil
  | skip _ ih => exact .skip (ih hG hH)
  | raw hp _ ih => exact .raw (fun G'' e' => hp G'' (e.trans e')) (ih hG hH)
  | val hv _ ih => exact .val (dp_same e _ hv) (ih hG hH)
  | own h0 h1 h2 h3 h4 h5 h6 ih =>
    exact .own h0 (hG _ List.mem_cons_self) h2 ((hH _ List.mem_cons_self).trans h3) (dps_same e _ h4) h5 (ih (fun a m => hG a (List.mem_cons_of_mem _ m)) fun a m => hH a (List.mem_cons_of_mem _ m))
theorem Slots.put {v : V} {d : PyData} (h : Slots K F G H σ ρ cs) (hv : Rp K G v d) : ∀ i : Nat, ∃ cs', (∀ a ∈ cs', a ∈ cs) ∧ Slots K F G H (σ.set i (some v)) (ρ.set i (some (.val d))) cs' := by
  induction h with
  | nil => intro i; exact ⟨[], fun _ m => m, by simpa using Slots.nil⟩
  | skip h ih =>
    intro i
    cases i with
    | zero => exact ⟨_, fun _ m => m, .val hv h⟩
    | succ i =>
      obtain ⟨cs', h1, h2⟩ := ih i
      exact ⟨cs', h1, .skip h2⟩
  | raw hp h ih =>
    intro i
    cases i with
    | zero => exact ⟨_, fun _ m => m, .val hv h⟩
    | succ i =>
      obtain ⟨cs', h1, h2⟩ := ih i
      exact ⟨cs', h1, .raw hp h2⟩
  | val q h ih =>
    intro i
    cases i with
    | zero => exact ⟨_, fun _ m => m, .val hv h⟩
    | succ i =>
      obtain ⟨cs', h1, h2⟩ := ih i
      exact ⟨cs', h1, .val q h2⟩
  | own q0 q1 q2 q3 q4 q5 h ih =>
    intro i
    cases i with
    | zero => exact ⟨_, fun _ m => List.mem_cons_of_mem _ m, .val hv h⟩
    | succ i =>
      obtain ⟨cs', h1, h2⟩ := ih i
      exact ⟨_ :: cs', fun a m => (List.mem_cons.mp m).elim (fun z => by rw [z]; exact List.mem_cons_self) fun z => List.mem_cons_of_mem _ (h1 a z), .own q0 q1 q2 q3 q4 (fun z => q5 (h1 _ z)) h2⟩
theorem Slots.forget (h : Slots K F G H σ ρ cs) : ∀ (x : Option V) (i : Nat), ∃ cs', (∀ a ∈ cs', a ∈ cs) ∧ Slots K F G H (σ.set i x) (ρ.set i none) cs' := by
  induction h with
  | nil => intro x i; exact ⟨[], fun _ m => m, by simpa using Slots.nil⟩
  | skip h ih =>
    intro x i
    cases i with
    | zero => exact ⟨_, fun _ m => m, .skip h⟩
    | succ i =>
      obtain ⟨cs', h1, h2⟩ := ih x i
      exact ⟨cs', h1, .skip h2⟩
  | raw hp h ih =>
    intro x i
    cases i with
    | zero => exact ⟨_, fun _ m => m, .skip h⟩
    | succ i =>
      obtain ⟨cs', h1, h2⟩ := ih x i
      exact ⟨cs', h1, .raw hp h2⟩
  | val q h ih =>
    intro x i
    cases i with
    | zero => exact ⟨_, fun _ m => m, .skip h⟩
    | succ i =>
      obtain ⟨cs', h1, h2⟩ := ih x i
      exact ⟨cs', h1, .val q h2⟩
  | own q0 q1 q2 q3 q4 q5 h ih =>
    intro x i
    cases i with
    | zero => exact ⟨_, fun _ m => List.mem_cons_of_mem _ m, .skip h⟩
    | succ i =>
      obtain ⟨cs', h1, h2⟩ := ih x i
      exact ⟨_ :: cs', fun a m => (List.mem_cons.mp m).elim (fun z => by rw [z]; exact List.mem_cons_self) fun z => List.mem_cons_of_mem _ (h1 a z), .own q0 q1 q2 q3 q4 (fun z => q5 (h1 _ z)) h2⟩
theorem Slots.putOwn {a : Addr} {vs : List V} {ds : List PyData} (h : Slots K F G H σ ρ cs) (g1 : G a = none) (g2 : F a = none) (g3 : H a = some (.lst vs)) (g4 : RpAll K G vs ds) (g5 : a ∉ cs) :
    ∀ i : Nat, ∃ cs', (∀ b ∈ cs', b = a ∨ b ∈ cs) ∧ Slots K F G H (σ.set i (some (.ref a))) (ρ.set i (some (.own ds none))) cs' := by
  induction h with
  | nil => intro i; exact ⟨[], fun _ m => .inr m, by simpa using Slots.nil⟩
  | skip h ih =>
    intro i
    cases i with
    | zero => exact ⟨_, fun b m => (List.mem_cons.mp m), .own (fun _ z => nomatch z) g1 g2 g3 g4 g5 h⟩
    | succ i =>
      obtain ⟨cs', h1, h2⟩ := ih g5 i
      exact ⟨cs', h1, .skip h2⟩
  | raw hp h ih =>
    intro i
    cases i with
    | zero => exact ⟨_, fun b m => (List.mem_cons.mp m), .own (fun _ z => nomatch z) g1 g2 g3 g4 g5 h⟩
    | succ i =>
      obtain ⟨cs', h1, h2⟩ := ih g5 i
      exact ⟨cs', h1, .raw hp h2⟩
  | val q h ih =>
    intro i
    cases i with
    | zero => exact ⟨_, fun b m => (List.mem_cons.mp m), .own (fun _ z => nomatch z) g1 g2 g3 g4 g5 h⟩
    | succ i =>
      obtain ⟨cs', h1, h2⟩ := ih g5 i
      exact ⟨cs', h1, .val q h2⟩
  | @own b vs ds t σ ρ cs q0 q1 q2 q3 q4 q5 h ih =>
    intro i
    cases i with
    | zero => exact ⟨_, fun c m => (List.mem_cons.mp m).imp id fun z => List.mem_cons_of_mem _ z, .own (fun _ z => nomatch z) g1 g2 g3 g4 (fun z => g5 (List.mem_cons_of_mem _ z)) h⟩
    | succ i =>
      obtain ⟨cs', h1, h2⟩ := ih (fun z => g5 (List.mem_cons_of_mem _ z)) i
      refine ⟨b :: cs', fun c m => ?_, .own q0 q1 q2 q3 q4 (fun z => ?_) h2⟩
      · rcases List.mem_cons.mp m with z | z
        · rw [z]; exact .inr List.mem_cons_self
        · exact (h1 c z).imp id fun z => List.mem_cons_of_mem _ z
      · rcases h1 b z with e | e
        · exact g5 (by rw [e]; exact List.mem_cons_self)
        · exact q5 e
theorem Slots.write {a : Addr} {vs : List V} {ds ds' : List PyData} {t : Option Addr} (h : Slots K F G H σ ρ cs) : ∀ {i : Nat}, ρ[i]? = some (some (.own ds t)) → σ[i]? = some (some (.ref a)) → RpAll K G vs ds' →
    Slots K F G (upd H a (.lst vs)) σ (ρ.set i (some (.own ds' t))) cs := by
  have hh := h
  induction h with
  | nil => intro i e; simp at e
  | skip h ih =>
    intro i e1 e2 hv
    cases i with
    | zero => simp at e1
    | succ i => exact .skip (ih h (by simpa using e1) (by simpa using e2) hv)
  | raw hp h ih =>
    intro i e1 e2 hv
    cases i with
    | zero => simp at e1
    | succ i => exact .raw hp (ih h (by simpa using e1) (by simpa using e2) hv)
  | val q h ih =>
    intro i e1 e2 hv
    cases i with
    | zero => simp at e1
    | succ i => exact .val q (ih h (by simpa using e1) (by simpa using e2) hv)
  | @own b ws es t σ ρ cs q0 q1 q2 q3 q4 q5 h ih =>
    intro i e1 e2 hv
    cases i with
    | zero =>
      simp at e1 e2
      subst e2
      obtain ⟨_, rfl⟩ := e1
      refine .own q0 q1 q2 upd_same hv q5 (h.grow (Same.refl _) (fun c m => (h.cell c m).1) fun c m => upd_ne fun z => q5 (by rw [← z]; exact m))
    | succ i =>
      have e1' := by simpa using e1
      have e2' : σ[i]? = some (some (.ref a)) := by simpa using e2
      obtain ⟨c, us, f1, f2, f3, f4, f5⟩ := h.own_at e1'
      have ea : a = c := by
        rw [e2'] at f1
        cases f1; rfl
      subst ea
      exact .own q0 q1 q2 ((upd_ne fun z => q5 (by rw [z]; exact f2)).trans q3) q4 q5 (ih h e1' e2' hv)
/-- an own list that no one will change any more -/
theorem Slots.freeze {a : Addr} {vs : List V} {ds : List PyData} {t : Option Addr} (h : Slots K F G H σ ρ cs) : ∀ {i : Nat}, ρ[i]? = some (some (.own ds t)) → σ[i]? = some (some (.ref a)) → H a = some (.lst vs) →
    ∃ cs', (∀ b ∈ cs', b ∈ cs) ∧ Slots K F (upd G a (.lst vs)) H σ (ρ.set i (some (.val (.list ds)))) cs' := by
  induction h with
  | nil => intro i e; simp at e
  | skip h ih =>
    intro i e1 e2 hv
    cases i with
    | zero => simp at e1
    | succ i =>
      obtain ⟨cs', h1, h2⟩ := ih (by simpa using e1) (by simpa using e2) hv
      exact ⟨cs', h1, .skip h2⟩
  | raw hp h ih =>
    intro i e1 e2 hv
    cases i with
    | zero => simp at e1
    | succ i =>
      have e1' := by simpa using e1
      have e2' := by simpa using e2
      obtain ⟨cs', h1, h2⟩ := ih e1' e2' hv
      obtain ⟨c, us, f1, f2, f3, f4⟩ := h.own_at e1'
      rw [e2'] at f1
      cases f1
      exact ⟨cs', h1, .raw (fun G' e => hp G' ((Same.new (h.cell _ f2).1).trans e)) h2⟩
  | val q h ih =>
    intro i e1 e2 hv
    cases i with
    | zero => simp at e1
    | succ i =>
      have e1' := by simpa using e1
      have e2' := by simpa using e2
      obtain ⟨cs', h1, h2⟩ := ih e1' e2' hv
      obtain ⟨c, us, f1, f2, f3, f4, f5⟩ := h.own_at e1'
      rw [e2'] at f1
      cases f1
      exact ⟨cs', h1, .val (dp_same (Same.new (h.cell _ f2).1) _ q) h2⟩
  | @own b ws es t σ ρ cs q0 q1 q2 q3 q4 q5 h ih =>
    intro i e1 e2 hv
    cases i with
    | zero =>
      simp at e1 e2
      subst e2
      obtain ⟨rfl, rfl⟩ := e1
      rw [q3] at hv
      cases hv
      have sm := Same.new (o := .lst vs) q1
      exact ⟨cs, fun _ m => List.mem_cons_of_mem _ m, .val (.lst (Rd.of upd_same) (dps_same sm _ q4)) (h.grow sm (fun c m => (upd_ne fun z => q5 (by rw [← z]; exact m)).trans (h.cell c m).1) fun _ _ => rfl)⟩
    | succ i =>
      have e1' := by simpa using e1
      have e2' := by simpa using e2
      obtain ⟨cs', h1, h2⟩ := ih e1' e2' hv
      obtain ⟨c, us, f1, f2, f3, f4, f5⟩ := h.own_at e1'
      rw [e2'] at f1
      cases f1
      refine ⟨b :: cs', fun c m => ?_, .own q0 ((upd_ne fun z => q5 (by rw [z]; exact f2)).trans q1) q2 q3 (dps_same (Same.new (h.cell _ f2).1) _ q4) (fun z => q5 (h1 _ z)) h2⟩
      rcases List.mem_cons.mp m with z | z
      · rw [z]; exact List.mem_cons_self
      · exact List.mem_cons_of_mem _ (h1 c z)
end

/-! ### states -/
abbrev Px := List (Addr × List V)
theorem tab_upd {H : Hp} {P a : Addr} {q : Str} {o : HO} (h : LamX.TabS H P q) (ha : H a = none ∨ ∃ xs, H a = some (.lst xs)) : LamX.TabS (upd H a o) P q := by
  obtain ⟨ps, h1, h2, h3⟩ := h
  have ne : ∀ b u, H b = some u → (∀ xs, u ≠ .lst xs) → b ≠ a := fun b u e n z => by
    rw [z] at e
    rcases ha with ha | ⟨xs, ha⟩
    · rw [ha] at e; cases e
    · rw [ha] at e; cases e; exact n xs rfl
  refine ⟨ps, by rw [upd_ne (ne _ _ h1 fun xs z => by cases z)]; exact h1, h2, fun pos cv hc => ?_⟩
  obtain ⟨c, e1, e2⟩ := h3 pos cv hc
  exact ⟨c, e1, by rw [upd_ne (ne _ _ e2 fun xs z => by unfold LamX.CodeO at z; cases z)]; exact e2⟩
theorem tab_ne {H : Hp} {P a : Addr} {q : Str} (h : LamX.TabS H P q) (ha : H a = none ∨ ∃ xs, H a = some (.lst xs)) : P ≠ a := fun z => by
  obtain ⟨ps, h1, _⟩ := h
  rw [z] at h1
  rcases ha with ha | ⟨xs, ha⟩ <;> rw [ha] at h1 <;> cases h1

/-- G: what stands still; F: the frame, what stood at the entry; px: lists of one's own that no slot holds -/
structure StG (K : PySem.W.Frag) (W : Wx) (F : Hp) (px : Px) (ρ : En) (σ : List (Option V)) (H G : Hp) : Prop where
  gh : Same G H
  fh : Same F H
  sl : ∃ cs, Slots K F G H σ ρ cs ∧ ∀ p ∈ px, p.1 ∉ cs
  pv : ∀ p ∈ px, H p.1 = some (.lst p.2) ∧ G p.1 = none ∧ F p.1 = none
  nd : (px.map (·.1)).Nodup
  tb : ∀ p ∈ W.tabs, LamX.TabS H p.1 p.2 ∧ G p.1 = none ∧ F p.1 = none
  nt : ∀ b ps, G b ≠ some (.tbl ps) ∧ F b ≠ some (.tbl ps)
section
variable {K : PySem.W.Frag} {W : Wx} {F G H : Hp} {px : Px} {σ : List (Option V)} {ρ : En} {p : Addr} {o : HO}
theorem nt_upd {vs : List V} (h : ∀ b ps, G b ≠ some (.tbl ps) ∧ F b ≠ some (.tbl ps)) : ∀ b ps, upd G p (.lst vs) b ≠ some (.tbl ps) ∧ F b ≠ some (.tbl ps) := fun b ps => ⟨fun z => by
  by_cases hb : b = p
  · rw [hb, upd_same] at z
    cases z
  · rw [upd_ne hb] at z
    exact (h b ps).1 z, (h b ps).2⟩
theorem StG.alloc (st : StG K W F px ρ σ H G) (hp : H p = none) (ho : ∀ ps, o ≠ .tbl ps := by intro _ z; cases z) : StG K W F px ρ σ (upd H p o) (upd G p o) := by
  obtain ⟨cs, sl, ds⟩ := st.sl
  have gp : G p = none := st.gh.free hp
  refine ⟨fun a u e => ?_, fun a u e => ?_, ⟨cs, sl.grow (Same.new gp) (fun a m => ?_) fun a m => ?_, ds⟩, fun q hq => ?_, st.nd, fun q hq => ⟨tab_upd (st.tb q hq).1 (.inl hp), by rw [upd_ne (tab_ne (st.tb q hq).1 (.inl hp))]; exact (st.tb q hq).2.1, (st.tb q hq).2.2⟩, fun b ps => ⟨fun z => ?_, (st.nt b ps).2⟩⟩
  · by_cases ha : a = p
    · subst ha
      rw [upd_same] at e ⊢
      exact e
    · rw [upd_ne ha] at e ⊢
      exact st.gh a u e
  · exact (Same.new hp) a u (st.fh a u e)
  · obtain ⟨c1, _, vs, c3⟩ := sl.cell a m
    rw [upd_ne (ne_of_none c3 hp)]
    exact c1
  · obtain ⟨_, _, vs, c3⟩ := sl.cell a m
    exact upd_ne (ne_of_none c3 hp)
  · obtain ⟨h1, h2, h3⟩ := st.pv q hq
    have ne := ne_of_none h1 hp
    exact ⟨by rw [upd_ne ne]; exact h1, by rw [upd_ne ne]; exact h2, h3⟩
  · by_cases hb : b = p
    · rw [hb, upd_same] at z
      exact ho ps (Option.some.inj z)
    · rw [upd_ne hb] at z
      exact (st.nt b ps).1 z
theorem StG.put {v : V} {d : PyData} (st : StG K W F px ρ σ H G) (hv : Rp K G v d) (i : Nat) : StG K W F px (ρ.set i (some (.val d))) (σ.set i (some v)) H G := by
  obtain ⟨cs, sl, ds⟩ := st.sl
  obtain ⟨cs', hc, h⟩ := sl.put hv i
  exact ⟨st.gh, st.fh, ⟨cs', h, fun p hp z => ds p hp (hc _ z)⟩, st.pv, st.nd, st.tb, st.nt⟩
theorem StG.forget (st : StG K W F px ρ σ H G) (x : Option V) (i : Nat) : StG K W F px (ρ.set i none) (σ.set i x) H G := by
  obtain ⟨cs, sl, ds⟩ := st.sl
  obtain ⟨cs', hc, h⟩ := sl.forget x i
  exact ⟨st.gh, st.fh, ⟨cs', h, fun p hp z => ds p hp (hc _ z)⟩, st.pv, st.nd, st.tb, st.nt⟩
/-- a new list of one's own -/
theorem StG.newP {vs : List V} (st : StG K W F px ρ σ H G) (hp : H p = none) : StG K W F ((p, vs) :: px) ρ σ (upd H p (.lst vs)) G := by
  obtain ⟨cs, sl, ds⟩ := st.sl
  have gp : G p = none := st.gh.free hp
  have pc : p ∉ cs := fun z => by
    obtain ⟨_, _, vs, c3⟩ := sl.cell p z
    rw [hp] at c3
    cases c3
  refine ⟨fun a u e => (Same.new hp) a u (st.gh a u e), fun a u e => (Same.new hp) a u (st.fh a u e), ⟨cs, sl.grow (Same.refl _) (fun a m => (sl.cell a m).1) fun a m => upd_ne fun z => pc (by rw [← z]; exact m), fun q hq => ?_⟩, fun q hq => ?_, ?_, fun q hq => ⟨tab_upd (st.tb q hq).1 (.inl hp), (st.tb q hq).2⟩, st.nt⟩
  · rcases List.mem_cons.mp hq with e | hq
    · rw [e]; exact pc
    · exact ds q hq
  · rcases List.mem_cons.mp hq with e | hq
    · rw [e]; exact ⟨upd_same, gp, st.fh.free hp⟩
    · obtain ⟨h1, h2, h3⟩ := st.pv q hq
      exact ⟨by rw [upd_ne (ne_of_none h1 hp)]; exact h1, h2, h3⟩
  · rw [List.map_cons, List.nodup_cons]
    refine ⟨fun z => ?_, st.nd⟩
    obtain ⟨q, hq, e⟩ := List.mem_map.mp z
    obtain ⟨h1, _⟩ := st.pv q hq
    have e : q.1 = p := e
    rw [e, hp] at h1
    cases h1
/-- it is changed -/
theorem StG.writeP {vs ws : List V} (st : StG K W F ((p, vs) :: px) ρ σ H G) : StG K W F ((p, ws) :: px) ρ σ (upd H p (.lst ws)) G := by
  obtain ⟨cs, sl, ds⟩ := st.sl
  obtain ⟨h1, h2, h3⟩ := st.pv _ List.mem_cons_self
  have pc := ds _ List.mem_cons_self
  have nd := st.nd
  rw [List.map_cons, List.nodup_cons] at nd
  refine ⟨fun a u e => by rw [upd_ne (ne_of_none e h2)]; exact st.gh a u e, fun a u e => by rw [upd_ne (ne_of_none e h3)]; exact st.fh a u e, ⟨cs, sl.grow (Same.refl _) (fun a m => (sl.cell a m).1) fun a m => upd_ne fun z => pc (by rw [← z]; exact m), fun q hq => ?_⟩, fun q hq => ?_, ?_, fun q hq => ⟨tab_upd (st.tb q hq).1 (.inr ⟨_, h1⟩), (st.tb q hq).2⟩, st.nt⟩
  · rcases List.mem_cons.mp hq with e | hq
    · rw [e]; exact pc
    · exact ds q (List.mem_cons_of_mem _ hq)
  · rcases List.mem_cons.mp hq with e | hq
    · rw [e]; exact ⟨upd_same, h2, h3⟩
    · obtain ⟨g1, g2, g3⟩ := st.pv q (List.mem_cons_of_mem _ hq)
      exact ⟨by rw [upd_ne fun z => nd.1 (by rw [← z]; exact List.mem_map.mpr ⟨q, hq, rfl⟩)]; exact g1, g2, g3⟩
  · rw [List.map_cons, List.nodup_cons]
    exact nd
/-- no one will change it any more -/
theorem StG.freezeP {vs : List V} (st : StG K W F ((p, vs) :: px) ρ σ H G) : StG K W F px ρ σ H (upd G p (.lst vs)) := by
  obtain ⟨cs, sl, ds⟩ := st.sl
  obtain ⟨h1, h2, h3⟩ := st.pv _ List.mem_cons_self
  have pc := ds _ List.mem_cons_self
  have nd := st.nd
  rw [List.map_cons, List.nodup_cons] at nd
  refine ⟨fun a u e => ?_, st.fh, ⟨cs, sl.grow (Same.new h2) (fun a m => by rw [upd_ne fun z => pc (by rw [← z]; exact m)]; exact (sl.cell a m).1) fun _ _ => rfl, fun q hq => ds q (List.mem_cons_of_mem _ hq)⟩, fun q hq => ?_, nd.2, fun q hq => ⟨(st.tb q hq).1, by rw [upd_ne (tab_ne (st.tb q hq).1 (.inr ⟨_, h1⟩))]; exact (st.tb q hq).2.1, (st.tb q hq).2.2⟩, nt_upd st.nt⟩
  · by_cases ha : a = p
    · subst ha
      rw [upd_same] at e
      cases e
      exact h1
    · rw [upd_ne ha] at e
      exact st.gh a u e
  · obtain ⟨g1, g2, g3⟩ := st.pv q (List.mem_cons_of_mem _ hq)
    exact ⟨g1, by rw [upd_ne fun z => nd.1 (by rw [← z]; exact List.mem_map.mpr ⟨q, hq, rfl⟩)]; exact g2, g3⟩
/-- a slot takes it -/
theorem StG.ownP {vs : List V} {ds : List PyData} (st : StG K W F ((p, vs) :: px) ρ σ H G) (hd : RpAll K G vs ds) (i : Nat) : StG K W F px (ρ.set i (some (.own ds none))) (σ.set i (some (.ref p))) H G := by
  obtain ⟨cs, sl, dj⟩ := st.sl
  obtain ⟨h1, h2, h3⟩ := st.pv _ List.mem_cons_self
  have pc := dj _ List.mem_cons_self
  have nd := st.nd
  rw [List.map_cons, List.nodup_cons] at nd
  obtain ⟨cs', hc, h⟩ := sl.putOwn h2 h3 h1 hd pc i
  refine ⟨st.gh, st.fh, ⟨cs', h, fun q hq z => ?_⟩, fun q hq => st.pv q (List.mem_cons_of_mem _ hq), nd.2, st.tb, st.nt⟩
  rcases hc _ z with e | e
  · exact nd.1 (by rw [← e]; exact List.mem_map.mpr ⟨q, hq, rfl⟩)
  · exact dj q (List.mem_cons_of_mem _ hq) e
/-- a slot's own list is changed -/
theorem StG.writeO {a : Addr} {vs : List V} {ds ds' : List PyData} {i : Nat} {t : Option Addr} (st : StG K W F px ρ σ H G) (e1 : ρ[i]? = some (some (.own ds t))) (e2 : σ[i]? = some (some (.ref a))) (hd : RpAll K G vs ds') :
    StG K W F px (ρ.set i (some (.own ds' t))) σ (upd H a (.lst vs)) G := by
  obtain ⟨cs, sl, dj⟩ := st.sl
  obtain ⟨b, us, f1, f2, f3, f4, f5⟩ := sl.own_at e1
  rw [e2] at f1
  cases f1
  obtain ⟨c1, c2, _⟩ := sl.cell _ f2
  exact ⟨fun b u e => by rw [upd_ne (ne_of_none e c1)]; exact st.gh b u e, fun b u e => by rw [upd_ne (ne_of_none e c2)]; exact st.fh b u e, ⟨cs, sl.write e1 e2 hd, dj⟩,
    fun q hq => ⟨by rw [upd_ne fun z => dj q hq (by rw [z]; exact f2)]; exact (st.pv q hq).1, (st.pv q hq).2⟩, st.nd, fun q hq => ⟨tab_upd (st.tb q hq).1 (.inr ⟨_, f3⟩), (st.tb q hq).2⟩, st.nt⟩
theorem StG.freezeO {ds : List PyData} {i : Nat} {t : Option Addr} (st : StG K W F px ρ σ H G) (e1 : ρ[i]? = some (some (.own ds t))) :
    ∃ a vs, σ[i]? = some (some (.ref a)) ∧ RpAll K G vs ds ∧ Same G (upd G a (.lst vs)) ∧ StG K W F px (ρ.set i (some (.val (.list ds)))) σ H (upd G a (.lst vs)) := by
  obtain ⟨cs, sl, dj⟩ := st.sl
  obtain ⟨a, vs, f1, f2, f3, f4, f5⟩ := sl.own_at e1
  obtain ⟨c1, c2, _⟩ := sl.cell _ f2
  obtain ⟨cs', hc, h⟩ := sl.freeze e1 f1 f3
  refine ⟨a, vs, f1, f4, Same.new c1, fun b u e => ?_, st.fh, ⟨cs', h, fun q hq z => dj q hq (hc _ z)⟩, fun q hq => ?_, st.nd, fun q hq => ⟨(st.tb q hq).1, by rw [upd_ne (tab_ne (st.tb q hq).1 (.inr ⟨_, f3⟩))]; exact (st.tb q hq).2.1, (st.tb q hq).2.2⟩, nt_upd st.nt⟩
  · by_cases hb : b = a
    · subst hb
      rw [upd_same] at e
      cases e
      exact f3
    · rw [upd_ne hb] at e
      exact st.gh b u e
  · obtain ⟨g1, g2, g3⟩ := st.pv q hq
    exact ⟨g1, by rw [upd_ne fun z => dj q hq (by rw [z]; exact f2)]; exact g2, g3⟩
end

/-! ### readings -/
def Go {α : Type} (W : Wx) (F : Hp) (r : R α) (P : α → Prop) : Prop :=
  match r with
  | .ok a => P a
  | .ex c ds => ∀ H', Same F H' → LamX.Tabs W.tabs H' → W.ex c ds H'
  | .no => False
theorem Go.bind {α β : Type} {W : Wx} {F : Hp} {r : R α} {f : α → R β} {P : β → Prop} {P' : α → Prop} (h : Go W F (r.bind f) P) (k : ∀ a, Go W F (f a) P → P' a) : Go W F r P' := by
  cases r with
  | ok a => exact k a h
  | ex c ds => exact h
  | no => exact h
theorem Go.imp {α : Type} {W : Wx} {F : Hp} {r : R α} {P P' : α → Prop} (h : Go W F r P) (k : ∀ a, P a → P' a) : Go W F r P' := by
  cases r with
  | ok a => exact k a h
  | ex c ds => exact h
  | no => exact h

/-- what is wanted behind an expression that comes to d -/
def Vl (K : PySem.W.Frag) (W : Wx) (px : Px) (ρ : En) (F G : Hp) (σ : List (Option V)) (Q : VK) : PyData → Prop := fun d => ∀ v H' G', Same G G' → StG K W F px ρ σ H' G' → Rp K G' v d → Q v H'
def VlB (K : PySem.W.Frag) (W : Wx) (px : Px) (ρ : En) (F G : Hp) (σ : List (Option V)) (Q : Bool → Hp → Prop) : Bool → Prop := fun b => ∀ H' G', Same G G' → StG K W F px ρ σ H' G' → Q b H'
def VlA (K : PySem.W.Frag) (W : Wx) (px : Px) (ρ : En) (F G : Hp) (σ : List (Option V)) (Q : List V → Hp → Prop) : List PyData → Prop := fun ds => ∀ vs H' G', Same G G' → StG K W F px ρ σ H' G' → RpAll K G' vs ds → Q vs H'
section
variable {K : PySem.W.Frag} {W : Wx} {px : Px} {ρ : En} {F G G' : Hp} {σ : List (Option V)}
theorem Vl.grow {Q : VK} {d : PyData} (e : Same G G') (h : Vl K W px ρ F G σ Q d) : Vl K W px ρ F G' σ Q d := fun v H' G'' e' st dp => h v H' G'' (e.trans e') st dp
theorem VlB.grow {Q : Bool → Hp → Prop} {d : Bool} (e : Same G G') (h : VlB K W px ρ F G σ Q d) : VlB K W px ρ F G' σ Q d := fun H' G'' e' st => h H' G'' (e.trans e') st
theorem VlA.grow {Q : List V → Hp → Prop} {d : List PyData} (e : Same G G') (h : VlA K W px ρ F G σ Q d) : VlA K W px ρ F G' σ Q d := fun v H' G'' e' st dp => h v H' G'' (e.trans e') st dp
end

def tR (K : PySem.W.Frag) (W : Wx) (ρ : En) (r : R PyData) : TE := fun σ H Q => ∃ F G px, StG K W F px ρ σ H G ∧ Go W F r (Vl K W px ρ F G σ Q)
def tT (K : PySem.W.Frag) (W : Wx) (ρ : En) (r : R Bool) : TT := fun σ H Q => ∃ F G px, StG K W F px ρ σ H G ∧ Go W F r (VlB K W px ρ F G σ Q)
def tL (K : PySem.W.Frag) (W : Wx) (ρ : En) (r : R (List PyData)) : TA := fun σ H Q => ∃ F G px, StG K W F px ρ σ H G ∧ Go W F r (VlA K W px ρ F G σ Q)

/-- an expression, a test, arguments from the state ρ, which they leave as it is -/
structure EvR (X : Cx) (W : Wx) (ρ : En) (e : Expr) (r : R PyData) : Prop where
  pe : PE X e (tR X.K W ρ r)
structure EvT (X : Cx) (W : Wx) (ρ : En) (e : Expr) (r : R Bool) : Prop where
  pt : PT X e (tT X.K W ρ r)
structure EvA (X : Cx) (W : Wx) (ρ : En) (es : List Expr) (r : R (List PyData)) : Prop where
  pa : PA X es (tL X.K W ρ r)

theorem PE.imp {X : Cx} {e : Expr} {t t' : TE} (h : PE X e t) (i : ∀ σ H Q, t' σ H Q → t σ H Q) : PE X e t' := ⟨fun pins s σ H Q I q => h.run pins s σ H Q I (i σ H Q q)⟩
theorem PT.imp {X : Cx} {e : Expr} {t t' : TT} (h : PT X e t) (i : ∀ σ H Q, t' σ H Q → t σ H Q) : PT X e t' := ⟨fun pins s σ H Q I q => h.run pins s σ H Q I (i σ H Q q)⟩
theorem PA.imp {X : Cx} {e : List Expr} {t t' : TA} (h : PA X e t) (i : ∀ σ H Q, t' σ H Q → t σ H Q) : PA X e t' := ⟨fun pos pins s σ H Q I q => h.run pos pins s σ H Q I (i σ H Q q)⟩
theorem PSs.imp {X : Cx} {e : List Stmt} {t t' : TS} (h : PSs X e t) (i : ∀ D σ H, t' D σ H → t D σ H) : PSs X e t' := ⟨fun pins s σ H D I q => h.run pins s σ H D I (i D σ H q)⟩
theorem PS.imp {X : Cx} {e : Stmt} {t t' : TS} (h : PS X e t) (i : ∀ D σ H, t' D σ H → t D σ H) : PS X e t' := ⟨fun pins s σ H D I q => h.run pins s σ H D I (i D σ H q)⟩
end SE

set_option maxHeartbeats 4000000
/-! expressions over plain data -/
namespace SE
open PySem PySem.Spec PyProof.Rows L2

theorem PE.impI {X : Cx} {e : Expr} {t t' : TE} (h : PE X e t) (i : ∀ pins s σ H Q, Inv X pins σ H s → t' σ H Q → t σ H Q) : PE X e t' := ⟨fun pins s σ H Q I q => h.run pins s σ H Q I (i pins s σ H Q I q)⟩
theorem OpR.or {X : Cx} {f : Value → Value → Sem Value} {r r' : R2} (h : OpR X f r) (h' : OpR X f r') : OpR X f (fun x y H Q => r x y H Q ∨ r' x y H Q) := by
  intro pins s σ H x y v u Q I rx ry q
  rcases q with q | q
  · exact h pins s σ H x y v u Q I rx ry q
  · exact h' pins s σ H x y v u Q I rx ry q
theorem CallR.or {X : Cx} {f : Value} {r r' : List V → Hp → VK → Prop} (h : CallR X f r) (h' : CallR X f r') : CallR X f (fun xs H Q => r xs H Q ∨ r' xs H Q) := by
  intro pins s σ H vs us Q I r q
  rcases q with q | q
  · exact h pins s σ H vs us Q I r q
  · exact h' pins s σ H vs us Q I r q

section
variable {X : Cx} {W : Wx} {ρ : En} {pos : Pos}
/-! ### names, constants -/
theorem ev_var (i : Nat) {x : Str} {d : PyData} (h : ρ[i]? = some (some (.val d))) (pe : PE X (.Name x pos) (tVar i)) : EvR X W ρ (.Name x pos) (.ok d) := by
  refine ⟨PE.imp pe fun σ H Q h' => ?_⟩
  obtain ⟨F, G, px, st, q⟩ := h'
  obtain ⟨cs, sl, _⟩ := st.sl
  obtain ⟨v, e, dv⟩ := sl.val_at h
  exact ⟨v, e, q v H G (Same.refl G) st dv⟩
theorem ev_c {e : Expr} {v : V} {d : PyData} (pe : PE X e (tC v)) (h : ∀ K H, Rp K H v d) : EvR X W ρ e (.ok d) := by
  refine ⟨PE.imp pe fun σ H Q h' => ?_⟩
  obtain ⟨F, G, px, st, q⟩ := h'
  exact q v H G (Same.refl G) st (h _ _)
theorem ev_int {i j} : EvR X W ρ (.Constant (.int i) j pos) (.ok (.int i)) := ev_c pe_int fun _ _ => .int _
theorem ev_bl {b j} : EvR X W ρ (.Constant (.bool b) j pos) (.ok (.bool b)) := ev_c pe_bl fun _ _ => .bl _
theorem ev_non {j} : EvR X W ρ (.Constant .none j pos) (.ok .none) := ev_c pe_non fun _ _ => .non
theorem ev_str {x j} : EvR X W ρ (.Constant (.str x) j pos) (.ok (.str x)) := ev_c pe_str fun _ _ => .str _

/-! ### lists of arguments -/
def seqR : List (R PyData) → R (List PyData)
  | [] => .ok []
  | r :: rs => r.bind fun d => (seqR rs).bind fun ds => .ok (d :: ds)
theorem ea_nil : EvA X W ρ [] (seqR []) := by
  refine ⟨PA.imp pa_nil fun σ H Q h => ?_⟩
  obtain ⟨F, G, px, st, q⟩ := h
  exact q [] H G (Same.refl G) st .nil
theorem ea_cons {e : Expr} {es : List Expr} {r : R PyData} {rs : List (R PyData)} (he : EvR X W ρ e r) (hs : EvA X W ρ es (seqR rs)) (hst : starEach (e :: es) X.env = (false, eval e X.env) :: starEach es X.env := by rfl) : EvA X W ρ (e :: es) (seqR (r :: rs)) := by
  refine ⟨PA.imp (pa_cons he.pe hs.pa hst) fun σ H Q h => ?_⟩
  obtain ⟨F, G, px, st, q⟩ := h
  refine ⟨F, G, px, st, Go.bind q fun d q1 v H1 G1 e1 st1 dv => ?_⟩
  refine ⟨F, G1, px, st1, Go.bind q1 fun ds q2 vs H2 G2 e2 st2 dvs => ?_⟩
  exact q2 (v :: vs) H2 G2 (e1.trans e2) st2 (.cons (dp_same e2 _ dv) dvs)

/-! ### operators -/
def R.of {α : Type} : Option α → R α
  | some a => .ok a
  | none => .no
@[simp] theorem R.of_some {α : Type} (a : α) : R.of (some a) = .ok a := rfl
@[simp] theorem R.of_none {α : Type} : R.of (none : Option α) = .no := rfl
theorem Go.of {α : Type} {W : Wx} {F : Hp} {o : Option α} {P : α → Prop} (h : Go W F (R.of o) P) : ∃ a, o = some a ∧ P a := by
  cases o with
  | some a => exact ⟨a, rfl, h⟩
  | none => exact h.elim
/-- what the rule r asks is met where f tells what comes -/
def OpD (K : PySem.W.Frag) (r : R2) (f : PyData → PyData → Option PyData) : Prop :=
  ∀ (W : Wx) (F G H : Hp) (px : Px) (ρ : En) (σ : List (Option V)) (x y : V) (dx dy d : PyData) (Q : VK), StG K W F px ρ σ H G → Rp K G x dx → Rp K G y dy → f dx dy = some d → Vl K W px ρ F G σ Q d → r x y H Q
def UnD (K : PySem.W.Frag) (r : V → Hp → VK → Prop) (f : PyData → Option PyData) : Prop :=
  ∀ (W : Wx) (F G H : Hp) (px : Px) (ρ : En) (σ : List (Option V)) (x : V) (dx d : PyData) (Q : VK), StG K W F px ρ σ H G → Rp K G x dx → f dx = some d → Vl K W px ρ F G σ Q d → r x H Q
def CallD (K : PySem.W.Frag) (r : List V → Hp → VK → Prop) (f : List PyData → Option PyData) : Prop :=
  ∀ (W : Wx) (F G H : Hp) (px : Px) (ρ : En) (σ : List (Option V)) (xs : List V) (ds : List PyData) (d : PyData) (Q : VK), StG K W F px ρ σ H G → RpAll K G xs ds → f ds = some d → Vl K W px ρ F G σ Q d → r xs H Q

theorem ev_op {a b : Expr} {op : Operator} {r : R2} {f : PyData → PyData → Option PyData} {ra rb : R PyData} (ho : OpR X (binaryOp op) r) (hd : OpD X.K r f) (ha : EvR X W ρ a ra) (hb : EvR X W ρ b rb) :
    EvR X W ρ (.BinOp a op b pos) (ra.bind fun x => rb.bind fun y => R.of (f x y)) := by
  refine ⟨PE.imp (pe_op ho ha.pe hb.pe) fun σ H Q h => ?_⟩
  obtain ⟨F, G, px, st, q⟩ := h
  refine ⟨F, G, px, st, Go.bind q fun d q1 v H1 G1 e1 st1 dv => ?_⟩
  refine ⟨F, G1, px, st1, Go.bind q1 fun d2 q2 v2 H2 G2 e2 st2 dv2 => ?_⟩
  obtain ⟨d3, e3, q3⟩ := Go.of q2
  exact hd W F G2 H2 px ρ σ v v2 d d2 d3 Q st2 (dp_same e2 _ dv) dv2 e3 (q3.grow (e1.trans e2))
theorem ev_cmp {a b : Expr} {op : CmpOp} {r : R2} {f : PyData → PyData → Option PyData} {ra rb : R PyData} (ho : OpR X (compareOp op) r) (hd : OpD X.K r f) (ha : EvR X W ρ a ra) (hb : EvR X W ρ b rb) (hm : behindInMarks op b = false) :
    EvR X W ρ (.Compare a [op] [b] pos) (ra.bind fun x => rb.bind fun y => R.of (f x y)) := by
  refine ⟨PE.imp (pe_cmpR ho ha.pe hb.pe hm) fun σ H Q h => ?_⟩
  obtain ⟨F, G, px, st, q⟩ := h
  refine ⟨F, G, px, st, Go.bind q fun d q1 v H1 G1 e1 st1 dv => ?_⟩
  refine ⟨F, G1, px, st1, Go.bind q1 fun d2 q2 v2 H2 G2 e2 st2 dv2 => ?_⟩
  obtain ⟨d3, e3, q3⟩ := Go.of q2
  exact hd W F G2 H2 px ρ σ v v2 d d2 d3 Q st2 (dp_same e2 _ dv) dv2 e3 (q3.grow (e1.trans e2))
theorem ev_un {a : Expr} {op : UnaryOp} {r : V → Hp → VK → Prop} {f : PyData → Option PyData} {ra : R PyData} (ho : UnR X (unaryOp op) r) (hd : UnD X.K r f) (ha : EvR X W ρ a ra) : EvR X W ρ (.UnaryOp op a pos) (ra.bind fun x => R.of (f x)) := by
  refine ⟨PE.imp (pe_un ho ha.pe) fun σ H Q h => ?_⟩
  obtain ⟨F, G, px, st, q⟩ := h
  refine ⟨F, G, px, st, Go.bind q fun d q1 v H1 G1 e1 st1 dv => ?_⟩
  obtain ⟨d3, e3, q3⟩ := Go.of q1
  exact hd W F G1 H1 px ρ σ v d d3 Q st1 dv e3 (q3.grow e1)
/-- a < b < c: the third is asked where the first is true -/
def chainR (rc : R PyData) (f' : PyData → PyData → Option PyData) (y : PyData) : PyData → R PyData
  | .bool true => rc.bind fun z => R.of (f' y z)
  | .bool false => .ok (.bool false)
  | _ => .no
theorem ev_chain {a b c : Expr} {op op' : CmpOp} {r r' : R2} {f f' : PyData → PyData → Option PyData} {ra rb rc : R PyData} (ho : OpR X (compareOp op) r) (hd : OpD X.K r f) (ho' : OpR X (compareOp op') r') (hd' : OpD X.K r' f')
    (ha : EvR X W ρ a ra) (hb : EvR X W ρ b rb) (hc : EvR X W ρ c rc) (hm : lastMarks [op, op'] [b, c] = false := by rfl) :
    EvR X W ρ (.Compare a [op, op'] [b, c] pos) (ra.bind fun x => rb.bind fun y => (R.of (f x y)).bind (chainR rc f' y)) := by
  refine ⟨PE.imp (pe_chain ho ho' ha.pe hb.pe hc.pe (hm := hm)) fun σ H Q h => ?_⟩
  obtain ⟨F, G, px, st, q⟩ := h
  refine ⟨F, G, px, st, Go.bind q fun d q1 v H1 G1 e1 st1 dv => ?_⟩
  refine ⟨F, G1, px, st1, Go.bind q1 fun d2 q2 v2 H2 G2 e2 st2 dv2 => ?_⟩
  have q2' := Go.bind (P' := fun k => Go W F (chainR rc f' d2 k) (Vl X.K W px ρ F G σ Q)) q2 fun k q3 => q3
  obtain ⟨d3, e3, q3⟩ := Go.of q2'
  refine hd W F G2 H2 px ρ σ v v2 d d2 d3 _ st2 (dp_same e2 _ dv) dv2 e3 fun z H3 G3 g3 st3 dz => ?_
  cases dz with
  | bl k =>
    refine ⟨k, rfl, ?_⟩
    cases k with
    | true =>
      rw [if_pos rfl]
      refine ⟨F, G3, px, st3, Go.bind q3 fun d3 q4 v3 H4 G4 e4 st4 dv3 => ?_⟩
      obtain ⟨d5, e5, q5⟩ := Go.of q4
      exact hd' W F G4 H4 px ρ σ v2 v3 d2 d3 d5 Q st4 (dp_same (g3.trans e4) _ dv2) dv3 e5 (q5.grow (((e1.trans e2).trans g3).trans e4))
    | false =>
      rw [if_neg Bool.false_ne_true]
      exact q3 _ H3 G3 ((e1.trans e2).trans g3) st3 (.bl _)
  | non => exact q3.elim
  | int _ => exact q3.elim
  | str _ => exact q3.elim
  | lst _ _ => exact q3.elim
  | tup _ _ => exact q3.elim
  | kl _ _ => exact q3.elim

/-! ### truth -/
def asB : PyData → R Bool
  | .bool b => .ok b
  | _ => .no
theorem et_val {e : Expr} {r : R PyData} (he : EvR X W ρ e r) (hi : ∀ whole, isTrue e X.env whole = (do let v ← whole; standAt e.pos; holding [v] (truthy v)) := by intro _; rfl) : EvT X W ρ e (r.bind asB) := by
  refine ⟨PT.imp (pt_val he.pe hi) fun σ H Q h => ?_⟩
  obtain ⟨F, G, px, st, q⟩ := h
  refine ⟨F, G, px, st, Go.bind q fun d q1 v H1 G1 e1 st1 dv => ?_⟩
  cases dv with
  | bl b => exact ⟨b, rfl, q1 H1 G1 e1 st1⟩
  | non => exact q1.elim
  | int _ => exact q1.elim
  | str _ => exact q1.elim
  | lst _ _ => exact q1.elim
  | tup _ _ => exact q1.elim
  | kl _ _ => exact q1.elim
theorem et_cmp {a b : Expr} {op : CmpOp} {r : R2} {f : PyData → PyData → Option PyData} {ra rb : R PyData} (ho : OpR X (compareOp op) r) (hd : OpD X.K r f) (ha : EvR X W ρ a ra) (hb : EvR X W ρ b rb) (hm : behindInMarks op b = false) :
    EvT X W ρ (.Compare a [op] [b] pos) (ra.bind fun x => rb.bind fun y => (R.of (f x y)).bind asB) := by
  refine ⟨PT.imp (pt_cmpR ho ha.pe hb.pe hm) fun σ H Q h => ?_⟩
  obtain ⟨F, G, px, st, q⟩ := h
  refine ⟨F, G, px, st, Go.bind q fun d q1 v H1 G1 e1 st1 dv => ?_⟩
  refine ⟨F, G1, px, st1, Go.bind q1 fun d2 q2 v2 H2 G2 e2 st2 dv2 => ?_⟩
  have q2' := Go.bind (P' := fun k => Go W F (asB k) (VlB X.K W px ρ F G σ Q)) q2 fun k q3 => q3
  obtain ⟨d3, e3, q3⟩ := Go.of q2'
  refine hd W F G2 H2 px ρ σ v v2 d d2 d3 _ st2 (dp_same e2 _ dv) dv2 e3 fun z H3 G3 g3 st3 dz => ?_
  cases dz with
  | bl b => exact ⟨b, rfl, q3 H3 G3 ((e1.trans e2).trans g3) st3⟩
  | non => exact q3.elim
  | int _ => exact q3.elim
  | str _ => exact q3.elim
  | lst _ _ => exact q3.elim
  | tup _ _ => exact q3.elim
  | kl _ _ => exact q3.elim
structure EvW (X : Cx) (W : Wx) (ρ : En) (e : Expr) (r : R Bool) : Prop where
  pw : PW X e (tT X.K W ρ r)
theorem PW.imp {X : Cx} {e : Expr} {t t' : TT} (h : PW X e t) (i : ∀ σ H Q, t' σ H Q → t σ H Q) : PW X e t' := ⟨fun w pins s σ H Q I q => h.run w pins s σ H Q I (i σ H Q q)⟩
theorem ew_pt {e : Expr} {r : R Bool} (h : EvW X W ρ e r) : EvT X W ρ e r := ⟨PW.pt h.pw⟩
variable {a b : Expr} {rest : List Expr} {ra rb : R Bool}
theorem ew_and1 (ha : EvT X W ρ a ra) : EvW X W ρ (.BoolOp .And [a] pos) ra := ⟨pw_and1 ha.pt⟩
theorem ew_or1 (ha : EvT X W ρ a ra) : EvW X W ρ (.BoolOp .Or [a] pos) ra := ⟨pw_or1 ha.pt⟩
theorem ew_and (ha : EvT X W ρ a ra) (hb : EvW X W ρ (.BoolOp .And (b :: rest) pos) rb) : EvW X W ρ (.BoolOp .And (a :: b :: rest) pos) (ra.bind fun k => if k = true then rb else .ok false) := by
  refine ⟨PW.imp (pw_and ha.pt hb.pw) fun σ H Q h => ?_⟩
  obtain ⟨F, G, px, st, q⟩ := h
  refine ⟨F, G, px, st, Go.bind q fun k q1 H1 G1 e1 st1 => ?_⟩
  cases k with
  | true => exact ⟨F, G1, px, st1, q1.imp fun _ => VlB.grow e1⟩
  | false => exact q1 H1 G1 e1 st1
theorem ew_or (ha : EvT X W ρ a ra) (hb : EvW X W ρ (.BoolOp .Or (b :: rest) pos) rb) : EvW X W ρ (.BoolOp .Or (a :: b :: rest) pos) (ra.bind fun k => if k = true then .ok true else rb) := by
  refine ⟨PW.imp (pw_or ha.pt hb.pw) fun σ H Q h => ?_⟩
  obtain ⟨F, G, px, st, q⟩ := h
  refine ⟨F, G, px, st, Go.bind q fun k q1 H1 G1 e1 st1 => ?_⟩
  cases k with
  | false => exact ⟨F, G1, px, st1, q1.imp fun _ => VlB.grow e1⟩
  | true => exact q1 H1 G1 e1 st1
theorem et_not (ha : EvT X W ρ a ra) : EvT X W ρ (.UnaryOp .Not a pos) (ra.bind fun k => .ok (!k)) := by
  refine ⟨PT.imp (pt_not ha.pt) fun σ H Q h => ?_⟩
  obtain ⟨F, G, px, st, q⟩ := h
  exact ⟨F, G, px, st, Go.bind q fun k q1 H1 G1 e1 st1 => q1 H1 G1 e1 st1⟩
/-- and, or, not as values -/
theorem ev_one {op} {r : R PyData} (h : EvR X W ρ a r) : EvR X W ρ (.BoolOp op [a] pos) r := ⟨pe_one h.pe⟩
theorem ev_and {r r' : R PyData} (ha : EvR X W ρ a r) (hb : EvR X W ρ (.BoolOp .And (b :: rest) pos) r') : EvR X W ρ (.BoolOp .And (a :: b :: rest) pos) ((r.bind asB).bind fun k => if k = true then r' else .ok (.bool false)) := by
  refine ⟨PE.imp (pe_and ha.pe hb.pe) fun σ H Q h => ?_⟩
  obtain ⟨F, G, px, st, q⟩ := h
  rw [R.bind_assoc] at q
  refine ⟨F, G, px, st, Go.bind q fun d q1 v H1 G1 e1 st1 dv => ?_⟩
  cases dv with
  | bl k =>
    refine ⟨k, rfl, ?_⟩
    cases k with
    | true => exact ⟨F, G1, px, st1, Go.imp q1 fun _ => Vl.grow e1⟩
    | false => exact q1 _ H1 G1 e1 st1 (.bl _)
  | non => exact q1.elim
  | int _ => exact q1.elim
  | str _ => exact q1.elim
  | lst _ _ => exact q1.elim
  | tup _ _ => exact q1.elim
  | kl _ _ => exact q1.elim
theorem ev_or {r r' : R PyData} (ha : EvR X W ρ a r) (hb : EvR X W ρ (.BoolOp .Or (b :: rest) pos) r') : EvR X W ρ (.BoolOp .Or (a :: b :: rest) pos) ((r.bind asB).bind fun k => if k = true then .ok (.bool true) else r') := by
  refine ⟨PE.imp (pe_or ha.pe hb.pe) fun σ H Q h => ?_⟩
  obtain ⟨F, G, px, st, q⟩ := h
  rw [R.bind_assoc] at q
  refine ⟨F, G, px, st, Go.bind q fun d q1 v H1 G1 e1 st1 dv => ?_⟩
  cases dv with
  | bl k =>
    refine ⟨k, rfl, ?_⟩
    cases k with
    | false => exact ⟨F, G1, px, st1, Go.imp q1 fun _ => Vl.grow e1⟩
    | true => exact q1 _ H1 G1 e1 st1 (.bl _)
  | non => exact q1.elim
  | int _ => exact q1.elim
  | str _ => exact q1.elim
  | lst _ _ => exact q1.elim
  | tup _ _ => exact q1.elim
  | kl _ _ => exact q1.elim
theorem ev_not {r : R PyData} (ha : EvR X W ρ a r) : EvR X W ρ (.UnaryOp .Not a pos) ((r.bind asB).bind fun k => .ok (.bool (!k))) := by
  refine ⟨PE.imp (pe_not ha.pe) fun σ H Q h => ?_⟩
  obtain ⟨F, G, px, st, q⟩ := h
  rw [R.bind_assoc] at q
  refine ⟨F, G, px, st, Go.bind q fun d q1 v H1 G1 e1 st1 dv => ?_⟩
  cases dv with
  | bl k => exact ⟨k, rfl, q1 _ H1 G1 e1 st1 (.bl _)⟩
  | non => exact q1.elim
  | int _ => exact q1.elim
  | str _ => exact q1.elim
  | lst _ _ => exact q1.elim
  | tup _ _ => exact q1.elim
  | kl _ _ => exact q1.elim
theorem ev_if {c : Expr} {rc : R Bool} {r r' : R PyData} (hc : EvT X W ρ c rc) (ha : EvR X W ρ a r) (hb : EvR X W ρ b r') : EvR X W ρ (.IfExp c a b pos) (rc.bind fun k => if k = true then r else r') := by
  refine ⟨PE.imp (pe_ifExp hc.pt ha.pe hb.pe) fun σ H Q h => ?_⟩
  obtain ⟨F, G, px, st, q⟩ := h
  refine ⟨F, G, px, st, Go.bind q fun k q1 H1 G1 e1 st1 => ?_⟩
  cases k with
  | true => exact ⟨F, G1, px, st1, Go.imp q1 fun _ => Vl.grow e1⟩
  | false => exact ⟨F, G1, px, st1, Go.imp q1 fun _ => Vl.grow e1⟩

/-! ### displays -/
theorem sz_dec {n : Nat} (h : decide (n ≤ 100000) = true) : n ≤ sizeLine := Nat.le_trans (of_decide_eq_true h) (by decide)
theorem seqR_len : ∀ {rs : List (R PyData)} {ds : List PyData}, seqR rs = .ok ds → ds.length = rs.length
  | [], ds, h => by cases h; rfl
  | r :: rs, ds, h => by
    cases r with
    | ok d =>
      have h' : (seqR rs).bind (fun ds => .ok (d :: ds)) = .ok ds := h
      cases e : seqR rs with
      | ok es =>
        rw [e] at h'
        cases h'
        exact congrArg (· + 1) (seqR_len e)
      | ex _ _ => rw [e] at h'; cases h'
      | no => rw [e] at h'; cases h'
    | ex _ _ => cases h
    | no => cases h
theorem ev_tup {es : List Expr} {x1} {rs : List (R PyData)} (h : EvA X W ρ es (seqR rs)) (hl : decide (rs.length ≤ 100000) = true := by rfl) : EvR X W ρ (.Tuple es x1 pos) ((seqR rs).bind fun ds => .ok (.tuple ds)) := by
  refine ⟨PE.imp (pe_tup h.pa) fun σ H Q h => ?_⟩
  obtain ⟨F, G, px, st, q⟩ := h
  cases e : seqR rs with
  | ok ds =>
    rw [e] at q
    refine ⟨F, G, px, st, fun vs H1 G1 e1 st1 dv => ⟨?_, fun p hp => ?_⟩⟩
    · rw [RpAll.len dv, seqR_len e]
      exact sz_dec hl
    · have st2 := st1.alloc (o := .tup vs) hp
      have gp := st1.gh.free hp
      exact q _ _ _ (e1.trans (Same.new gp)) st2 (.tup (SqT.of upd_same) (dps_same (Same.new gp) _ dv))
  | ex _ _ => rw [e] at q; exact ⟨F, G, px, st, q⟩
  | no => rw [e] at q; exact q.elim
theorem ev_lst {es : List Expr} {rs : List (R PyData)} (h : EvA X W ρ es (seqR rs)) (hl : decide (rs.length ≤ 100000) = true := by rfl) : EvR X W ρ (.List es pos) ((seqR rs).bind fun ds => .ok (.list ds)) := by
  refine ⟨PE.imp (pe_lst h.pa) fun σ H Q h => ?_⟩
  obtain ⟨F, G, px, st, q⟩ := h
  cases e : seqR rs with
  | ok ds =>
    rw [e] at q
    refine ⟨F, G, px, st, fun vs H1 G1 e1 st1 dv => ⟨?_, fun p hp => ?_⟩⟩
    · rw [RpAll.len dv, seqR_len e]
      exact sz_dec hl
    · have st2 := st1.alloc (o := .lst vs) hp
      have gp := st1.gh.free hp
      exact q _ _ _ (e1.trans (Same.new gp)) st2 (.lst (Rd.of upd_same) (dps_same (Same.new gp) _ dv))
  | ex _ _ => rw [e] at q; exact ⟨F, G, px, st, q⟩
  | no => rw [e] at q; exact q.elim

/-! ### calls of built-in names -/
theorem Go.seq {W : Wx} {F : Hp} {o : R (List PyData)} {f : List PyData → Option PyData} {P : PyData → Prop} {P' : List PyData → Prop} (h : Go W F (o.bind fun ds => R.of (f ds)) P) (k : ∀ ds d, f ds = some d → P d → P' ds) : Go W F o P' :=
  h.bind fun ds q => let ⟨d, e, p⟩ := Go.of q; k ds d e p
theorem ev_callB {x : Str} {id : String} {e : Expr} {es : List Expr} {p : Pos} {r : List V → Hp → VK → Prop} {f : List PyData → Option PyData} {rs : R (List PyData)} (hd : CallD X.K r f) (ha : EvA X W ρ (e :: es) rs)
    (pe : PE X (.Call (.Name x p) (e :: es) [] pos) (tCB r (tL X.K W ρ rs))) : EvR X W ρ (.Call (.Name x p) (e :: es) [] pos) (rs.bind fun ds => R.of (f ds)) := by
  refine ⟨PE.imp pe fun σ H Q h => ?_⟩
  obtain ⟨F, G, px, st, q⟩ := h
  refine ⟨F, G, px, st, Go.seq q fun ds d e1 q1 vs H1 G1 e2 st1 dv => ?_⟩
  exact hd W F G1 H1 px ρ σ vs ds d Q st1 dv e1 (q1.grow e2)
end
end SE

set_option maxHeartbeats 4000000
/-! operators over plain data -/
namespace SE
open PySem PySem.Spec PyProof.Rows L2

/-! ### what operators come to -/
def dAdd : PyData → PyData → Option PyData
  | .int i, .int j => some (.int (i + j))
  | .str x, .str y => if x.length + y.length ≤ sizeLine then some (.str (x ++ y)) else none
  | .tuple xs, .tuple ys => if xs.length + ys.length ≤ sizeLine then some (.tuple (xs ++ ys)) else none
  | .list xs, .list ys => if xs.length + ys.length ≤ sizeLine then some (.list (xs ++ ys)) else none
  | _, _ => none
def dSub : PyData → PyData → Option PyData
  | .int i, .int j => some (.int (i - j))
  | _, _ => none
def MulOk (i j : Int) : Prop := (-(2 ^ 64) < i ∧ i < 2 ^ 64) ∨ (-(2 ^ 64) < j ∧ j < 2 ^ 64)
instance (i j : Int) : Decidable (MulOk i j) := inferInstanceAs (Decidable (_ ∨ _))
def dMul : PyData → PyData → Option PyData
  | .int i, .int j => if MulOk i j then some (.int (i * j)) else none
  | _, _ => none
def dFdiv : PyData → PyData → Option PyData
  | .int i, .int j => if j ≠ 0 ∧ j.natAbs < 1073741824 then some (.int (i.fdiv j)) else none
  | _, _ => none
def dMod : PyData → PyData → Option PyData
  | .int i, .int j => if j ≠ 0 then some (.int (i.fmod j)) else none
  | _, _ => none
def dPow : PyData → PyData → Option PyData
  | .int i, .int j => if 0 ≤ j ∧ j ≤ 1000000 ∧ i.natAbs < 2 ^ 64 then some (.int (i ^ j.toNat)) else none
  | _, _ => none
def dNeg : PyData → Option PyData
  | .int i => some (.int (-i))
  | _ => none
/-- int comparisons -/
def dCmp (p : Int → Int → Bool) : PyData → PyData → Option PyData
  | .int i, .int j => some (.bool (p i j))
  | _, _ => none
abbrev dLtI := dCmp fun i j => decide (i < j)
abbrev dLeI := dCmp fun i j => decide (i ≤ j)
abbrev dGtI := dCmp fun i j => decide (j < i)
abbrev dGeI := dCmp fun i j => decide (j ≤ i)
def dEq (d e : PyData) : Option PyData := if SeqAt.shaped d = true ∧ SeqAt.shaped e = true then some (.bool (PyData.eqv d e)) else none
def dNe (d e : PyData) : Option PyData := if SeqAt.shaped d = true ∧ SeqAt.shaped e = true then some (.bool (!PyData.eqv d e)) else none
def isNone : PyData → Bool
  | .none => true
  | _ => false
/-- x is None, True, False -/
def dIs : PyData → PyData → Option PyData
  | d, .none => some (.bool (isNone d))
  | .bool a, .bool b => some (.bool (decide (a = b)))
  | _, _ => none
def dIsNot : PyData → PyData → Option PyData
  | d, .none => some (.bool (!isNone d))
  | .bool a, .bool b => some (.bool (!decide (a = b)))
  | _, _ => none
/-- x in a list, a tuple -/
def dIn (x : PyData) : PyData → Option PyData
  | .list ds => if SeqAt.shaped x = true ∧ SeqAt.shaped (.list ds) = true then some (.bool (ds.any fun z => PyData.eqv z x)) else none
  | .tuple ds => if SeqAt.shaped x = true ∧ SeqAt.shaped (.tuple ds) = true then some (.bool (ds.any fun z => PyData.eqv z x)) else none
  | _ => none
def dNotIn (x : PyData) : PyData → Option PyData
  | .list ds => if SeqAt.shaped x = true ∧ SeqAt.shaped (.list ds) = true then some (.bool (!ds.any fun z => PyData.eqv z x)) else none
  | .tuple ds => if SeqAt.shaped x = true ∧ SeqAt.shaped (.tuple ds) = true then some (.bool (!ds.any fun z => PyData.eqv z x)) else none
  | _ => none
def dIx : PyData → PyData → Option PyData
  | .list ds, .int i => match atI ds i with | some d => some d | none => none
  | .tuple ds, .int i => match atI ds i with | some d => some d | none => none
  | .str x, .int i => if x.length ≤ sizeLine then (match atI x.cps.toList i with | some c => some (.str ⟨#[c]⟩) | none => none) else none
  | _, _ => none


section
variable {X : Cx} {K : PySem.W.Frag}
theorem od_I0 {g : Int → Int → V} {f : PyData → PyData → Option PyData} (h : ∀ i j G, ∃ d, f (.int i) (.int j) = some d ∧ Rp K G (g i j) d) (hn : ∀ x y d, f x y = some d → ∃ i j, x = .int i ∧ y = .int j) : OpD K (rI0 g) f := by
  intro W F G H px ρ σ x y dx dy d Q st hx hy e q
  obtain ⟨i, j, rfl, rfl⟩ := hn _ _ _ e
  obtain ⟨d', e', r⟩ := h i j G
  rw [e'] at e
  cases e
  cases hx
  cases hy
  exact ⟨i, j, rfl, rfl, q _ H G (Same.refl G) st r⟩
theorem od_I {C : Int → Int → Prop} {g : Int → Int → Int} {f : PyData → PyData → Option PyData} (h : ∀ x y d, f x y = some d → ∃ i j, x = .int i ∧ y = .int j ∧ C i j ∧ d = .int (g i j)) : OpD K (rI C fun i j => .int (g i j)) f := by
  intro W F G H px ρ σ x y dx dy d Q st hx hy e q
  obtain ⟨i, j, rfl, rfl, c, rfl⟩ := h _ _ _ e
  cases hx
  cases hy
  exact ⟨i, j, rfl, rfl, c, q _ H G (Same.refl G) st (.int _)⟩
theorem od_sub : OpD K (rI0 fun i j => .int (i - j)) dSub := od_I0 (fun i j G => ⟨_, rfl, .int _⟩) fun x y d e => by
  cases x <;> cases y <;> first | exact ⟨_, _, rfl, rfl⟩ | (simp [dSub] at e)
theorem od_cmp {p : Int → Int → Bool} : OpD K (rI0 fun i j => .bl (p i j)) (dCmp p) := od_I0 (fun i j G => ⟨_, rfl, .bl _⟩) fun x y d e => by
  cases x <;> cases y <;> first | exact ⟨_, _, rfl, rfl⟩ | (simp [dCmp] at e)
theorem od_mul : OpD K (rI CMul fun i j => .int (i * j)) dMul := od_I fun x y d e => by
  unfold dMul at e
  split at e
  · split at e
    · rename_i h
      exact ⟨_, _, rfl, rfl, h, (Option.some.inj e).symm⟩
    · cases e
  · cases e
theorem od_fdiv : OpD K (rI CDivN fun i j => .int (i.fdiv j)) dFdiv := od_I fun x y d e => by
  unfold dFdiv at e
  split at e
  · split at e
    · rename_i h
      exact ⟨_, _, rfl, rfl, h, (Option.some.inj e).symm⟩
    · cases e
  · cases e
theorem od_mod : OpD K (rI (fun _ j => j ≠ 0) fun i j => .int (i.fmod j)) dMod := od_I fun x y d e => by
  unfold dMod at e
  split at e
  · split at e
    · rename_i h
      exact ⟨_, _, rfl, rfl, h, (Option.some.inj e).symm⟩
    · cases e
  · cases e
theorem od_pow : OpD K (rI CPow fun i j => .int (i ^ j.toNat)) dPow := od_I fun x y d e => by
  unfold dPow at e
  split at e
  · split at e
    · rename_i h
      exact ⟨_, _, rfl, rfl, h, (Option.some.inj e).symm⟩
    · cases e
  · cases e
theorem ud_neg : UnD K (rU fun i => .int (-i)) dNeg := by
  intro W F G H px ρ σ x dx d Q st hx e q
  cases dx <;> simp [dNeg] at e
  cases e
  cases hx
  exact ⟨_, rfl, q _ H G (Same.refl G) st (.int _)⟩
theorem od_eq : OpD K (rEqD K) dEq := by
  intro W F G H px ρ σ x y dx dy d Q st hx hy e q
  unfold dEq at e
  split at e
  · rename_i h
    cases e
    exact ⟨dx, dy, Rp.dp _ (SeqAt.canLay_of_shaped h.1) (dp_same st.gh _ hx), Rp.dp _ (SeqAt.canLay_of_shaped h.2) (dp_same st.gh _ hy), h.1, h.2, q _ H G (Same.refl G) st (.bl _)⟩
  · cases e
theorem od_ne : OpD K (rNeD K) dNe := by
  intro W F G H px ρ σ x y dx dy d Q st hx hy e q
  unfold dNe at e
  split at e
  · rename_i h
    cases e
    exact ⟨dx, dy, Rp.dp _ (SeqAt.canLay_of_shaped h.1) (dp_same st.gh _ hx), Rp.dp _ (SeqAt.canLay_of_shaped h.2) (dp_same st.gh _ hy), h.1, h.2, q _ H G (Same.refl G) st (.bl _)⟩
  · cases e
theorem rp_none {G : Hp} {x : V} {d : PyData} (h : Rp K G x d) : decide (x = .non) = isNone d := by
  cases h <;> rfl
/-- is None, is True, is False -/
theorem op_isX : OpR X (compareOp .Is) (fun x y H Q => (y = .non ∧ Q (.bl (decide (x = .non))) H) ∨ ∃ a b : Bool, x = .bl a ∧ y = .bl b ∧ Q (.bl (decide (a = b))) H) := OpR.or op_isN op_isBl
theorem op_isNotX : OpR X (compareOp .IsNot) (fun x y H Q => (y = .non ∧ Q (.bl (!decide (x = .non))) H) ∨ ∃ a b : Bool, x = .bl a ∧ y = .bl b ∧ Q (.bl (!decide (a = b))) H) := OpR.or op_notN op_notBl
theorem od_is : OpD K (fun x y H Q => (y = .non ∧ Q (.bl (decide (x = .non))) H) ∨ ∃ a b : Bool, x = .bl a ∧ y = .bl b ∧ Q (.bl (decide (a = b))) H) dIs := by
  intro W F G H px ρ σ x y dx dy d Q st hx hy e q
  cases hy with
  | non =>
    have e' : some (PyData.bool (isNone dx)) = some d := by cases dx <;> exact e
    cases e'
    exact .inl ⟨rfl, q _ H G (Same.refl G) st (by rw [rp_none hx]; exact .bl _)⟩
  | bl b =>
    cases hx with
    | bl a =>
      have e' : some (PyData.bool (decide (a = b))) = some d := e
      cases e'
      exact .inr ⟨a, b, rfl, rfl, q _ H G (Same.refl G) st (.bl _)⟩
    | _ => simp [dIs] at e
  | _ => cases hx <;> simp [dIs] at e
theorem od_isNot : OpD K (fun x y H Q => (y = .non ∧ Q (.bl (!decide (x = .non))) H) ∨ ∃ a b : Bool, x = .bl a ∧ y = .bl b ∧ Q (.bl (!decide (a = b))) H) dIsNot := by
  intro W F G H px ρ σ x y dx dy d Q st hx hy e q
  cases hy with
  | non =>
    have e' : some (PyData.bool (!isNone dx)) = some d := by cases dx <;> exact e
    cases e'
    exact .inl ⟨rfl, q _ H G (Same.refl G) st (by rw [rp_none hx]; exact .bl _)⟩
  | bl b =>
    cases hx with
    | bl a =>
      have e' : some (PyData.bool (!decide (a = b))) = some d := e
      cases e'
      exact .inr ⟨a, b, rfl, rfl, q _ H G (Same.refl G) st (.bl _)⟩
    | _ => simp [dIsNot] at e
  | _ => cases hx <;> simp [dIsNot] at e
end
end SE

set_option maxHeartbeats 4000000
/-! built-in calls, places, members over plain data -/
namespace SE
open PySem PySem.Spec PyProof.Rows L2

/-- the reading of a rule told by data -/
def r2D (K : PySem.W.Frag) (f : PyData → PyData → Option PyData) : R2 := fun x y H Q => ∃ (W : Wx) (F G : Hp) (px : Px) (ρ : En) (σ : List (Option V)) (dx dy d : PyData), StG K W F px ρ σ H G ∧ Rp K G x dx ∧ Rp K G y dy ∧ f dx dy = some d ∧ Vl K W px ρ F G σ Q d
def rLD (K : PySem.W.Frag) (f : List PyData → Option PyData) : List V → Hp → VK → Prop := fun xs H Q => ∃ (W : Wx) (F G : Hp) (px : Px) (ρ : En) (σ : List (Option V)) (ds : List PyData) (d : PyData), StG K W F px ρ σ H G ∧ RpAll K G xs ds ∧ f ds = some d ∧ Vl K W px ρ F G σ Q d
theorem od_self {K : PySem.W.Frag} {f : PyData → PyData → Option PyData} : OpD K (r2D K f) f := fun W F G H px ρ σ x y dx dy d Q st hx hy e q => ⟨W, F, G, px, ρ, σ, dx, dy, d, st, hx, hy, e, q⟩
theorem cd_self {K : PySem.W.Frag} {f : List PyData → Option PyData} : CallD K (rLD K f) f := fun W F G H px ρ σ xs ds d Q st hx e q => ⟨W, F, G, px, ρ, σ, ds, d, st, hx, e, q⟩
theorem Vl.at {K : PySem.W.Frag} {W : Wx} {px : Px} {ρ : En} {F G H : Hp} {σ : List (Option V)} {Q : VK} {d : PyData} {v : V} (q : Vl K W px ρ F G σ Q d) (st : StG K W F px ρ σ H G) (r : Rp K G v d) : Q v H := q v H G (Same.refl G) st r
/-- a new tuple, a new list that stands -/
theorem Vl.newT {K : PySem.W.Frag} {W : Wx} {px : Px} {ρ : En} {F G H : Hp} {σ : List (Option V)} {Q : VK} {vs : List V} {ds : List PyData} (q : Vl K W px ρ F G σ Q (.tuple ds)) (st : StG K W F px ρ σ H G) (r : RpAll K G vs ds) : ∀ p, H p = none → Q (.ref p) (upd H p (.tup vs)) := fun p hp => by
  have gp := st.gh.free hp
  exact q _ _ _ (Same.new gp) (st.alloc hp) (.tup (SqT.of upd_same) (dps_same (Same.new gp) _ r))
theorem Vl.newL {K : PySem.W.Frag} {W : Wx} {px : Px} {ρ : En} {F G H : Hp} {σ : List (Option V)} {Q : VK} {vs : List V} {ds : List PyData} (q : Vl K W px ρ F G σ Q (.list ds)) (st : StG K W F px ρ σ H G) (r : RpAll K G vs ds) : ∀ p, H p = none → Q (.ref p) (upd H p (.lst vs)) := fun p hp => by
  have gp := st.gh.free hp
  exact q _ _ _ (Same.new gp) (st.alloc hp) (.lst (Rd.of upd_same) (dps_same (Same.new gp) _ r))

section
variable {X : Cx}
theorem opr_of {op : Value → Value → Sem Value} {r : R2} {f : PyData → PyData → Option PyData} (h : OpR X op r) (hd : OpD X.K r f) : OpR X op (r2D X.K f) := by
  intro pins s σ H x y v u Q I rx ry q
  obtain ⟨W, F, G, px, ρ, σ', dx, dy, d, st, hx, hy, e, q⟩ := q
  exact h pins s σ H x y v u Q I rx ry (hd W F G H px ρ σ' x y dx dy d Q st hx hy e q)
theorem cr_of {id : Value} {r : List V → Hp → VK → Prop} {f : List PyData → Option PyData} (h : CallR X id r) (hd : CallD X.K r f) : CallR X id (rLD X.K f) := by
  intro pins s σ H xs us Q I rx q
  obtain ⟨W, F, G, px, ρ, σ', ds, d, st, hx, e, q⟩ := q
  exact h pins s σ H xs us Q I rx (hd W F G H px ρ σ' xs ds d Q st hx e q)
end

section
variable {X : Cx} {W : Wx} {ρ : En} {pos : Pos} {f : List PyData → Option PyData}
theorem ev_bi {x : Str} {id : String} {e : Expr} {es : List Expr} {p : Pos} {rs : R (List PyData)} (hc : CallR X (.builtin id) (rLD X.K f)) (hg : Gl X x) (hm : X.mg x = none) (hv : bootBuiltins x = some (.builtin id)) (ha : EvA X W ρ (e :: es) rs)
    (hn : x ≠ "__name__" := by decide) (hdb : (x == ("__debug__" : Str)) = false := by decide) (he : starEach (e :: es) X.env = (false, eval e X.env) :: starEach es X.env := by rfl) (hpl : (backTo pos (starEach es X.env)).any (·.1) = false := by rfl) :
    EvR X W ρ (.Call (.Name x p) (e :: es) [] pos) (rs.bind fun ds => R.of (f ds)) := by
  refine ⟨PE.imp (pe_callB hc hg hm hv ha.pa hn hdb he hpl) fun σ H Q h => ?_⟩
  obtain ⟨F, G, px, st, q⟩ := h
  refine ⟨F, G, px, st, Go.seq q fun ds d e1 q1 vs H1 G1 e2 st1 dv => ?_⟩
  exact ⟨W, F, G1, px, ρ, σ, ds, d, st1, dv, e1, q1.grow e2⟩
theorem ev_ty {x : Str} {T : String} {e : Expr} {es : List Expr} {p : Pos} {rs : R (List PyData)} (hc : CallR X (.type T) (rLD X.K f)) (hg : Gl X x) (hm : X.mg x = none) (hv : bootBuiltins x = some (.type T)) (ha : EvA X W ρ (e :: es) rs)
    (hn : x ≠ "__name__" := by decide) (hdb : (x == ("__debug__" : Str)) = false := by decide) (he : starEach (e :: es) X.env = (false, eval e X.env) :: starEach es X.env := by rfl) (hpl : (backTo pos (starEach es X.env)).any (·.1) = false := by rfl) :
    EvR X W ρ (.Call (.Name x p) (e :: es) [] pos) (rs.bind fun ds => R.of (f ds)) := by
  refine ⟨PE.imp (pe_callTy hc hg hm hv ha.pa hn hdb he hpl) fun σ H Q h => ?_⟩
  obtain ⟨F, G, px, st, q⟩ := h
  refine ⟨F, G, px, st, Go.seq q fun ds d e1 q1 vs H1 G1 e2 st1 dv => ?_⟩
  exact ⟨W, F, G1, px, ρ, σ, ds, d, st1, dv, e1, q1.grow e2⟩
end

/-! ### + of everything -/
section
variable {X : Cx}
def rCatL : R2 := fun x y H Q => ∃ l b xs zs, x = .ref l ∧ y = .ref b ∧ Rd H l (.lst xs) ∧ Rd H b (.lst zs) ∧ xs.length + zs.length ≤ sizeLine ∧ ∀ p, H p = none → Q (.ref p) (upd H p (.lst (xs ++ zs)))
theorem op_catL : OpR X (binaryOp .Add) rCatL := by
  intro pins s σ H x y v u Q I rx ry h
  obtain ⟨l, b, xs, zs, rfl, rfl, hH, hB, hz, q⟩ := h
  cases rx
  cases ry
  obtain ⟨z, its, n, r, e⟩ := hH.ok I.hok
  obtain ⟨z2, its2, n2, r2, e2⟩ := hB.ok I.hok
  have hl := r.length
  have hl2 := r2.length
  refine PySem.P.add_list e e2 ?_ (by rw [List.size_toArray, List.size_toArray]; omega)
  have ea : its.toArray ++ its2.toArray = (its ++ its2).toArray := by simp
  rw [ea]
  exact ⟨.ref _, _, I.lnew (t' := s.toks) (r.append r2) (by rw [List.length_append]; omega), rfl, q _ I.fresh⟩
theorem op_addX : OpR X (binaryOp .Add) (r2D X.K dAdd) := by
  intro pins s σ H x y v u Q I rx ry q
  obtain ⟨W, F, G, px, ρ, σ', dx, dy, d, st, hx, hy, e, q⟩ := q
  cases hx with
  | int i =>
    cases hy with
    | int j =>
      cases e
      exact op_add pins s σ H _ _ v u Q I rx ry ⟨i, j, rfl, rfl, q.at st (.int _)⟩
    | _ => simp [dAdd] at e
  | str z =>
    cases hy with
    | str y =>
      simp only [dAdd] at e
      split at e
      · rename_i hz
        cases e
        exact op_add_str pins s σ H _ _ v u Q I rx ry ⟨z, y, rfl, rfl, hz, q.at st (.str _)⟩
      · cases e
    | _ => simp [dAdd] at e
  | @tup a xs ds h1 h2 =>
    cases hy with
    | @tup b ys es g1 g2 =>
      simp only [dAdd] at e
      split at e
      · rename_i hz
        cases e
        refine op_catA pins s σ H _ _ v u Q I rx ry ⟨a, b, xs, ys, rfl, rfl, Same.seqT st.gh h1, Same.seqT st.gh g1, by rw [RpAll.len h2, RpAll.len g2]; exact hz, fun z => ?_, fun z1 z2 => ?_, fun _ _ => q.newT st (h2.app g2)⟩
        · subst z
          cases h2
          exact q.at st (.tup g1 g2)
        · subst z2
          cases g2
          rw [List.append_nil] at q
          exact q.at st (.tup h1 h2)
      · cases e
    | _ => simp [dAdd] at e
  | @lst a xs ds h1 h2 =>
    cases hy with
    | @lst b ys es g1 g2 =>
      simp only [dAdd] at e
      split at e
      · rename_i hz
        cases e
        exact op_catL pins s σ H _ _ v u Q I rx ry ⟨a, b, xs, ys, rfl, rfl, Rd.same st.gh h1, Rd.same st.gh g1, by rw [RpAll.len h2, RpAll.len g2]; exact hz, q.newL st (h2.app g2)⟩
      · cases e
    | _ => simp [dAdd] at e
  | non => cases hy <;> simp [dAdd] at e
  | bl b => cases hy <;> simp [dAdd] at e
  | kl _ _ => cases hy <;> simp [dAdd] at e
theorem op_inX (hu : X.A.units + 65 < cLine) : OpR X (compareOp .In) (r2D X.K dIn) := by
  intro pins s σ H x y v u Q I rx ry q
  obtain ⟨W, F, G, px, ρ, σ', dx, dy, d, st, hx, hy, e, q⟩ := q
  have sh : SeqAt.shaped dx = true ∧ SeqAt.shaped dy = true := by
    cases dy with
    | list ds => by_cases h : SeqAt.shaped dx = true ∧ SeqAt.shaped (.list ds) = true; exact h; simp only [dIn] at e; rw [if_neg h] at e; cases e
    | tuple ds => by_cases h : SeqAt.shaped dx = true ∧ SeqAt.shaped (.tuple ds) = true; exact h; simp only [dIn] at e; rw [if_neg h] at e; cases e
    | _ => simp [dIn] at e
  have hx' := Rp.dp _ (SeqAt.canLay_of_shaped sh.1) (dp_same st.gh _ hx)
  have hy' := Rp.dp _ (SeqAt.canLay_of_shaped sh.2) (dp_same st.gh _ hy)
  obtain ⟨as, r1⟩ := Dp.reads I dx x v hx' rx
  obtain ⟨bs, r2⟩ := Dp.reads I dy y u hy' ry
  cases dy with
  | list ds =>
    simp only [dIn] at e
    rw [if_pos sh] at e
    cases e
    exact SeqAt.in_list_reads r2 r1 (SeqAt.canLay_of_shaped sh.2) (SeqAt.canLay_of_shaped sh.1) (room_in_shaped sh.1 hu) ⟨.bl _, H, I, rfl, q.at st (.bl _)⟩
  | tuple ds =>
    simp only [dIn] at e
    rw [if_pos sh] at e
    cases e
    exact SeqAt.in_tuple_reads r2 r1 (SeqAt.canLay_of_shaped sh.2) (SeqAt.canLay_of_shaped sh.1) (room_in_shaped sh.1 hu) ⟨.bl _, H, I, rfl, q.at st (.bl _)⟩
  | _ => simp [dIn] at e
theorem op_notInX (hu : X.A.units + 65 < cLine) : OpR X (compareOp .NotIn) (r2D X.K dNotIn) := by
  intro pins s σ H x y v u Q I rx ry q
  obtain ⟨W, F, G, px, ρ, σ', dx, dy, d, st, hx, hy, e, q⟩ := q
  have sh : SeqAt.shaped dx = true ∧ SeqAt.shaped dy = true := by
    cases dy with
    | list ds => by_cases h : SeqAt.shaped dx = true ∧ SeqAt.shaped (.list ds) = true; exact h; simp only [dNotIn] at e; rw [if_neg h] at e; cases e
    | tuple ds => by_cases h : SeqAt.shaped dx = true ∧ SeqAt.shaped (.tuple ds) = true; exact h; simp only [dNotIn] at e; rw [if_neg h] at e; cases e
    | _ => simp [dNotIn] at e
  have hx' := Rp.dp _ (SeqAt.canLay_of_shaped sh.1) (dp_same st.gh _ hx)
  have hy' := Rp.dp _ (SeqAt.canLay_of_shaped sh.2) (dp_same st.gh _ hy)
  obtain ⟨as, r1⟩ := Dp.reads I dx x v hx' rx
  obtain ⟨bs, r2⟩ := Dp.reads I dy y u hy' ry
  cases dy with
  | list ds =>
    simp only [dNotIn] at e
    rw [if_pos sh] at e
    cases e
    exact SeqAt.notIn_list_reads r2 r1 (SeqAt.canLay_of_shaped sh.2) (SeqAt.canLay_of_shaped sh.1) (room_in_shaped sh.1 hu) ⟨.bl _, H, I, rfl, q.at st (.bl _)⟩
  | tuple ds =>
    simp only [dNotIn] at e
    rw [if_pos sh] at e
    cases e
    exact SeqAt.notIn_tuple_reads r2 r1 (SeqAt.canLay_of_shaped sh.2) (SeqAt.canLay_of_shaped sh.1) (room_in_shaped sh.1 hu) ⟨.bl _, H, I, rfl, q.at st (.bl _)⟩
  | _ => simp [dNotIn] at e

/-! ### places -/
theorem atI_rp {K : PySem.W.Frag} {G : Hp} {vs : List V} {ds : List PyData} {i : Int} {d : PyData} (h : RpAll K G vs ds) (e : atI ds i = some d) : ∃ v, atI vs i = some v ∧ Rp K G v d := by
  unfold atI at e ⊢
  rw [RpAll.len h]
  cases q : ixN ds.length i with
  | none => rw [q] at e; cases e
  | some j =>
    rw [q] at e
    exact RpAll.get h e
theorem ev_ix {a b : Expr} {ra rb : R PyData} (ha : EvR X W ρ a ra) (hb : EvR X W ρ b rb) (hs : PlainIx b) : EvR X W ρ (.Subscript a b pos) (ra.bind fun x => rb.bind fun y => R.of (dIx x y)) := by
  refine ⟨PE.imp (pe_ix ix_seq ha.pe hb.pe hs) fun σ H Q h => ?_⟩
  obtain ⟨F, G, px, st, q⟩ := h
  refine ⟨F, G, px, st, Go.bind q fun d q1 v H1 G1 e1 st1 dv => ?_⟩
  refine ⟨F, G1, px, st1, Go.bind q1 fun d2 q2 v2 H2 G2 e2 st2 dv2 => ?_⟩
  obtain ⟨d3, e3, q3⟩ := Go.of q2
  have q4 := q3.grow (e1.trans e2)
  have dv' := dp_same e2 _ dv
  cases dv2 with
  | int i =>
    cases dv' with
    | @lst a xs ds h1 h2 =>
      simp only [dIx] at e3
      cases e4 : atI ds i with
      | none => rw [e4] at e3; cases e3
      | some d5 =>
        rw [e4] at e3
        cases e3
        obtain ⟨w, g1, g2⟩ := atI_rp h2 e4
        exact .inl ⟨a, xs, i, w, rfl, rfl, .inl (Rd.same st2.gh h1), g1, q4.at st2 g2⟩
    | @tup a xs ds h1 h2 =>
      simp only [dIx] at e3
      cases e4 : atI ds i with
      | none => rw [e4] at e3; cases e3
      | some d5 =>
        rw [e4] at e3
        cases e3
        obtain ⟨w, g1, g2⟩ := atI_rp h2 e4
        exact .inr (.inl ⟨a, xs, i, w, rfl, rfl, Same.seqT st2.gh h1, g1, q4.at st2 g2⟩)
    | str z =>
      simp only [dIx] at e3
      split at e3
      · rename_i hz
        cases e4 : atI z.cps.toList i with
        | none => rw [e4] at e3; cases e3
        | some c =>
          rw [e4] at e3
          cases e3
          exact .inr (.inr ⟨z, i, c, rfl, rfl, hz, e4, q4.at st2 (.str _)⟩)
      · cases e3
    | _ => simp [dIx] at e3
  | _ => cases dv' <;> simp [dIx] at e3
end

/-! ### calls -/
def dLen : List PyData → Option PyData
  | [.list ds] => some (.int ds.length)
  | [.tuple ds] => some (.int ds.length)
  | [.str x] => if x.length ≤ sizeLine then some (.int x.length) else none
  | _ => none
def asInts : List PyData → Option (List Int)
  | [] => some []
  | .int i :: r => (asInts r).map (i :: ·)
  | _ :: _ => none
theorem asInts_eq : ∀ {ds : List PyData} {ns : List Int}, asInts ds = some ns → ds = ns.map .int
  | [], ns, h => by cases h; rfl
  | .int i :: r, ns, h => by
    unfold asInts at h
    cases e : asInts r with
    | none => rw [e] at h; cases h
    | some ms =>
      rw [e] at h
      cases h
      rw [asInts_eq e]
      rfl
  | .none :: _, _, h => by cases h
  | .bool _ :: _, _, h => by cases h
  | .str _ :: _, _, h => by cases h
  | .list _ :: _, _, h => by cases h
  | .tuple _ :: _, _, h => by cases h
  | .dict _ :: _, _, h => by cases h
@[simp] theorem asInts_map : ∀ ns : List Int, asInts (ns.map .int) = some ns
  | [] => rfl
  | n :: r => by
    rw [List.map_cons]
    show (asInts (r.map .int)).map (n :: ·) = _
    rw [asInts_map r]
    rfl
def itemsD : PyData → Option (List PyData)
  | .list ds => some ds
  | .tuple ds => some ds
  | _ => none
def dSum : List PyData → Option PyData
  | [d] => (itemsD d).bind fun ds => (asInts ds).map fun ns => .int ns.sum
  | _ => none
def maxI : List Int → Option Int
  | [] => none
  | n :: r => some (r.foldl max n)
def minI : List Int → Option Int
  | [] => none
  | n :: r => some (r.foldl min n)
def dMax : List PyData → Option PyData
  | [d] => (itemsD d).bind fun ds => (asInts ds).bind fun ns => (maxI ns).map .int
  | [.int i, .int j] => some (.int (if j > i then j else i))
  | _ => none
def dMin : List PyData → Option PyData
  | [d] => (itemsD d).bind fun ds => (asInts ds).bind fun ns => (minI ns).map .int
  | [.int i, .int j] => some (.int (if j < i then j else i))
  | _ => none
def dAbs : List PyData → Option PyData
  | [.int i] => some (.int (if i < 0 then -i else i))
  | _ => none
def dInt : List PyData → Option PyData
  | [.int i] => some (.int i)
  | [.bool k] => some (.int (if k then 1 else 0))
  | _ => none
def dTuple : List PyData → Option PyData
  | [.list ds] => some (.tuple ds)
  | [.tuple ds] => some (.tuple ds)
  | _ => none
def dList : List PyData → Option PyData
  | [.list ds] => some (.list ds)
  | [.tuple ds] => some (.list ds)
  | _ => none
def asBools : List PyData → Option (List Bool)
  | [] => some []
  | .bool i :: r => (asBools r).map (i :: ·)
  | _ :: _ => none
theorem asBools_eq : ∀ {ds : List PyData} {ns : List Bool}, asBools ds = some ns → ds = ns.map .bool
  | [], ns, h => by cases h; rfl
  | .bool i :: r, ns, h => by
    unfold asBools at h
    cases e : asBools r with
    | none => rw [e] at h; cases h
    | some ms =>
      rw [e] at h
      cases h
      rw [asBools_eq e]
      rfl
  | .none :: _, _, h => by cases h
  | .int _ :: _, _, h => by cases h
  | .str _ :: _, _, h => by cases h
  | .list _ :: _, _, h => by cases h
  | .tuple _ :: _, _, h => by cases h
  | .dict _ :: _, _, h => by cases h
@[simp] theorem asBools_map : ∀ ns : List Bool, asBools (ns.map .bool) = some ns
  | [] => rfl
  | n :: r => by
    rw [List.map_cons]
    show (asBools (r.map .bool)).map (n :: ·) = _
    rw [asBools_map r]
    rfl
def dAll : List PyData → Option PyData
  | [.list ds] => (asBools ds).map fun bs => .bool (bs.all id)
  | _ => none
def dAny : List PyData → Option PyData
  | [.list ds] => (asBools ds).map fun bs => .bool (bs.any id)
  | _ => none

theorem rps_ints {K : PySem.W.Frag} {G : Hp} : ∀ {ns : List Int} {vs : List V}, RpAll K G vs (ns.map .int) → vs = ns.map V.int
  | [], _, h => by cases h; rfl
  | n :: r, _, h => by
    cases h with
    | cons h1 h2 =>
      cases h1
      rw [rps_ints h2]
      rfl
theorem rps_bools {K : PySem.W.Frag} {G : Hp} : ∀ {ns : List Bool} {vs : List V}, RpAll K G vs (ns.map .bool) → vs = ns.map V.bl
  | [], _, h => by cases h; rfl
  | n :: r, _, h => by
    cases h with
    | cons h1 h2 =>
      cases h1
      rw [rps_bools h2]
      rfl
theorem rp1 {K : PySem.W.Frag} {G : Hp} {xs : List V} {d : PyData} (h : RpAll K G xs [d]) : ∃ x, xs = [x] ∧ Rp K G x d := by
  cases h with
  | cons h1 h2 =>
    cases h2
    exact ⟨_, rfl, h1⟩
theorem rp2 {K : PySem.W.Frag} {G : Hp} {xs : List V} {d e : PyData} (h : RpAll K G xs [d, e]) : ∃ x y, xs = [x, y] ∧ Rp K G x d ∧ Rp K G y e := by
  cases h with
  | cons h1 h2 =>
    obtain ⟨y, rfl, r⟩ := rp1 h2
    exact ⟨_, y, rfl, h1, r⟩
section
variable {X : Cx}
theorem cx_len : CallR X (.builtin "len") (rLD X.K dLen) := by
  intro pins s σ H xs us Q I r q
  obtain ⟨W, F, G, px, ρ, σ', ds, d, st, hx, e, q⟩ := q
  match ds, e, hx with
  | [.list es], e, hx =>
    cases e
    obtain ⟨x, rfl, h⟩ := rp1 hx
    cases h with
    | @lst a ys _ h1 h2 => exact call_len_seq pins s σ H _ us Q I r ⟨a, ys, rfl, .inl (.inl (Rd.same st.gh h1)), by rw [RpAll.len h2]; exact q.at st (.int _)⟩
  | [.tuple es], e, hx =>
    cases e
    obtain ⟨x, rfl, h⟩ := rp1 hx
    cases h with
    | @tup a ys _ h1 h2 => exact call_len_seq pins s σ H _ us Q I r ⟨a, ys, rfl, .inr (Same.seqT st.gh h1), by rw [RpAll.len h2]; exact q.at st (.int _)⟩
  | [.str z], e, hx =>
    simp only [dLen] at e
    split at e
    · rename_i hz
      cases e
      obtain ⟨x, rfl, h⟩ := rp1 hx
      cases h
      exact call_len_str pins s σ H _ us Q I r ⟨z, rfl, hz, q.at st (.int _)⟩
    · cases e
theorem iter_tup {prog : Program} {w : World} {A : Around} {E : Value → Shared → Prop} {s : Shared} {l : Addr} {items : Array Value} {Q : Value → Shared → Prop} (hl : s.heap.IsTuple l items)
    (h : ∀ s₂ : Shared, s₂ = { s with heap := s.heap.push { cls := .type "tuple_iterator", data := .fields #[.ref l, .int 0 0] } } →
      (s₂.heap.IsTupleIter s.heap.objs.size l 0 ∧ s₂.heap.IsTuple l items) → l ≠ s.heap.objs.size → l < s.heap.objs.size → Q (.ref s.heap.objs.size) s₂) : wpAny (model prog w) A (pyIter (.ref l)) Q E s := by
  have hlt : l < s.heap.objs.size := by obtain ⟨_, e, _⟩ := hl; exact Heap.lt_size e
  exact wpAny_pyIter_tuple hl (h _ rfl ⟨⟨_, Heap.get?_push_size _ rfl, rfl, rfl⟩, hl.push _⟩ (Nat.ne_of_lt hlt) hlt)
theorem sum_tup {prog : Program} {w : World} {A : Around} {E : Value → Shared → Prop} {s : Shared} {l : Addr} {its : List Value} {ns : List Int} {Q : Value → Shared → Prop} (hh : A.handled = none) (hl : s.heap.IsTuple l its.toArray) (hi : IntsAre its ns)
    (h : ∀ h' tk t', (∀ b o, s.heap.get? b = some o → h'.get? b = some o) → Q (.int ns.sum t') { s with heap := h', toks := tk }) : wpAny (model prog w) A (call (.builtin "sum") [.ref l]) Q E s := by
  obtain ⟨xs, e⟩ := hi.allInts.items
  have hn : numsOf (intItems xs).toList = ns := by rw [← e]; exact hi.numsOf
  rw [nums_intItems] at hn
  rw [e] at hl
  refine call_sum_walkG (iter_tup hl fun s₂ e st hne hlt => ?_)
  subst e
  refine ⟨_, _, _, _, _, _, numAt xs, rfl, Walks.tuple (A := A.in1) hh _ l hne (intItems xs), st, fun b hb => ?_, (fun _ _ => intItems_at), fun h' tk t' hk => ?_⟩
  · show b < (s.heap.push _).objs.size
    rw [Heap.size_push]
    rcases List.mem_cons.mp hb with rfl | hb
    · exact Nat.lt_succ_self _
    · rcases List.mem_cons.mp hb with rfl | hb
      · exact Nat.lt_succ_of_lt hlt
      · cases hb
  · have := h h' tk t' fun b o e => hk b o (fun z => by rw [List.mem_singleton] at z; rw [z] at e; exact absurd (Heap.lt_size e) (Nat.lt_irrefl _)) (Heap.get?_push_of_some _ e)
    rw [show (intItems xs).size = xs.size by simp [intItems], preSum_eq, List.take_of_length_le (by simp), hn]
    exact this
theorem cx_sum (hc : X.calm = true) : CallR X (.builtin "sum") (rLD X.K dSum) := by
  intro pins s σ H xs us Q I r q
  obtain ⟨W, F, G, px, ρ, σ', ds, d, st, hx, e, q⟩ := q
  match ds, e, hx with
  | [d0], e, hx =>
    obtain ⟨x, rfl, h⟩ := rp1 hx
    have e : (itemsD d0).bind (fun ds => (asInts ds).map fun ns => PyData.int ns.sum) = some d := e
    cases h with
    | @lst a ys es h1 h2 =>
      have e : (asInts es).map (fun ns => PyData.int ns.sum) = some d := e
      cases e2 : asInts es with
      | none => rw [e2] at e; cases e
      | some ns =>
        rw [e2] at e
        cases e
        rw [asInts_eq e2] at h2
        have h3 := rps_ints h2
        subst h3
        exact cr_sum hc pins s σ H _ us Q I r ⟨a, ns, rfl, .inl (Rd.same st.gh h1), q.at st (.int _)⟩
    | @tup a ys es h1 h2 =>
      have e : (asInts es).map (fun ns => PyData.int ns.sum) = some d := e
      cases e2 : asInts es with
      | none => rw [e2] at e; cases e
      | some ns =>
        rw [e2] at e
        cases e
        rw [asInts_eq e2] at h2
        have h3 := rps_ints h2
        subst h3
        obtain ⟨its, rv, hl, _⟩ := I.tuple (Same.seqT st.gh h1)
        rw [Vals.ref1 r]
        exact sum_tup (I.ok.hd hc) hl rv.ints fun h' tk t' hk => ⟨.int _, H, I.kept hk, ⟨_, rfl⟩, q.at st (.int _)⟩
    | _ => cases e
end
end SE

set_option maxHeartbeats 4000000
namespace SE
open PySem PySem.Spec PyProof.Rows L2
section
variable {X : Cx}
theorem ints_alike (ns : List Int) : PySem.W.AlikeAll (ns.map .int) := by
  refine ⟨fun x hx y hy => ?_, fun x hx => ?_⟩
  · obtain ⟨a, _, rfl⟩ := List.mem_map.mp hx
    obtain ⟨b, _, rfl⟩ := List.mem_map.mp hy
    rfl
  · obtain ⟨a, _, rfl⟩ := List.mem_map.mp hx
    exact fun z => nomatch z
theorem reads_int {h : Heap} {v : Value} {i : Int} {bs : List Addr} (r : Reads h v (.int i) bs) : ∃ t, v = .int i t := by
  cases r
  exact ⟨_, rfl⟩
theorem depth_ints (ns : List Int) : PyData.depthAll (ns.map .int) = 0 := by
  induction ns with
  | nil => rfl
  | cons n r ih =>
    show max 0 (PyData.depthAll (r.map .int)) = 0
    rw [ih]
    rfl
theorem seq_max (hc : X.calm = true) (hu : X.A.units + 65 < cLine) {pins : List (Addr × Obj)} {s : Shared} {σ : L2.St} {H : Hp} {a : Addr} {n : Int} {ns : List Int} {Q : VK} (I : Inv X pins σ H s) (hs : Rd H a (.lst ((n :: ns).map V.int)) ∨ SqT X.K H a ((n :: ns).map V.int)) (q : Q (.int (ns.foldl max n)) H) :
    wpAny (model X.prog X.w) X.A (call (.builtin "max") [.ref a]) (EP X pins σ Q) X.xe s := by
  have hdep : X.A.units + 1 + PyData.depthAll ((PyData.int n) :: ns.map .int) < cLine := by
    rw [show PyData.depthAll ((PyData.int n) :: ns.map .int) = 0 from depth_ints (n :: ns)]
    omega
  rcases hs with hs | hs
  · obtain ⟨its, rv, hl, _⟩ := I.list (.inl hs)
    obtain ⟨as, hr⟩ := Dp.readsAll I ((n :: ns).map .int) ((n :: ns).map V.int) its (by
      generalize n :: ns = ms
      induction ms with
      | nil => exact .nil
      | cons m r ih => exact .cons (.int m) ih) rv
    refine PySem.W.max_list_data (I.ok.hd hc) hl.isList (by simpa using hr) (ints_alike (n :: ns)) hdep fun i v h' tk bs hv r hk => ?_
    rw [PySem.W.maxD_ints] at r
    obtain ⟨t, rfl⟩ := reads_int r
    exact ⟨.int _, H, I.kept hk, ⟨_, rfl⟩, q⟩
  · obtain ⟨its, rv, hl, _⟩ := I.tuple hs
    obtain ⟨as, hr⟩ := Dp.readsAll I ((n :: ns).map .int) ((n :: ns).map V.int) its (by
      generalize n :: ns = ms
      induction ms with
      | nil => exact .nil
      | cons m r ih => exact .cons (.int m) ih) rv
    refine PySem.W.max_tuple_data (I.ok.hd hc) hl (by simpa using hr) (ints_alike (n :: ns)) hdep fun i v h' tk bs hv r hk => ?_
    rw [PySem.W.maxD_ints] at r
    obtain ⟨t, rfl⟩ := reads_int r
    exact ⟨.int _, H, I.kept hk, ⟨_, rfl⟩, q⟩
theorem seq_min (hc : X.calm = true) (hu : X.A.units + 65 < cLine) {pins : List (Addr × Obj)} {s : Shared} {σ : L2.St} {H : Hp} {a : Addr} {n : Int} {ns : List Int} {Q : VK} (I : Inv X pins σ H s) (hs : Rd H a (.lst ((n :: ns).map V.int)) ∨ SqT X.K H a ((n :: ns).map V.int)) (q : Q (.int (ns.foldl min n)) H) :
    wpAny (model X.prog X.w) X.A (call (.builtin "min") [.ref a]) (EP X pins σ Q) X.xe s := by
  have hdep : X.A.units + 1 + PyData.depthAll ((PyData.int n) :: ns.map .int) < cLine := by
    rw [show PyData.depthAll ((PyData.int n) :: ns.map .int) = 0 from depth_ints (n :: ns)]
    omega
  rcases hs with hs | hs
  · obtain ⟨its, rv, hl, _⟩ := I.list (.inl hs)
    obtain ⟨as, hr⟩ := Dp.readsAll I ((n :: ns).map .int) ((n :: ns).map V.int) its (by
      generalize n :: ns = ms
      induction ms with
      | nil => exact .nil
      | cons m r ih => exact .cons (.int m) ih) rv
    refine PySem.W.min_list_data (I.ok.hd hc) hl.isList (by simpa using hr) (ints_alike (n :: ns)) hdep fun i v h' tk bs hv r hk => ?_
    rw [PySem.W.minD_ints] at r
    obtain ⟨t, rfl⟩ := reads_int r
    exact ⟨.int _, H, I.kept hk, ⟨_, rfl⟩, q⟩
  · obtain ⟨its, rv, hl, _⟩ := I.tuple hs
    obtain ⟨as, hr⟩ := Dp.readsAll I ((n :: ns).map .int) ((n :: ns).map V.int) its (by
      generalize n :: ns = ms
      induction ms with
      | nil => exact .nil
      | cons m r ih => exact .cons (.int m) ih) rv
    refine PySem.W.min_tuple_data (I.ok.hd hc) hl (by simpa using hr) (ints_alike (n :: ns)) hdep fun i v h' tk bs hv r hk => ?_
    rw [PySem.W.minD_ints] at r
    obtain ⟨t, rfl⟩ := reads_int r
    exact ⟨.int _, H, I.kept hk, ⟨_, rfl⟩, q⟩
/-- a datum that is a list or a tuple of ints -/
theorem items_ints {K : PySem.W.Frag} {W : Wx} {F G H : Hp} {px : Px} {ρ : En} {σ : List (Option V)} {x : V} {d0 : PyData} {es : List PyData} {ns : List Int} (st : StG K W F px ρ σ H G) (h : Rp K G x d0) (e1 : itemsD d0 = some es) (e2 : asInts es = some ns) :
    ∃ a, x = .ref a ∧ (Rd H a (.lst (ns.map V.int)) ∨ SqT K H a (ns.map V.int)) := by
  cases h with
  | @lst a ys es' h1 h2 =>
    cases e1
    rw [asInts_eq e2] at h2
    have h3 := rps_ints h2
    subst h3
    exact ⟨a, rfl, .inl (Rd.same st.gh h1)⟩
  | @tup a ys es' h1 h2 =>
    cases e1
    rw [asInts_eq e2] at h2
    have h3 := rps_ints h2
    subst h3
    exact ⟨a, rfl, .inr (Same.seqT st.gh h1)⟩
  | _ => cases e1
theorem cx_max (hc : X.calm = true) (hu : X.A.units + 65 < cLine) : CallR X (.builtin "max") (rLD X.K dMax) := by
  intro pins s σ H xs us Q I r q
  obtain ⟨W, F, G, px, ρ, σ', ds, d, st, hx, e, q⟩ := q
  match ds, e, hx with
  | [d0], e, hx =>
    obtain ⟨x, rfl, h⟩ := rp1 hx
    have e : (itemsD d0).bind (fun ds => (asInts ds).bind fun ns => (maxI ns).map PyData.int) = some d := by
      revert e
      cases d0 <;> exact fun e => e
    cases e1 : itemsD d0 with
    | none => rw [e1] at e; cases e
    | some es =>
      rw [e1] at e
      have e : (asInts es).bind (fun ns => (maxI ns).map PyData.int) = some d := e
      cases e2 : asInts es with
      | none => rw [e2] at e; cases e
      | some ns =>
        rw [e2] at e
        obtain ⟨a, rfl, hs⟩ := items_ints st h e1 e2
        rw [Vals.ref1 r]
        cases ns with
        | nil => cases e
        | cons n ns =>
          cases e
          exact seq_max hc hu I hs (q.at st (.int _))
  | [.int i, .int j], e, hx =>
    cases e
    obtain ⟨x, y, rfl, h1, h2⟩ := rp2 hx
    cases h1
    cases h2
    exact call_max2 hc pins s σ H _ us Q I r ⟨i, j, rfl, q.at st (.int _)⟩
theorem cx_min (hc : X.calm = true) (hu : X.A.units + 65 < cLine) : CallR X (.builtin "min") (rLD X.K dMin) := by
  intro pins s σ H xs us Q I r q
  obtain ⟨W, F, G, px, ρ, σ', ds, d, st, hx, e, q⟩ := q
  match ds, e, hx with
  | [d0], e, hx =>
    obtain ⟨x, rfl, h⟩ := rp1 hx
    have e : (itemsD d0).bind (fun ds => (asInts ds).bind fun ns => (minI ns).map PyData.int) = some d := by
      revert e
      cases d0 <;> exact fun e => e
    cases e1 : itemsD d0 with
    | none => rw [e1] at e; cases e
    | some es =>
      rw [e1] at e
      have e : (asInts es).bind (fun ns => (minI ns).map PyData.int) = some d := e
      cases e2 : asInts es with
      | none => rw [e2] at e; cases e
      | some ns =>
        rw [e2] at e
        obtain ⟨a, rfl, hs⟩ := items_ints st h e1 e2
        rw [Vals.ref1 r]
        cases ns with
        | nil => cases e
        | cons n ns =>
          cases e
          exact seq_min hc hu I hs (q.at st (.int _))
  | [.int i, .int j], e, hx =>
    cases e
    obtain ⟨x, y, rfl, h1, h2⟩ := rp2 hx
    cases h1
    cases h2
    exact call_min2 hc pins s σ H _ us Q I r ⟨i, j, rfl, q.at st (.int _)⟩
theorem cx_abs : CallR X (.builtin "abs") (rLD X.K dAbs) := by
  intro pins s σ H xs us Q I r q
  obtain ⟨W, F, G, px, ρ, σ', ds, d, st, hx, e, q⟩ := q
  match ds, e, hx with
  | [.int i], e, hx =>
    cases e
    obtain ⟨x, rfl, h⟩ := rp1 hx
    cases h
    exact call_abs pins s σ H _ us Q I r ⟨i, rfl, q.at st (.int _)⟩
theorem cx_int : CallR X (.type "int") (rLD X.K dInt) := by
  intro pins s σ H xs us Q I r q
  obtain ⟨W, F, G, px, ρ, σ', ds, d, st, hx, e, q⟩ := q
  match ds, e, hx with
  | [.int i], e, hx =>
    cases e
    obtain ⟨x, rfl, h⟩ := rp1 hx
    cases h
    exact call_int1 pins s σ H _ us Q I r (.inl ⟨i, rfl, q.at st (.int _)⟩)
  | [.bool i], e, hx =>
    cases e
    obtain ⟨x, rfl, h⟩ := rp1 hx
    cases h
    exact call_int1 pins s σ H _ us Q I r (.inr ⟨i, rfl, q.at st (.int _)⟩)
theorem cx_tuple : CallR X (.type "tuple") (rLD X.K dTuple) := by
  intro pins s σ H xs us Q I r q
  obtain ⟨W, F, G, px, ρ, σ', ds, d, st, hx, e, q⟩ := q
  match ds, e, hx with
  | [.list es], e, hx =>
    cases e
    obtain ⟨x, rfl, h⟩ := rp1 hx
    cases h with
    | @lst a ys _ h1 h2 => exact call_tuple_of pins s σ H _ us Q I r ⟨a, ys, rfl, .inl ⟨.inl (Rd.same st.gh h1), q.newT st h2⟩⟩
  | [.tuple es], e, hx =>
    cases e
    obtain ⟨x, rfl, h⟩ := rp1 hx
    cases h with
    | @tup a ys _ h1 h2 => exact call_tuple_of pins s σ H _ us Q I r ⟨a, ys, rfl, .inr ⟨Same.seqT st.gh h1, q.at st (.tup h1 h2)⟩⟩
theorem cx_list : CallR X (.type "list") (rLD X.K dList) := by
  intro pins s σ H xs us Q I r q
  obtain ⟨W, F, G, px, ρ, σ', ds, d, st, hx, e, q⟩ := q
  match ds, e, hx with
  | [.list es], e, hx =>
    cases e
    obtain ⟨x, rfl, h⟩ := rp1 hx
    cases h with
    | @lst a ys _ h1 h2 => exact call_list_of pins s σ H _ us Q I r ⟨a, ys, rfl, .inl (.inl (Rd.same st.gh h1)), q.newL st h2⟩
  | [.tuple es], e, hx =>
    cases e
    obtain ⟨x, rfl, h⟩ := rp1 hx
    cases h with
    | @tup a ys _ h1 h2 => exact call_list_of pins s σ H _ us Q I r ⟨a, ys, rfl, .inr (Same.seqT st.gh h1), q.newL st h2⟩
theorem cx_all (hc : X.calm = true) : CallR X (.builtin "all") (rLD X.K dAll) := by
  intro pins s σ H xs us Q I r q
  obtain ⟨W, F, G, px, ρ, σ', ds, d, st, hx, e, q⟩ := q
  match ds, e, hx with
  | [.list es], e, hx =>
    obtain ⟨x, rfl, h⟩ := rp1 hx
    have e : (asBools es).map (fun bs => PyData.bool (bs.all id)) = some d := e
    cases e2 : asBools es with
    | none => rw [e2] at e; cases e
    | some bs =>
      rw [e2] at e
      cases e
      cases h with
      | @lst a ys _ h1 h2 =>
        rw [asBools_eq e2] at h2
        have h3 := rps_bools h2
        subst h3
        exact cr_all hc pins s σ H _ us Q I r ⟨a, bs, rfl, .inl (Rd.same st.gh h1), q.at st (.bl _)⟩
theorem cx_any (hc : X.calm = true) : CallR X (.builtin "any") (rLD X.K dAny) := by
  intro pins s σ H xs us Q I r q
  obtain ⟨W, F, G, px, ρ, σ', ds, d, st, hx, e, q⟩ := q
  match ds, e, hx with
  | [.list es], e, hx =>
    obtain ⟨x, rfl, h⟩ := rp1 hx
    have e : (asBools es).map (fun bs => PyData.bool (bs.any id)) = some d := e
    cases e2 : asBools es with
    | none => rw [e2] at e; cases e
    | some bs =>
      rw [e2] at e
      cases e
      cases h with
      | @lst a ys _ h1 h2 =>
        rw [asBools_eq e2] at h2
        have h3 := rps_bools h2
        subst h3
        exact cr_any hc pins s σ H _ us Q I r ⟨a, bs, rfl, .inl (Rd.same st.gh h1), q.at st (.bl _)⟩

/-! ### isinstance(x, T): T one of the built-in types int, bool, str, tuple, list; (list, tuple) -/
def isTy (T : String) : PyData → Bool
  | .none => false
  | .bool _ => T == "bool" || T == "int"
  | .int _ => T == "int"
  | .str _ => T == "str"
  | .list _ => T == "list"
  | .tuple _ => T == "tuple"
  | .dict _ => false
def tyR (T : String) : PyData → R PyData
  | .dict _ => .no
  | d => .ok (.bool (isTy T d))
def tyR2 (T U : String) : PyData → R PyData
  | .dict _ => .no
  | d => .ok (.bool (isTy T d || isTy U d))
end
end SE

set_option maxHeartbeats 4000000
namespace SE
open PySem PySem.Spec PyProof.Rows L2
structure KitT (T : String) : Prop where
  non : kitB "NoneType" T = some (isTy T .none)
  bl : ∀ b, kitB "bool" T = some (isTy T (.bool b))
  int : ∀ b, kitB "int" T = some (isTy T (.int b))
  str : ∀ b, kitB "str" T = some (isTy T (.str b))
  lst : ∀ b, kitB "list" T = some (isTy T (.list b))
  tup : ∀ b, kitB "tuple" T = some (isTy T (.tuple b))
theorem kt_int : KitT "int" := ⟨by decide +kernel, fun _ => (by decide +kernel : kitB "bool" "int" = some true), fun _ => (by decide +kernel : kitB "int" "int" = some true), fun _ => (by decide +kernel : kitB "str" "int" = some false), fun _ => (by decide +kernel : kitB "list" "int" = some false), fun _ => (by decide +kernel : kitB "tuple" "int" = some false)⟩
theorem kt_bool : KitT "bool" := ⟨by decide +kernel, fun _ => (by decide +kernel : kitB "bool" "bool" = some true), fun _ => (by decide +kernel : kitB "int" "bool" = some false), fun _ => (by decide +kernel : kitB "str" "bool" = some false), fun _ => (by decide +kernel : kitB "list" "bool" = some false), fun _ => (by decide +kernel : kitB "tuple" "bool" = some false)⟩
theorem kt_str : KitT "str" := ⟨by decide +kernel, fun _ => (by decide +kernel : kitB "bool" "str" = some false), fun _ => (by decide +kernel : kitB "int" "str" = some false), fun _ => (by decide +kernel : kitB "str" "str" = some true), fun _ => (by decide +kernel : kitB "list" "str" = some false), fun _ => (by decide +kernel : kitB "tuple" "str" = some false)⟩
theorem kt_list : KitT "list" := ⟨by decide +kernel, fun _ => (by decide +kernel : kitB "bool" "list" = some false), fun _ => (by decide +kernel : kitB "int" "list" = some false), fun _ => (by decide +kernel : kitB "str" "list" = some false), fun _ => (by decide +kernel : kitB "list" "list" = some true), fun _ => (by decide +kernel : kitB "tuple" "list" = some false)⟩
theorem kt_tuple : KitT "tuple" := ⟨by decide +kernel, fun _ => (by decide +kernel : kitB "bool" "tuple" = some false), fun _ => (by decide +kernel : kitB "int" "tuple" = some false), fun _ => (by decide +kernel : kitB "str" "tuple" = some false), fun _ => (by decide +kernel : kitB "list" "tuple" = some false), fun _ => (by decide +kernel : kitB "tuple" "tuple" = some true)⟩
theorem ty_kit {K : PySem.W.Frag} {G : Hp} {x : V} {d : PyData} (h : Rp K G x d) (nd : ∀ kv, d ≠ .dict kv) : ∃ t : String, TyX K G x (.type t) ∧ ∀ T, KitT T → kitB t T = some (isTy T d) := by
  cases h with
  | non => exact ⟨_, .base .non, fun T k => k.non⟩
  | bl b => exact ⟨_, .base (.bl b), fun T k => k.bl b⟩
  | int b => exact ⟨_, .base (.int b), fun T k => k.int b⟩
  | str b => exact ⟨_, .base (.str b), fun T k => k.str b⟩
  | lst h1 _ =>
    rcases h1 with h1 | ⟨o, h1⟩
    · exact ⟨_, .base (.lst h1), fun T k => k.lst _⟩
    · exact ⟨_, .base (.frz h1), fun T k => k.lst _⟩
  | tup h1 _ =>
    rcases h1 with (h1 | ⟨o, h1⟩) | ⟨o, its, n, h1, h2, _⟩
    · exact ⟨_, .base (.tup h1), fun T k => k.tup _⟩
    · exact ⟨_, .fTuple h1, fun T k => k.tup _⟩
    · exact ⟨_, .kTuple h1 h2, fun T k => k.tup _⟩
  | kl _ _ => exact absurd rfl (nd _)
theorem tyx_same {K : PySem.W.Frag} {H H' : Hp} {x : V} {d : PyData} (e : Same H H') (h : Rp K H x d) : Rp K H' x d := dp_same e _ h
section
variable {X : Cx} {W : Wx} {ρ : En} {pos : Pos}
theorem ev_isi {T : String} {e c : Expr} {p : Pos} {r : R PyData} (kt : KitT T) (hg : Gl X "isinstance") (hm : X.mg "isinstance" = none) (he : EvR X W ρ e r) (pT : PE X c (tC (.ty T)))
    (h1 : starEach (e :: [c]) X.env = (false, eval e X.env) :: starEach [c] X.env := by rfl) (h2 : starEach (c :: []) X.env = (false, eval c X.env) :: starEach [] X.env := by rfl) (hpl : (backTo pos (starEach [c] X.env)).any (·.1) = false := by rfl) :
    EvR X W ρ (.Call (.Name "isinstance" p) [e, c] [] pos) (r.bind (tyR T)) := by
  refine ⟨PE.imp (pe_callB call_isi hg hm (by decide +kernel) (pa_cons he.pe (pa_cons pT pa_nil h2) h1) (he := h1) (hpl := hpl)) fun σ H Q h => ?_⟩
  obtain ⟨F, G, px, st, q⟩ := h
  refine ⟨F, G, px, st, Go.bind q fun d q1 v H1 G1 e1 st1 dv => ?_⟩
  have dv' := tyx_same st1.gh dv
  have nd : ∀ kv, d ≠ .dict kv := fun kv z => by subst z; exact q1.elim
  have q1 : Vl X.K W px ρ F G σ Q (.bool (isTy T d)) := by cases d <;> first | exact q1 | exact absurd rfl (nd _)
  obtain ⟨t, ht, hk⟩ := ty_kit dv' nd
  exact ⟨v, .ty T, .type t, .type T, _, rfl, .ty T, ht, kit_ty (hk T kt), q1 _ H1 G1 e1 st1 (.bl _)⟩
theorem ev_isi2 {T U : String} {e c c' : Expr} {p pt : Pos} {k : Nat} {r : R PyData} (kt : KitT T) (ku : KitT U) (hg : Gl X "isinstance") (hm : X.mg "isinstance" = none) (he : EvR X W ρ e r) (pT : PE X c (tC (.ty T))) (pU : PE X c' (tC (.ty U)))
    (h1 : starEach (e :: [.Tuple [c, c'] k pt]) X.env = (false, eval e X.env) :: starEach [.Tuple [c, c'] k pt] X.env := by rfl) (h2 : starEach (.Tuple [c, c'] k pt :: []) X.env = (false, eval (.Tuple [c, c'] k pt) X.env) :: starEach [] X.env := by rfl)
    (h3 : starEach (c :: [c']) X.env = (false, eval c X.env) :: starEach [c'] X.env := by rfl) (h4 : starEach (c' :: []) X.env = (false, eval c' X.env) :: starEach [] X.env := by rfl) (hpl : (backTo pos (starEach [.Tuple [c, c'] k pt] X.env)).any (·.1) = false := by rfl) :
    EvR X W ρ (.Call (.Name "isinstance" p) [e, .Tuple [c, c'] k pt] [] pos) (r.bind (tyR2 T U)) := by
  refine ⟨PE.imp (pe_callB call_isiT hg hm (by decide +kernel) (pa_cons he.pe (pa_cons (pe_tup (pa_cons pT (pa_cons pU pa_nil h4) h3)) pa_nil h2) h1) (he := h1) (hpl := hpl)) fun σ H Q h => ?_⟩
  obtain ⟨F, G, px, st, q⟩ := h
  refine ⟨F, G, px, st, Go.bind q fun d q1 v H1 G1 e1 st1 dv => ⟨by show 2 ≤ sizeLine; decide, fun tp htp => ?_⟩⟩
  have nd : ∀ kv, d ≠ .dict kv := fun kv z => by subst z; exact q1.elim
  have q1 : Vl X.K W px ρ F G σ Q (.bool (isTy T d || isTy U d)) := by cases d <;> first | exact q1 | exact absurd rfl (nd _)
  have gp := st1.gh.free htp
  have st2 := st1.alloc (o := .tup [.ty T, .ty U]) htp
  have dv' := tyx_same st2.gh (dp_same (Same.new gp) _ dv)
  obtain ⟨t, ht, hk⟩ := ty_kit dv' nd
  refine ⟨v, tp, [.ty T, .ty U], .type t, [.type T, .type U], _, rfl, upd_same, .cons (.ty T) (.cons (.ty U) .nil), ht, ?_, q1 _ _ _ (e1.trans (Same.new gp)) st2 (.bl _)⟩
  unfold PySem.W.kitAny
  rw [kit_ty (hk T kt)]
  cases isTy T d with
  | true => rfl
  | false =>
    unfold PySem.W.kitAny
    rw [kit_ty (hk U ku)]
    cases isTy U d <;> rfl
end
end SE

set_option maxHeartbeats 4000000
/-! states cut and mended; targets; what is walked; comprehensions -/
namespace SE
open PySem PySem.Spec PyProof.Rows L2
section
variable {K : PySem.W.Frag} {W W' : Wx} {F G G' H H' : Hp} {px : Px} {σ σ' : List (Option V)} {ρ ρ' : En} {cs : List Addr}
theorem Slots.inj (h : Slots K F G H σ ρ cs) : ∀ {i j : Nat} {ds es : List PyData} {t u : Option Addr} {a : Addr}, ρ[i]? = some (some (.own ds t)) → ρ[j]? = some (some (.own es u)) → σ[i]? = some (some (.ref a)) → σ[j]? = some (some (.ref a)) → i = j := by
  induction h with
  | nil => intro i j ds es t u a e; simp at e
  | skip _ ih =>
    intro i j ds es t u a e1 e2 e3 e4
    cases i with
    | zero => simp at e1
    | succ i =>
      cases j with
      | zero => simp at e2
      | succ j => exact congrArg (· + 1) (ih (by simpa using e1) (by simpa using e2) (by simpa using e3) (by simpa using e4))
  | raw _ _ ih =>
    intro i j ds es t u a e1 e2 e3 e4
    cases i with
    | zero => simp at e1
    | succ i =>
      cases j with
      | zero => simp at e2
      | succ j => exact congrArg (· + 1) (ih (by simpa using e1) (by simpa using e2) (by simpa using e3) (by simpa using e4))
  | val _ _ ih =>
    intro i j ds es t u a e1 e2 e3 e4
    cases i with
    | zero => simp at e1
    | succ i =>
      cases j with
      | zero => simp at e2
      | succ j => exact congrArg (· + 1) (ih (by simpa using e1) (by simpa using e2) (by simpa using e3) (by simpa using e4))
  | own q0 q1 q2 q3 q4 q5 h ih =>
    intro i j ds es t u a e1 e2 e3 e4
    cases i with
    | zero =>
      cases j with
      | zero => rfl
      | succ j =>
        exfalso
        have e2' := by simpa using e2
        have e4' := by simpa using e4
        obtain ⟨b, _, f1, f2, _⟩ := h.own_at e2'
        rw [e4'] at f1
        cases f1
        simp at e3
        subst e3
        exact q5 f2
    | succ i =>
      cases j with
      | zero =>
        exfalso
        have e1' := by simpa using e1
        have e3' := by simpa using e3
        obtain ⟨b, _, f1, f2, _⟩ := h.own_at e1'
        rw [e3'] at f1
        cases f1
        simp at e4
        subst e4
        exact q5 f2
      | succ j => exact congrArg (· + 1) (ih (by simpa using e1) (by simpa using e2) (by simpa using e3) (by simpa using e4))
/-- slots, place by place -/
theorem Slots.by_place : ∀ {σ : List (Option V)} {ρ : En}, σ.length = ρ.length → (∀ (i : Nat) (v : V) (P : Hp → Prop), ρ[i]? = some (some (Sl.raw v P)) → σ[i]? = some (some v) ∧ ∀ G', Same G G' → P G') → (∀ (i : Nat) (d : PyData), ρ[i]? = some (some (Sl.val d)) → ∃ v, σ[i]? = some (some v) ∧ Rp K G v d) →
    (∀ (i : Nat) (ds : List PyData) (t : Option Addr), ρ[i]? = some (some (Sl.own ds t)) → ∃ a vs, σ[i]? = some (some (.ref a)) ∧ G a = none ∧ F a = none ∧ H a = some (.lst vs) ∧ RpAll K G vs ds ∧ ∀ b, t = some b → b = a) →
    (∀ (i j : Nat) (ds es : List PyData) (t u : Option Addr) (a : Addr), ρ[i]? = some (some (Sl.own ds t)) → ρ[j]? = some (some (Sl.own es u)) → σ[i]? = some (some (V.ref a)) → σ[j]? = some (some (V.ref a)) → i = j) →
    ∃ cs, Slots K F G H σ ρ cs ∧ ∀ a ∈ cs, ∃ (i : Nat) (ds : List PyData) (t : Option Addr), ρ[i]? = some (some (Sl.own ds t)) ∧ σ[i]? = some (some (V.ref a))
  | [], [], _, _, _, _, _ => ⟨[], .nil, fun _ m => by cases m⟩
  | x :: σ, y :: ρ, hl, hr, hv, ho, hi => by
    obtain ⟨cs, sl, hc⟩ := Slots.by_place (σ := σ) (ρ := ρ) (by simpa using hl) (fun i v P e => by simpa using hr (i + 1) v P (by simpa using e)) (fun i d e => by simpa using hv (i + 1) d (by simpa using e)) (fun i ds t e => by simpa using ho (i + 1) ds t (by simpa using e))
      (fun i j ds es t u a e1 e2 e3 e4 => by have := hi (i + 1) (j + 1) ds es t u a (by simpa using e1) (by simpa using e2) (by simpa using e3) (by simpa using e4); omega)
    have hc' : ∀ a ∈ cs, ∃ (i : Nat) (ds : List PyData) (t : Option Addr), (y :: ρ)[i]? = some (some (Sl.own ds t)) ∧ (x :: σ)[i]? = some (some (V.ref a)) ∧ 0 < i := fun a m => by
      obtain ⟨i, ds, t, e1, e2⟩ := hc a m
      exact ⟨i + 1, ds, t, by simpa using e1, by simpa using e2, Nat.succ_pos _⟩
    cases y with
    | none => exact ⟨cs, .skip sl, fun a m => let ⟨i, ds, t, e1, e2, _⟩ := hc' a m; ⟨i, ds, t, e1, e2⟩⟩
    | some s =>
      cases s with
      | raw v P =>
        obtain ⟨e, hp⟩ := hr 0 v P rfl
        simp at e
        subst e
        exact ⟨cs, .raw hp sl, fun a m => let ⟨i, ds, t, e1, e2, _⟩ := hc' a m; ⟨i, ds, t, e1, e2⟩⟩
      | val d =>
        obtain ⟨v, e, r⟩ := hv 0 d rfl
        simp at e
        subst e
        exact ⟨cs, .val r sl, fun a m => let ⟨i, ds, t, e1, e2, _⟩ := hc' a m; ⟨i, ds, t, e1, e2⟩⟩
      | own ds t =>
        obtain ⟨a, vs, e, g1, g2, g3, g4, g5⟩ := ho 0 ds t rfl
        simp at e
        subst e
        refine ⟨a :: cs, .own g5 g1 g2 g3 g4 (fun m => ?_) sl, fun b m => ?_⟩
        · obtain ⟨i, es, u, e1, e2, hp⟩ := hc' a m
          have := hi 0 i ds es t u a rfl e1 rfl e2
          omega
        · rcases List.mem_cons.mp m with z | z
          · rw [z]; exact ⟨0, ds, t, rfl, rfl⟩
          · exact let ⟨i, ds, t, e1, e2, _⟩ := hc' b z; ⟨i, ds, t, e1, e2⟩
/-- the state mended: the slots at vs held no own list and are as they were (ρ), the others are as they came (ρ') -/
theorem StG.mend2 {ρ2 : En} {vs : List Nat} (st : StG K W F px ρ σ H G) (st' : StG K W F px ρ' σ' H' G') (e : Same G G') (hl : σ'.length = σ.length) (hl2 : ρ2.length = ρ.length) (hσ : ∀ i, i ∉ vs → σ'[i]? = σ[i]?) (hρ : ∀ i, i ∉ vs → ρ'[i]? = ρ2[i]?) (hρ2 : ∀ i ∈ vs, ρ2[i]? = ρ[i]?) (hn : ∀ i ∈ vs, ∀ ds t, ρ[i]? ≠ some (some (Sl.own ds t))) :
    StG K W F px ρ2 σ H' G' := by
  obtain ⟨cs, sl, dj⟩ := st.sl
  obtain ⟨cs', sl', dj'⟩ := st'.sl
  have out : ∀ {i : Nat} {ds : List PyData} {t : Option Addr}, ρ2[i]? = some (some (Sl.own ds t)) → i ∉ vs := fun {i ds t} e1 m => hn i m ds t ((hρ2 i m) ▸ e1)
  obtain ⟨cs2, sl2, hc⟩ := Slots.by_place (K := K) (F := F) (G := G') (H := H') (σ := σ) (ρ := ρ2) (sl.len.trans hl2.symm)
    (fun i v P e1 => by
      by_cases hi : i ∈ vs
      · obtain ⟨a, b⟩ := sl.raw_at ((hρ2 i hi).symm.trans e1)
        exact ⟨a, fun G'' e' => b G'' (e.trans e')⟩
      · obtain ⟨a, b⟩ := sl'.raw_at ((hρ i hi).trans e1)
        exact ⟨(hσ i hi).symm.trans a, b⟩)
    (fun i d e1 => by
      by_cases hi : i ∈ vs
      · obtain ⟨v, a, b⟩ := sl.val_at ((hρ2 i hi).symm.trans e1)
        exact ⟨v, a, dp_same e _ b⟩
      · obtain ⟨v, a, b⟩ := sl'.val_at ((hρ i hi).trans e1)
        exact ⟨v, (hσ i hi).symm.trans a, b⟩)
    (fun i ds t e1 => by
      have hi := out e1
      obtain ⟨a, ws, f1, f2, f3, f4, f5⟩ := sl'.own_at ((hρ i hi).trans e1)
      obtain ⟨c1, c2, _⟩ := sl'.cell a f2
      exact ⟨a, ws, (hσ i hi) ▸ f1, c1, c2, f3, f4, f5⟩)
    (fun i j ds es t u a e1 e2 e3 e4 => sl'.inj ((hρ i (out e1)).trans e1) ((hρ j (out e2)).trans e2) ((hσ i (out e1)).trans e3) ((hσ j (out e2)).trans e4))
  refine ⟨st'.gh, st'.fh, ⟨cs2, sl2, fun p hp m => ?_⟩, st'.pv, st'.nd, st'.tb, st'.nt⟩
  obtain ⟨i, ds, t, e1, e2⟩ := hc _ m
  obtain ⟨a, _, f1, f2, _⟩ := sl'.own_at ((hρ i (out e1)).trans e1)
  rw [hσ i (out e1), e2] at f1
  cases f1
  exact dj' p hp f2
theorem StG.mend {vs : List Nat} (st : StG K W F px ρ σ H G) (st' : StG K W F px ρ' σ' H' G') (e : Same G G') (hl : σ'.length = σ.length) (hσ : ∀ i, i ∉ vs → σ'[i]? = σ[i]?) (hρ : ∀ i, i ∉ vs → ρ'[i]? = ρ[i]?) (hn : ∀ i ∈ vs, ∀ ds t, ρ[i]? ≠ some (some (Sl.own ds t))) :
    StG K W F px ρ σ H' G' := st.mend2 st' e hl rfl hσ hρ (fun _ _ => rfl) hn
theorem StG.w (st : StG K W F px ρ σ H G) (e : W'.tabs = W.tabs) : StG K W' F px ρ σ H G := ⟨st.gh, st.fh, st.sl, st.pv, st.nd, by rw [e]; exact st.tb, st.nt⟩
theorem Slots.nodup (h : Slots K F G H σ ρ cs) : cs.Nodup := by
  induction h with
  | nil => exact List.nodup_nil
  | skip _ ih => exact ih
  | raw _ _ ih => exact ih
  | val _ _ ih => exact ih
  | own _ _ _ _ _ h5 _ ih => exact List.nodup_cons.mpr ⟨h5, ih⟩
theorem cells_px : ∀ {cs : List Addr}, (∀ a ∈ cs, ∃ vs, H a = some (.lst vs)) → ∃ l : Px, l.map (·.1) = cs ∧ ∀ p ∈ l, H p.1 = some (.lst p.2)
  | [], _ => ⟨[], rfl, fun _ m => by cases m⟩
  | a :: cs, h => by
    obtain ⟨vs, e⟩ := h a List.mem_cons_self
    obtain ⟨l, e1, e2⟩ := cells_px (cs := cs) fun b m => h b (List.mem_cons_of_mem _ m)
    refine ⟨(a, vs) :: l, by rw [List.map_cons, e1], fun p m => ?_⟩
    rcases List.mem_cons.mp m with z | z
    · rw [z]; exact e
    · exact e2 p z
/-- the slots' own lists handed to the keeping of px, and taken back -/
theorem StG.shut (st : StG K W F px ρ σ H G) : ∃ px', StG K W F px' [] [] H G ∧ ∀ H' G', Same G G' → StG K W F px' [] [] H' G' → StG K W F px ρ σ H' G' := by
  obtain ⟨cs, sl, dj⟩ := st.sl
  obtain ⟨l, e1, e2⟩ := cells_px fun a m => (sl.cell a m).2.2
  have inl : ∀ p ∈ l, p.1 ∈ cs := fun p m => by rw [← e1]; exact List.mem_map.mpr ⟨p, m, rfl⟩
  have nd : ((px ++ l).map (·.1)).Nodup := by
    rw [List.map_append, e1, List.nodup_append]
    refine ⟨st.nd, sl.nodup, fun a ha b hb z => ?_⟩
    obtain ⟨p, hp, e⟩ := List.mem_map.mp ha
    exact dj p hp (by rw [e, z]; exact hb)
  refine ⟨px ++ l, ⟨st.gh, st.fh, ⟨[], .nil, fun _ _ m => by cases m⟩, fun p m => ?_, nd, st.tb, st.nt⟩, fun H' G' e st' => ?_⟩
  · rcases List.mem_append.mp m with m | m
    · exact st.pv p m
    · obtain ⟨c1, c2, _⟩ := sl.cell p.1 (inl p m)
      exact ⟨e2 p m, c1, c2⟩
  · have at_ : ∀ a ∈ cs, G' a = none ∧ H' a = H a := fun a m => by
      rw [← e1] at m
      obtain ⟨p, hp, rfl⟩ := List.mem_map.mp m
      obtain ⟨g1, g2, _⟩ := st'.pv p (List.mem_append_right _ hp)
      exact ⟨g2, g1.trans (e2 p hp).symm⟩
    exact ⟨st'.gh, st'.fh, ⟨cs, sl.grow e (fun a m => (at_ a m).1) fun a m => (at_ a m).2, dj⟩, fun p m => st'.pv p (List.mem_append_left _ m), st.nd, st'.tb, st'.nt⟩
/-- .. where one more has come -/
theorem StG.shutX (st : StG K W F px ρ σ H G) : ∃ px', StG K W F px' [] [] H G ∧ ∀ a us H' G', Same G G' → StG K W F ((a, us) :: px') [] [] H' G' → StG K W F ((a, us) :: px) ρ σ H' G' := by
  obtain ⟨cs, sl, dj⟩ := st.sl
  obtain ⟨l, e1, e2⟩ := cells_px fun a m => (sl.cell a m).2.2
  have inl : ∀ p ∈ l, p.1 ∈ cs := fun p m => by rw [← e1]; exact List.mem_map.mpr ⟨p, m, rfl⟩
  have nd : ((px ++ l).map (·.1)).Nodup := by
    rw [List.map_append, e1, List.nodup_append]
    refine ⟨st.nd, sl.nodup, fun a ha b hb z => ?_⟩
    obtain ⟨p, hp, e⟩ := List.mem_map.mp ha
    exact dj p hp (by rw [e, z]; exact hb)
  refine ⟨px ++ l, ⟨st.gh, st.fh, ⟨[], .nil, fun _ _ m => by cases m⟩, fun p m => ?_, nd, st.tb, st.nt⟩, fun b us H' G' e st' => ?_⟩
  · rcases List.mem_append.mp m with m | m
    · exact st.pv p m
    · obtain ⟨c1, c2, _⟩ := sl.cell p.1 (inl p m)
      exact ⟨e2 p m, c1, c2⟩
  · have at_ : ∀ a ∈ cs, G' a = none ∧ H' a = H a := fun a m => by
      rw [← e1] at m
      obtain ⟨p, hp, rfl⟩ := List.mem_map.mp m
      obtain ⟨g1, g2, _⟩ := st'.pv p (List.mem_cons_of_mem _ (List.mem_append_right _ hp))
      exact ⟨g2, g1.trans (e2 p hp).symm⟩
    have nd' := st'.nd
    rw [List.map_cons, List.nodup_cons] at nd'
    refine ⟨st'.gh, st'.fh, ⟨cs, sl.grow e (fun a m => (at_ a m).1) fun a m => (at_ a m).2, fun p hp m => ?_⟩, fun p m => ?_, ?_, st'.tb, st'.nt⟩
    · rcases List.mem_cons.mp hp with z | z
      · rw [z] at m
        have m2 : b ∈ cs := m
        rw [← e1] at m2
        obtain ⟨q, hq, eq⟩ := List.mem_map.mp m2
        exact nd'.1 (List.mem_map.mpr ⟨q, List.mem_append_right _ hq, eq⟩)
      · exact dj p z m
    · rcases List.mem_cons.mp m with z | z
      · rw [z]; exact st'.pv _ List.mem_cons_self
      · exact st'.pv p (List.mem_cons_of_mem _ (List.mem_append_left _ z))
    · rw [List.map_cons, List.nodup_cons]
      exact ⟨fun z => let ⟨q, hq, eq⟩ := List.mem_map.mp z; nd'.1 (List.mem_map.mpr ⟨q, List.mem_append_left _ hq, eq⟩), st.nd⟩
end

/-! ### targets -/
theorem wipe_set : ∀ (vs : List Nat) (σ : L2.St) (i : Nat) (x : Option V), i ∈ vs → wipe (σ.set i x) vs = wipe σ vs
  | v :: vs, σ, i, x, h => by
    show (wipe (σ.set i x) vs).set v none = (wipe σ vs).set v none
    by_cases hi : i ∈ vs
    · rw [wipe_set vs σ i x hi]
    · have e : i = v := by
        rcases List.mem_cons.mp h with e | h
        · exact e
        · exact absurd h hi
      subst e
      have ne : ∀ (us : List Nat) (τ : L2.St), i ∉ us → wipe (τ.set i x) us = (wipe τ us).set i x := by
        intro us
        induction us with
        | nil => intro τ _; rfl
        | cons u us ih =>
          intro τ hu
          show (wipe (τ.set i x) us).set u none = ((wipe τ us).set u none).set i x
          rw [ih τ fun z => hu (List.mem_cons_of_mem _ z)]
          exact List.set_comm _ _ (fun z => hu (by rw [z]; exact List.mem_cons_self))
      rw [ne vs σ hi, List.set_set]
/-- a target: P what it names, dec how it takes a datum apart, put how the slots stand then -/
structure EvG (X : Cx) {P : Type} (tg : Expr) (vs : List Nat) (dec : PyData → Option P) (put : P → En → En) : Prop where
  ex : ∃ g : TG, PG X tg g ∧ ∀ (W : Wx) (F G H : Hp) (px : Px) (ρ : En) (σ : L2.St) (v : V) (d : PyData) (p : P) (Q : L2.St → Hp → Prop), StG X.K W F px ρ σ H G → Rp X.K G v d → dec d = some p →
    (∀ σ', StG X.K W F px (put p ρ) σ' H G → wipe σ' vs = wipe σ vs → Q σ' H) → g v σ H Q
structure EvGs (X : Cx) {P : Type} (n : Nat) (tgs : List Expr) (vs : List Nat) (dec : List PyData → Option P) (put : P → En → En) : Prop where
  len : ∀ ds p, dec ds = some p → ds.length = n
  ex : ∃ g : TGs, PGs X tgs g ∧ ∀ (W : Wx) (F G H : Hp) (px : Px) (ρ : En) (σ : L2.St) (ws : List V) (ds : List PyData) (p : P) (Q : L2.St → Hp → Prop), StG X.K W F px ρ σ H G → RpAll X.K G ws ds → dec ds = some p →
    (∀ σ', StG X.K W F px (put p ρ) σ' H G → wipe σ' vs = wipe σ vs → Q σ' H) → g ws σ H Q
section
variable {X : Cx} {pos : Pos} {P P' : Type} {vs : List Nat}
theorem eg_name (i : Nat) {x : Str} (pg : PG X (.Name x pos) (gName i)) (hi : decide (i ∈ vs) = true := by rfl) : EvG X (.Name x pos) vs (fun d => some d) (fun d ρ => ρ.set i (some (.val d))) :=
  ⟨_, pg, fun W F G H px ρ σ v d p Q st r e q => by
    cases e
    exact q _ (st.put r i) (wipe_set _ _ _ _ (of_decide_eq_true hi))⟩
def decOne {P : Type} (dec : PyData → Option P) : List PyData → Option P
  | [d] => dec d
  | _ => none
def decCons {P P' : Type} (dec : PyData → Option P) (decs : List PyData → Option P') : List PyData → Option (P × P')
  | d :: ds => (dec d).bind fun p => (decs ds).bind fun q => some (p, q)
  | [] => none
def decTup {P : Type} (decs : List PyData → Option P) : PyData → Option P := fun d => (itemsD d).bind decs
theorem egs_one {e : Expr} {dec : PyData → Option P} {put : P → En → En} (h : EvG X e vs dec put) (hs : (assignEach (e :: []) X.env).map (·.2) = assign e X.env :: (assignEach [] X.env).map (·.2) := by rfl) : EvGs X 1 [e] vs (decOne dec) put := by
  obtain ⟨g, pg, hg⟩ := h.ex
  refine ⟨fun ds p h => ?_, _, pgs_cons pg pgs_nil hs, fun W F G H px ρ σ ws ds p Q st r e1 q => ?_⟩
  · match ds, h with
    | [d], _ => rfl
  · match ds, r, e1 with
    | [d], .cons r .nil, e1 => exact ⟨_, [], rfl, hg W F G H px ρ σ _ d p _ st r e1 fun σ' st' hw => ⟨rfl, q σ' st' hw⟩⟩
theorem egs_cons {n : Nat} {e : Expr} {es : List Expr} {dec : PyData → Option P} {put : P → En → En} {decs : List PyData → Option P'} {puts : P' → En → En} (h : EvG X e vs dec put) (h' : EvGs X n es vs decs puts)
    (hs : (assignEach (e :: es) X.env).map (·.2) = assign e X.env :: (assignEach es X.env).map (·.2) := by rfl) : EvGs X (n + 1) (e :: es) vs (decCons dec decs) (fun p ρ => puts p.2 (put p.1 ρ)) := by
  obtain ⟨g, pg, hg⟩ := h.ex
  obtain ⟨gs, pgs, hgs⟩ := h'.ex
  refine ⟨fun ds p h => ?_, _, pgs_cons pg pgs hs, fun W F G H px ρ σ ws ds p Q st r e1 q => ?_⟩
  · cases ds with
    | nil => cases h
    | cons d ds =>
      have h : (dec d).bind (fun p => (decs ds).bind fun q => some (p, q)) = some p := h
      cases e1 : dec d with
      | none => rw [e1] at h; cases h
      | some p1 =>
        rw [e1] at h
        cases e2 : decs ds with
        | none => rw [e2] at h; cases h
        | some p2 => exact congrArg (· + 1) (h'.len ds p2 e2)
  · cases r with
    | nil => cases e1
    | @cons w ws d ds r rs =>
      have e1 : (dec d).bind (fun p => (decs ds).bind fun q => some (p, q)) = some p := e1
      cases e2 : dec d with
      | none => rw [e2] at e1; cases e1
      | some p1 =>
        rw [e2] at e1
        cases e3 : decs ds with
        | none => rw [e3] at e1; cases e1
        | some p2 =>
          rw [e3] at e1
          cases e1
          refine ⟨w, ws, rfl, hg W F G H px ρ σ w d p1 _ st r e2 fun σ1 st1 hw1 => ?_⟩
          exact hgs W F G H px _ σ1 ws ds p2 Q st1 rs e3 fun σ2 st2 hw2 => q σ2 st2 (hw2.trans hw1)
theorem PG.or {tg : Expr} {g g' : TG} (h : PG X tg g) (h' : PG X tg g') : PG X tg (fun v σ H Q => g v σ H Q ∨ g' v σ H Q) := ⟨fun pins s σ H v u Q I r q => by
  rcases q with q | q
  · exact h.run pins s σ H v u Q I r q
  · exact h'.run pins s σ H v u Q I r q⟩
theorem eg_tup {n : Nat} {es : List Expr} {k : Nat} {decs : List PyData → Option P} {put : P → En → En} (hc : X.calm = true) (h : EvGs X n es vs decs put) (hn : (assignEach es X.env).length = n := by rfl) (hst : (assignEach es X.env).findIdx? (·.1) = none := by rfl) :
    EvG X (.Tuple es k pos) vs (decTup decs) put := by
  obtain ⟨g, pg, hg⟩ := h.ex
  refine ⟨_, PG.or (pg_tup hc pg hn hst) (pg_unl hc pg hn hst), fun W F G H px ρ σ v d p Q st r e q => ?_⟩
  unfold decTup at e
  cases r with
  | @tup a xs ds h1 h2 =>
    have e : decs ds = some p := e
    exact .inl ⟨a, xs, rfl, Same.seqT st.gh h1, by rw [RpAll.len h2]; exact h.len _ _ e, hg W F G H px ρ σ xs ds p Q st h2 e q⟩
  | @lst a xs ds h1 h2 =>
    have e : decs ds = some p := e
    exact .inr ⟨a, xs, rfl, .inl (Rd.same st.gh h1), by rw [RpAll.len h2]; exact h.len _ _ e, hg W F G H px ρ σ xs ds p Q st h2 e q⟩
  | _ => cases e
end
end SE

set_option maxHeartbeats 4000000
/-! what is walked; comprehensions -/
namespace SE
open PySem PySem.Spec PyProof.Rows L2

structure WalkD (K : PySem.W.Frag) (J : It) (G : Hp) (ds : List PyData) : Prop where
  go : ∀ (i : Nat) (H : Hp), i < ds.length → Same G H → J.go i H
  stop : ∀ (i : Nat) (H : Hp), i = ds.length → Same G H → J.stop i H
  yld : ∀ (i : Nat) (H : Hp) (x : V) (H' : Hp), i < ds.length → Same G H → J.yld i H x H' → ∃ d, ds[i]? = some d ∧
    ((H' = H ∧ Rp K G x d) ∨ ∃ (T : Addr) (a b : V) (da db : PyData), x = .ref T ∧ H T = none ∧ H' = upd H T (.tup [a, b]) ∧ Rp K G a da ∧ Rp K G b db ∧ d = .tuple [da, db])
theorem WalkD.step {K : PySem.W.Frag} {W : Wx} {F G G1 H H' : Hp} {px : Px} {σ : List (Option V)} {ρ : En} {J : It} {ds : List PyData} {i : Nat} {x : V} (w : WalkD K J G ds) (e : Same G G1) (st : StG K W F px ρ σ H G1) (hi : i < ds.length) (y : J.yld i H x H') :
    ∃ d G', ds[i]? = some d ∧ Same G1 G' ∧ StG K W F px ρ σ H' G' ∧ Rp K G' x d := by
  obtain ⟨d, e1, h⟩ := w.yld i H x H' hi (e.trans st.gh) y
  rcases h with ⟨rfl, r⟩ | ⟨T, a, b, da, db, rfl, hT, rfl, r1, r2, rfl⟩
  · exact ⟨d, G1, e1, Same.refl _, st, dp_same e _ r⟩
  · have gp := st.gh.free hT
    refine ⟨_, upd G1 T (.tup [a, b]), e1, Same.new gp, st.alloc hT, ?_⟩
    have e2 := e.trans (Same.new (o := .tup [a, b]) gp)
    exact .tup (SqT.of upd_same) (.cons (dp_same e2 _ r1) (.cons (dp_same e2 _ r2) .nil))
def tI (K : PySem.W.Frag) (W : Wx) (ρ : En) (r : R (List PyData)) : TI := fun σ H Rk => ∃ F G px, StG K W F px ρ σ H G ∧
  Go W F r fun ds => ∀ J H' G', Same G G' → StG K W F px ρ σ H' G' → WalkD K J G' ds → ds.length ≤ sizeLine → Rk J H'
structure EvI (X : Cx) (W : Wx) (ρ : En) (tg iter : Expr) (r : R (List PyData)) : Prop where
  pi : PI X tg iter (tI X.K W ρ r)
theorem PI.imp {X : Cx} {tg e : Expr} {t t' : TI} (h : PI X tg e t) (i : ∀ σ H Q, t' σ H Q → t σ H Q) : PI X tg e t' := ⟨fun pins s σ H Q I q => h.run pins s σ H Q I (i σ H Q q)⟩
theorem walk_lst {K : PySem.W.Frag} {G : Hp} {a : Addr} {xs : List V} {ds : List PyData} (h1 : Rd G a (.lst xs)) (h2 : RpAll K G xs ds) : WalkD K (Itl K a) G ds where
  go := fun i H hi e => by
    obtain ⟨v, g1, g2⟩ := h2.get (List.getElem?_eq_getElem hi)
    exact ⟨xs, v, .inl (Rd.same e h1), g1⟩
  stop := fun i H hi e => ⟨xs, .inl (Rd.same e h1), by rw [RpAll.len h2]; exact Nat.le_of_eq hi.symm⟩
  yld := fun i H x H' hi e y => by
    obtain ⟨rfl, y⟩ := y
    obtain ⟨d, g1, g2⟩ := h2.get' (y xs (.inl (Rd.same e h1)))
    exact ⟨d, g1, .inl ⟨rfl, g2⟩⟩
theorem walk_tpl {K : PySem.W.Frag} {G : Hp} {a : Addr} {xs : List V} {ds : List PyData} (h1 : SqT K G a xs) (h2 : RpAll K G xs ds) : WalkD K (Itt K a) G ds where
  go := fun i H hi e => by
    obtain ⟨v, g1, g2⟩ := h2.get (List.getElem?_eq_getElem hi)
    exact ⟨xs, v, Same.seqT e h1, g1⟩
  stop := fun i H hi e => ⟨xs, Same.seqT e h1, by rw [RpAll.len h2]; exact Nat.le_of_eq hi.symm⟩
  yld := fun i H x H' hi e y => by
    obtain ⟨rfl, y⟩ := y
    obtain ⟨d, g1, g2⟩ := h2.get' (y xs (Same.seqT e h1))
    exact ⟨d, g1, .inl ⟨rfl, g2⟩⟩
section
variable {X : Cx} {W : Wx} {ρ : En} {pos : Pos} {tg : Expr}
/-- over a list or a tuple -/
theorem ei_seq {e : Expr} {r : R PyData} (he : EvR X W ρ e r) : EvI X W ρ tg e (r.bind fun d => R.of (itemsD d)) := by
  refine ⟨⟨fun pins s σ H Rk I h => ?_⟩⟩
  obtain ⟨F, G, px, st, q⟩ := h
  refine thn (he.pe.run pins s σ H (fun v H1 => ∃ G1 d, Same G G1 ∧ StG X.K W F px ρ σ H1 G1 ∧ Rp X.K G1 v d ∧ Go W F (R.of (itemsD d)) fun ds => ∀ J H' G', Same G G' → StG X.K W F px ρ σ H' G' → WalkD X.K J G' ds → ds.length ≤ sizeLine → Rk J H') I
    ⟨F, G, px, st, Go.bind q fun d q1 v H1 G1 e1 st1 dv => ⟨G1, d, e1, st1, dv, q1⟩⟩) fun u s1 ⟨x, H1, I1, r1, G1, d, e1, st1, dv, q1⟩ => ?_
  obtain ⟨ds, e2, q2⟩ := Go.of q1
  cases dv with
  | @lst a xs es h1 h2 =>
    cases e2
    cases r1
    have hS := Rd.same st1.gh h1
    obtain ⟨its, rv, p, hz⟩ := I1.list (.inl hS)
    refine wpAny_pyIter_list p.isList ?_
    refine ⟨s1.heap.objs.size, [s1.heap.objs.size], _, _, H1, rfl, I1.kept (t' := s1.toks) fun b o e => Heap.get?_push_of_some _ e, turn_list a _, ⟨_, Heap.get?_push_size _ rfl, rfl, rfl⟩, fun b hb => ?_, q2 _ H1 G1 e1 st1 (walk_lst h1 h2) (by rw [← RpAll.len h2]; exact hz)⟩
    have e : b = s1.heap.objs.size := by simpa using hb
    subst e
    exact I1.fpOk (Nat.le_refl _) (I1.hok.fresh (Nat.le_refl _))
  | @tup a xs es h1 h2 =>
    cases e2
    cases r1
    have hS := Same.seqT st1.gh h1
    obtain ⟨its, rv, p, hz⟩ := I1.tuple hS
    refine wpAny_pyIter_tuple (show s1.heap.IsTuple a its.toArray from p) ?_
    refine ⟨s1.heap.objs.size, [s1.heap.objs.size], _, _, H1, rfl, I1.kept (t' := s1.toks) fun b o e => Heap.get?_push_of_some _ e, turn_tuple a _, ⟨_, Heap.get?_push_size _ rfl, rfl, rfl⟩, fun b hb => ?_, q2 _ H1 G1 e1 st1 (walk_tpl h1 h2) (by rw [← RpAll.len h2]; exact hz)⟩
    have e : b = s1.heap.objs.size := by simpa using hb
    subst e
    exact I1.fpOk (Nat.le_refl _) (I1.hok.fresh (Nat.le_refl _))
  | _ => cases e2
/-- lo, lo + 1, .. : n ints -/
def upFrom (lo : Int) (n : Nat) : List PyData := (List.range n).map fun k => .int (lo + (k : Nat))
theorem upFrom_len (lo : Int) (n : Nat) : (upFrom lo n).length = n := by simp [upFrom]
theorem walk_up {K : PySem.W.Frag} {G : Hp} {lo : Int} {n : Nat} : WalkD K (Itr lo n) G (upFrom lo n) where
  go := fun i H hi e => by rw [upFrom_len] at hi; exact hi
  stop := fun i H hi e => by rw [upFrom_len] at hi; exact Nat.le_of_eq hi.symm
  yld := fun i H x H' hi e y => by
    obtain ⟨rfl, rfl⟩ := y
    rw [upFrom_len] at hi
    exact ⟨.int (lo + i), by simp [upFrom, hi], .inl ⟨rfl, .int _⟩⟩
def dRange1 : PyData → Option (List PyData)
  | .int j => if -(2 ^ 62) ≤ j ∧ j < 2 ^ 62 ∧ j.toNat ≤ sizeLine then some (upFrom 0 j.toNat) else none
  | _ => none
def dRange2 : PyData → PyData → Option (List PyData)
  | .int i, .int j => if (-(2 ^ 62) ≤ i ∧ i < 2 ^ 62 ∧ -(2 ^ 62) ≤ j ∧ j < 2 ^ 62) ∧ (j - i).toNat ≤ sizeLine then some (upFrom i (j - i).toNat) else none
  | _, _ => none
theorem ei_range1 {a : Expr} {p : Pos} {ra : R PyData} (hg : Gl X "range") (hm : X.mg "range" = none) (ha : EvR X W ρ a ra) (hs : starEach [a] X.env = [(false, eval a X.env)] := by rfl) (hs' : starEach (a :: []) X.env = (false, eval a X.env) :: starEach [] X.env := by rfl) :
    EvI X W ρ tg (.Call (.Name "range" p) [a] [] pos) (ra.bind fun x => R.of (dRange1 x)) := by
  refine ⟨PI.imp (pi_range1 hg hm (pa_cons ha.pe pa_nil hs') hs) fun σ H Rk h => ?_⟩
  obtain ⟨F, G, px, st, q⟩ := h
  refine ⟨F, G, px, st, Go.bind q fun d q1 v H1 G1 e1 st1 dv => ?_⟩
  obtain ⟨es, e2, q2⟩ := Go.of q1
  cases dv with
  | int j =>
    simp only [dRange1] at e2
    split at e2
    · rename_i h
      cases e2
      exact ⟨j, rfl, h.1, h.2.1, q2 _ H1 G1 e1 st1 walk_up (by rw [upFrom_len]; exact h.2.2)⟩
    · cases e2
  | _ => cases e2
theorem ei_range2 {a b : Expr} {p : Pos} {ra rb : R PyData} (hg : Gl X "range") (hm : X.mg "range" = none) (ha : EvR X W ρ a ra) (hb : EvR X W ρ b rb) (hs : starEach [a, b] X.env = [(false, eval a X.env), (false, eval b X.env)] := by rfl) (hs2 : starEach [b] X.env = [(false, eval b X.env)] := by rfl)
    (h1 : starEach (a :: [b]) X.env = (false, eval a X.env) :: starEach [b] X.env := by rfl) (h2 : starEach (b :: []) X.env = (false, eval b X.env) :: starEach [] X.env := by rfl) :
    EvI X W ρ tg (.Call (.Name "range" p) [a, b] [] pos) (ra.bind fun x => rb.bind fun y => R.of (dRange2 x y)) := by
  refine ⟨PI.imp (pi_range2 hg hm (pa_cons ha.pe (pa_cons hb.pe pa_nil h2) h1) hs hs2) fun σ H Rk h => ?_⟩
  obtain ⟨F, G, px, st, q⟩ := h
  refine ⟨F, G, px, st, Go.bind q fun d q1 v H1 G1 e1 st1 dv => ?_⟩
  refine ⟨F, G1, px, st1, Go.bind q1 fun d2 q2 v2 H2 G2 e2 st2 dv2 => ?_⟩
  obtain ⟨es, e3, q3⟩ := Go.of q2
  cases dv with
  | int i =>
    cases dv2 with
    | int j =>
      simp only [dRange2] at e3
      split at e3
      · rename_i h
        cases e3
        exact ⟨i, j, rfl, h.1, q3 _ H2 G2 (e1.trans e2) st2 walk_up (by rw [upFrom_len]; exact h.2)⟩
      · cases e3
    | _ => cases e3
  | _ => cases dv2 <;> cases e3
end

/-! ### comprehensions -/
/-- item by item, from the left -/
def mapR (f : PyData → R PyData) : List PyData → R (List PyData)
  | [] => .ok []
  | d :: ds => (f d).bind fun x => (mapR f ds).bind fun xs => .ok (x :: xs)
/-- .. those alone of which the test holds -/
def filtR (f : PyData → R (Option PyData)) : List PyData → R (List PyData)
  | [] => .ok []
  | d :: ds => (f d).bind fun x => (filtR f ds).bind fun xs => .ok (match x with | some y => y :: xs | none => xs)
/-- an error of one's own does not leave a comprehension -/
def R.calm {α : Type} : R α → R α
  | .ok a => .ok a
  | _ => .no
@[simp] theorem R.calm_ok {α : Type} (a : α) : (R.ok a).calm = .ok a := rfl
@[simp] theorem R.calm_no {α : Type} : (R.no : R α).calm = .no := rfl
def wipeE (ρ : En) : List Nat → En
  | [] => ρ
  | v :: vs => (wipeE ρ vs).set v none
theorem wipe_get {α : Type} : ∀ {vs : List Nat} {ρ : List (Option α)} (w : List (Option α) → List Nat → List (Option α)) (i : Nat), (∀ ρ, w ρ [] = ρ) → (∀ ρ v vs, w ρ (v :: vs) = (w ρ vs).set v none) → i ∉ vs → (w ρ vs)[i]? = ρ[i]?
  | [], ρ, w, i, h0, h1, _ => by rw [h0]
  | v :: vs, ρ, w, i, h0, h1, hi => by
    rw [h1, List.getElem?_set_ne (fun z => hi (by rw [z]; exact List.mem_cons_self)), wipe_get w i h0 h1 fun z => hi (List.mem_cons_of_mem _ z)]
theorem StG.wiped {K : PySem.W.Frag} {W : Wx} {F G H : Hp} {px : Px} {σ : L2.St} {ρ : En} (st : StG K W F px ρ σ H G) : ∀ vs : List Nat, StG K W F px (wipeE ρ vs) (wipe σ vs) H G
  | [] => st
  | v :: vs => (StG.wiped st vs).forget none v
def noOwn (ρ : En) (vs : List Nat) : Bool := vs.all fun i => match ρ[i]? with | some (some (.own _ _)) => false | _ => true
theorem noOwn_ne {ρ : En} {vs : List Nat} (h : noOwn ρ vs = true) : ∀ i ∈ vs, ∀ ds t, ρ[i]? ≠ some (some (Sl.own ds t)) := fun i hi ds t e => by
  have := List.all_eq_true.mp h i hi
  rw [e] at this
  cases this
/-- tests of a clause -/
structure EvTs (X : Cx) (W : Wx) (ρ : En) (ifs : List Expr) (r : R Bool) : Prop where
  pt : PTs X ifs (tT X.K W ρ r)
section
variable {X : Cx} {W : Wx} {ρ : En} {pos : Pos}
theorem ets_nil : EvTs X W ρ [] (.ok true) := by
  refine ⟨⟨fun pins s σ H Q I h => pts_nil.run pins s σ H Q I ?_⟩⟩
  obtain ⟨F, G, px, st, q⟩ := h
  exact q H G (Same.refl G) st
theorem ets_one {c : Expr} {r : R Bool} (h : EvT X W ρ c r) : EvTs X W ρ [c] r := ⟨pts_one h.pt⟩
theorem wipe_in : ∀ (us : List Nat) {vs : List Nat} (σ : L2.St), (∀ u ∈ us, u ∈ vs) → wipe (wipe σ us) vs = wipe σ vs
  | [], _, _, _ => rfl
  | u :: us, vs, σ, h => (wipe_set vs (wipe σ us) u none (h u List.mem_cons_self)).trans (wipe_in us σ fun v m => h v (List.mem_cons_of_mem _ m))
/-- one reading for a target, wherever it is used -/
def gU (K : PySem.W.Frag) {P : Type} (vs : List Nat) (dec : PyData → Option P) (put : P → En → En) : TG := fun v σ H Q => ∃ (W : Wx) (F G : Hp) (px : Px) (ρ : En) (d : PyData) (p : P), StG K W F px ρ σ H G ∧ Rp K G v d ∧ dec d = some p ∧ ∀ σ', StG K W F px (put p ρ) σ' H G → wipe σ' vs = wipe σ vs → Q σ' H
theorem EvG.uni {P : Type} {tg : Expr} {vs : List Nat} {dec : PyData → Option P} {put : P → En → En} (h : EvG X tg vs dec put) : PG X tg (gU X.K vs dec put) := by
  obtain ⟨g, pg, hg⟩ := h.ex
  refine ⟨fun pins s σ H v u Q I r q => ?_⟩
  obtain ⟨W, F, G, px, ρ, d, p, st, rv, e, q⟩ := q
  exact pg.run pins s σ H v u Q I r (hg W F G H px ρ σ v d p Q st rv e q)
/-- what a turn of a comprehension comes to -/
def turnR {P : Type} (dec : PyData → Option P) (t : P → R Bool) (f : P → R PyData) (d : PyData) : R (Option PyData) := (R.of (dec d)).bind fun p => (t p).bind fun b => if b = true then (f p).bind fun y => .ok (some y) else .ok none
theorem turnR_ok {P : Type} {dec : PyData → Option P} {t : P → R Bool} {f : P → R PyData} {d : PyData} {o : Option PyData} (h : turnR dec t f d = .ok o) : ∃ p b, dec d = some p ∧ t p = .ok b ∧ ((b = true ∧ ∃ y, f p = .ok y ∧ o = some y) ∨ (b = false ∧ o = none)) := by
  unfold turnR at h
  cases e1 : dec d with
  | none => rw [e1] at h; cases h
  | some p =>
    rw [e1, R.of_some, R.bind_ok] at h
    cases e2 : t p with
    | ok b =>
      rw [e2, R.bind_ok] at h
      cases b with
      | true =>
        rw [if_pos rfl] at h
        cases e3 : f p with
        | ok y => rw [e3] at h; cases h; exact ⟨p, true, rfl, e2, .inl ⟨rfl, y, e3, rfl⟩⟩
        | ex _ _ => rw [e3] at h; cases h
        | no => rw [e3] at h; cases h
      | false =>
        rw [if_neg Bool.false_ne_true] at h
        cases h
        exact ⟨p, false, rfl, e2, .inr ⟨rfl, rfl⟩⟩
    | ex _ _ => rw [e2] at h; cases h
    | no => rw [e2] at h; cases h
theorem filtR_ok {f : PyData → R (Option PyData)} {d : PyData} {ds xs : List PyData} (h : filtR f (d :: ds) = .ok xs) : ∃ o ys, f d = .ok o ∧ filtR f ds = .ok ys ∧ xs = (match o with | some y => y :: ys | none => ys) := by
  have h : (f d).bind (fun x => (filtR f ds).bind fun xs => .ok (match x with | some y => y :: xs | none => xs)) = .ok xs := h
  cases e1 : f d with
  | ok o =>
    rw [e1, R.bind_ok] at h
    cases e2 : filtR f ds with
    | ok ys => rw [e2] at h; cases h; exact ⟨o, ys, rfl, rfl, rfl⟩
    | ex _ _ => rw [e2] at h; cases h
    | no => rw [e2] at h; cases h
  | ex _ _ => rw [e1] at h; cases h
  | no => rw [e1] at h; cases h
/-- what is wanted behind an expression that makes a list of one's own -/
def VlF (K : PySem.W.Frag) (W : Wx) (px : Px) (ρ : En) (F G : Hp) (σ : List (Option V)) (Q : VK) : List PyData → Prop := fun ds => ∀ p vs H' G', Same G G' → StG K W F ((p, vs) :: px) ρ σ H' G' → RpAll K G' vs ds → Q (.ref p) H'
def tF (K : PySem.W.Frag) (W : Wx) (ρ : En) (r : R (List PyData)) : TE := fun σ H Q => ∃ F G px, StG K W F px ρ σ H G ∧ Go W F r (VlF K W px ρ F G σ Q)
structure EvF (X : Cx) (W : Wx) (ρ : En) (e : Expr) (r : R (List PyData)) : Prop where
  pe : PE X e (tF X.K W ρ r)
theorem tF_of {K : PySem.W.Frag} {W : Wx} {ρ : En} {r : R (List PyData)} {σ : L2.St} {H : Hp} {Q : VK} (h : tR K W ρ (r.bind fun ds => .ok (.list ds)) σ H Q) : tF K W ρ r σ H Q := by
  obtain ⟨F, G, px, st, q⟩ := h
  refine ⟨F, G, px, st, Go.bind q fun ds q1 p vs H1 G1 e1 st1 ra => ?_⟩
  have g1 := (st1.pv _ List.mem_cons_self).2.1
  exact q1 _ _ _ (e1.trans (Same.new g1)) st1.freezeP (.lst (Rd.of upd_same) (dps_same (Same.new g1) _ ra))
theorem EvF.ev {e : Expr} {r : R (List PyData)} (h : EvF X W ρ e r) : EvR X W ρ e (r.bind fun ds => .ok (.list ds)) := ⟨PE.imp h.pe fun _ _ _ => tF_of⟩
abbrev W.calm (W : Wx) : Wx := ⟨fun _ _ _ => False, W.tabs⟩
/-- what a comprehension comes to -/
def lcR {P : Type} (ri : R (List PyData)) (dec : PyData → Option P) (t : P → R Bool) (f : P → R PyData) : R (List PyData) := ri.bind fun ds => (filtR (turnR dec t f) ds).calm
def ttU (K : PySem.W.Frag) (W : Wx) {P : Type} (vs : List Nat) (ρ : En) (put : P → En → En) (t : P → R Bool) : TT := fun σ H Q => ∃ p : P, tT K ⟨fun _ _ _ => False, W.tabs⟩ (put p (wipeE ρ vs)) (t p) σ H Q
def teU (K : PySem.W.Frag) (W : Wx) {P : Type} (vs : List Nat) (ρ : En) (put : P → En → En) (f : P → R PyData) : TE := fun σ H Q => ∃ p : P, tR K ⟨fun _ _ _ => False, W.tabs⟩ (put p (wipeE ρ vs)) (f p) σ H Q
theorem lc_red {K : PySem.W.Frag} {P : Type} {vs : List Nat} {dec : PyData → Option P} {put : P → En → En} {ri : R (List PyData)} {t : P → R Bool} {f : P → R PyData} (ho : noOwn ρ vs = true)
    (hput : ∀ p i, i ∉ vs → (put p (wipeE ρ vs))[i]? = (wipeE ρ vs)[i]?) (σ : L2.St) (H : Hp) (Q : VK) (h : tF K W ρ (lcR ri dec t f) σ H Q) :
    tLc (tI K W ρ ri) (gU K vs dec put) (ttU K W vs ρ put t) (teU K W vs ρ put f) vs σ H Q := by
  obtain ⟨F, G, px, st, q⟩ := h
  refine ⟨F, G, px, st, Go.bind q fun ds q1 J H1 G1 e1 st1 wd hz => ?_⟩
  obtain ⟨xs, hxs, qf⟩ : ∃ xs, filtR (turnR dec t f) ds = .ok xs ∧ VlF K W px ρ F G σ Q xs := by
    cases e : filtR (turnR dec t f) ds with
    | ok xs => rw [e] at q1; exact ⟨xs, rfl, q1⟩
    | ex _ _ => rw [e] at q1; exact q1.elim
    | no => rw [e] at q1; exact q1.elim
  intro D hD
  have hww : wipe (wipe σ vs) vs = wipe σ vs := wipe_in vs σ fun _ m => m
  have σg : ∀ (τ : L2.St) i, i ∉ vs → (wipe τ vs)[i]? = τ[i]? := fun τ i hi => wipe_get wipe i (fun _ => rfl) (fun _ _ _ => rfl) hi
  have ρg : ∀ i, i ∉ vs → (wipeE ρ vs)[i]? = ρ[i]? := fun i hi => wipe_get wipeE i (fun _ => rfl) (fun _ _ _ => rfl) hi
  refine ⟨fun i m Hc => m = ds.length - i ∧ i ≤ ds.length ∧ ∃ (G' : Hp) (acc : List V) (accd rest : List PyData), Same G1 G' ∧ StG K W F ((D, acc) :: px) ρ σ Hc G' ∧ RpAll K G' acc accd ∧ acc.length ≤ i ∧ filtR (turnR dec t f) (ds.drop i) = .ok rest ∧ accd ++ rest = xs,
    ⟨ds.length, by simp, Nat.zero_le _, G1, [], [], xs, Same.refl _, st1.newP hD, .nil, Nat.zero_le _, by simpa using hxs, rfl⟩, ?_⟩
  rintro i m Hc ⟨rfl, hi', G', acc, accd, rest, e2, st2, ra, hl, hr, hx⟩
  by_cases hlt : i < ds.length
  · refine .inr ⟨wd.go i Hc hlt (e2.trans st2.gh), fun Hn => ∃ (G' : Hp) (acc : List V) (accd rest : List PyData), Same G1 G' ∧ StG K W F ((D, acc) :: px) ρ σ Hn G' ∧ RpAll K G' acc accd ∧ acc.length ≤ i + 1 ∧ filtR (turnR dec t f) (ds.drop (i + 1)) = .ok rest ∧ accd ++ rest = xs,
      fun Hn hN => ⟨ds.length - (i + 1), by omega, rfl, hlt, hN⟩, fun x H' y => ?_⟩
    obtain ⟨d, G3, hd, e3, st3, rx⟩ := wd.step e2 st2 hlt y
    have hdrop : ds.drop i = d :: ds.drop (i + 1) := by
      rw [List.drop_eq_getElem_cons hlt]
      rw [List.getElem?_eq_getElem hlt] at hd
      rw [Option.some.inj hd]
    rw [hdrop] at hr
    obtain ⟨o, ys, ho1, hr1, hxr⟩ := filtR_ok hr
    obtain ⟨p, b, hp, hb, hcase⟩ := turnR_ok ho1
    refine ⟨⟨fun _ _ _ => False, W.tabs⟩, F, G3, _, wipeE ρ vs, d, p, (st3.w (W' := ⟨fun _ _ _ => False, W.tabs⟩) rfl).wiped vs, rx, hp, fun σ' st' hw => ⟨hw.trans hww, ?_⟩⟩
    have mend : ∀ {H4 G4 : Hp}, Same G3 G4 → StG K ⟨fun _ _ _ => False, W.tabs⟩ F ((D, acc) :: px) (put p (wipeE ρ vs)) σ' H4 G4 → StG K W F ((D, acc) :: px) ρ σ H4 G4 := fun {H4 G4} e4 st4 =>
      st3.mend (vs := vs) (st4.w (W' := W) rfl) e4 (by
        have l1 := wipe_length σ' vs
        have l2 := wipe_length (wipe σ vs) vs
        have l3 := wipe_length σ vs
        rw [hw] at l1
        omega) (fun j hj => by rw [← σg σ' j hj, hw, hww, σg σ j hj]) (fun j hj => by rw [hput p j hj, ρg j hj]) (noOwn_ne ho)
    refine ⟨p, F, G3, _, st', ?_⟩
    rw [hb]
    intro H4 G4 e4 st4
    rcases hcase with ⟨rfl, y, hy, rfl⟩ | ⟨rfl, rfl⟩
    · rw [if_pos rfl]
      refine ⟨p, F, G4, _, st4, ?_⟩
      rw [hy]
      intro v H5 G5 e5 st5 rv
      have st6 := mend (e4.trans e5) st5
      refine ⟨acc, (st6.pv _ List.mem_cons_self).1, by show acc.length < sizeLine; omega, G5, acc ++ [v], accd ++ [y], ys, ((e2.trans e3).trans e4).trans e5, st6.writeP, (dps_same ((e3.trans e4).trans e5) _ ra).app (.one rv), by rw [List.length_append]; exact Nat.succ_le_succ hl, hr1, ?_⟩
      rw [List.append_assoc, ← hx, hxr]
      rfl
    · rw [if_neg Bool.false_ne_true]
      exact ⟨G4, acc, accd, ys, (e2.trans e3).trans e4, mend e4 st4, dps_same (e3.trans e4) _ ra, Nat.le_succ_of_le hl, hr1, by rw [← hx, hxr]⟩
  · have e : i = ds.length := by omega
    subst e
    refine .inl ⟨wd.stop _ Hc rfl (e2.trans st2.gh), ?_⟩
    rw [List.drop_length] at hr
    cases hr
    rw [List.append_nil] at hx
    subst hx
    exact qf _ _ _ _ (e1.trans e2) st2 ra
/-- the premises of a comprehension, whatever is done with its list -/
structure LcP (X : Cx) (W : Wx) (ρ : En) {P : Type} (elt tg iter : Expr) (ifs : List Expr) (scope : Scope) (vs : List Nat) (dec : PyData → Option P) (put : P → En → En) (ri : R (List PyData)) (t : P → R Bool) (f : P → R PyData) : Prop where
  hc : X.calm = true
  hN : X.N.Nodup
  hi : EvI X W ρ tg iter ri
  ok : ∃ own : List (Str × Nat), BlkOk X.N X.env.scope scope own ∧ own.map (·.2) = vs
  ho : noOwn ρ vs = true
  hput : ∀ p i, i ∉ vs → (put p (wipeE ρ vs))[i]? = (wipeE ρ vs)[i]?
  hg : ∀ (s : Shared) (H : Hp) (C : Addr) (cl : List (Str × Addr)) (fp : List Addr), EvG (X.blk s H scope (compEnvC scope cl C X.env) fp) tg vs dec put
  ht : ∀ (s : Shared) (H : Hp) (C : Addr) (cl : List (Str × Addr)) (fp : List Addr) (p : P), EvTs (X.blk s H scope (compEnvC scope cl C X.env) fp) ⟨fun _ _ _ => False, W.tabs⟩ (put p (wipeE ρ vs)) ifs (t p)
  he : ∀ (s : Shared) (H : Hp) (C : Addr) (cl : List (Str × Addr)) (fp : List Addr) (p : P), EvR (X.blk s H scope (compEnvC scope cl C X.env) fp) ⟨fun _ _ _ => False, W.tabs⟩ (put p (wipeE ρ vs)) elt (f p)
  hs : ∀ x, foldedSetIterable iter X.env x = pure x
section
variable {P : Type} {elt tg iter : Expr} {ifs : List Expr} {scope : Scope} {vs : List Nat} {dec : PyData → Option P} {put : P → En → En} {ri : R (List PyData)} {t : P → R Bool} {f : P → R PyData}
theorem ef_lc (h : LcP X W ρ elt tg iter ifs scope vs dec put ri t f) : EvF X W ρ (.ListComp elt [⟨tg, iter, ifs, 0⟩] scope pos) (lcR ri dec t f) := by
  obtain ⟨own, ok, rfl⟩ := h.ok
  exact ⟨PE.imp (pe_lc (own := own) (g := gU X.K (own.map (·.2)) dec put) (tt := ttU X.K W (own.map (·.2)) ρ put t) (te := teU X.K W (own.map (·.2)) ρ put f) h.hc h.hN h.hi.pi ok (fun s H C cl fp => (h.hg s H C cl fp).uni)
    (fun s H C cl fp => ⟨fun pins s' σ H' Q I q => let ⟨p, q⟩ := q; (h.ht s H C cl fp p).pt.run pins s' σ H' Q I q⟩) (fun s H C cl fp => ⟨fun pins s' σ H' Q I q => let ⟨p, q⟩ := q; (h.he s H C cl fp p).pe.run pins s' σ H' Q I q⟩) h.hs)
    fun σ H Q => lc_red h.ho h.hput σ H Q⟩
theorem ev_lc (h : LcP X W ρ elt tg iter ifs scope vs dec put ri t f) : EvR X W ρ (.ListComp elt [⟨tg, iter, ifs, 0⟩] scope pos) ((lcR ri dec t f).bind fun ds => .ok (.list ds)) := (ef_lc h).ev
/-- name = [..] on one line, the name a local -/
theorem set_lc {i : Nat} {y : Str} {py spos : Pos} (h : LcP X W ρ elt tg iter ifs scope vs dec put ri t f) (hy : X.N[i]? = some y) (hyl : X.env.scope.names.lookup y = some .local)
    (hsw : swapsWith (.ListComp elt [⟨tg, iter, ifs, 0⟩] scope pos) (some (.Name y py)) spos.line X.env = pure true) :
    PS X (.Assign [.Name y py] (.ListComp elt [⟨tg, iter, ifs, 0⟩] scope pos) spos) (tAsg (tF X.K W ρ (lcR ri dec t f)) (gName i)) := by
  obtain ⟨own, ok, rfl⟩ := h.ok
  exact PS.imp (ps_setLc (own := own) (g := gU X.K (own.map (·.2)) dec put) (tt := ttU X.K W (own.map (·.2)) ρ put t) (te := teU X.K W (own.map (·.2)) ρ put f) h.hc h.hN hy hyl hsw h.hi.pi ok (fun s H C cl fp => (h.hg s H C cl fp).uni)
    (fun s H C cl fp => ⟨fun pins s' σ H' Q I q => let ⟨p, q⟩ := q; (h.ht s H C cl fp p).pt.run pins s' σ H' Q I q⟩) (fun s H C cl fp => ⟨fun pins s' σ H' Q I q => let ⟨p, q⟩ := q; (h.he s H C cl fp p).pe.run pins s' σ H' Q I q⟩) h.hs)
    fun D σ H => lc_red h.ho h.hput σ H _
end
end
end SE

set_option maxHeartbeats 4000000
/-! statements, defs -/
namespace SE
open PySem PySem.Spec PyProof.Rows L2

/-- how a block ends: it goes on, it returns, it leaves the loop, it goes on with the loop's next turn -/
inductive Fl (T S B : Type) where
  | nx (s : S) | rt (t : T) | bk (b : B) | ct (b : B)
/-- what a def gives back: its value, what its slots hold then -/
structure Sh (T : Type) where
  v : T → PyData
  e : T → En
section
variable {K : PySem.W.Frag} {W : Wx} {F G G' H : Hp} {px : Px} {σ : List (Option V)} {ρ ρ' : En}
theorem StG.clear (st : StG K W F px ρ σ H G) : StG K W F px [] [] H G := ⟨st.gh, st.fh, ⟨[], .nil, fun _ _ m => by cases m⟩, st.pv, st.nd, st.tb, st.nt⟩
/-- ρ' forgets some of ρ -/
inductive LeE : En → En → Prop
  | nil : LeE [] []
  | same {x : Option Sl} {ρ ρ' : En} : LeE ρ ρ' → LeE (x :: ρ) (x :: ρ')
  | skip {x : Option Sl} {ρ ρ' : En} : LeE ρ ρ' → LeE (x :: ρ) (none :: ρ')
theorem LeE.refl : ∀ ρ : En, LeE ρ ρ
  | [] => .nil
  | _ :: r => .same (LeE.refl r)
theorem Slots.le {cs : List Addr} (h : Slots K F G H σ ρ cs) : ∀ {ρ' : En}, LeE ρ ρ' → ∃ cs', (∀ a ∈ cs', a ∈ cs) ∧ Slots K F G H σ ρ' cs' := by
  induction h with
  | nil => intro ρ' l; cases l; exact ⟨[], fun _ m => m, .nil⟩
  | skip h ih =>
    intro ρ' l
    cases l with
    | same l => obtain ⟨cs', h1, h2⟩ := ih l; exact ⟨cs', h1, .skip h2⟩
    | skip l => obtain ⟨cs', h1, h2⟩ := ih l; exact ⟨cs', h1, .skip h2⟩
  | raw hp h ih =>
    intro ρ' l
    cases l with
    | same l => obtain ⟨cs', h1, h2⟩ := ih l; exact ⟨cs', h1, .raw hp h2⟩
    | skip l => obtain ⟨cs', h1, h2⟩ := ih l; exact ⟨cs', h1, .skip h2⟩
  | val r h ih =>
    intro ρ' l
    cases l with
    | same l => obtain ⟨cs', h1, h2⟩ := ih l; exact ⟨cs', h1, .val r h2⟩
    | skip l => obtain ⟨cs', h1, h2⟩ := ih l; exact ⟨cs', h1, .skip h2⟩
  | own q0 q1 q2 q3 q4 q5 h ih =>
    intro ρ' l
    cases l with
    | same l =>
      obtain ⟨cs', h1, h2⟩ := ih l
      exact ⟨_ :: cs', fun a m => (List.mem_cons.mp m).elim (fun z => by rw [z]; exact List.mem_cons_self) fun z => List.mem_cons_of_mem _ (h1 a z), .own q0 q1 q2 q3 q4 (fun z => q5 (h1 _ z)) h2⟩
    | skip l => obtain ⟨cs', h1, h2⟩ := ih l; exact ⟨cs', fun a m => List.mem_cons_of_mem _ (h1 a m), .skip h2⟩
theorem StG.le (st : StG K W F px ρ σ H G) (l : LeE ρ ρ') : StG K W F px ρ' σ H G := by
  obtain ⟨cs, sl, dj⟩ := st.sl
  obtain ⟨cs', h1, h2⟩ := sl.le l
  exact ⟨st.gh, st.fh, ⟨cs', h2, fun p hp z => dj p hp (h1 _ z)⟩, st.pv, st.nd, st.tb, st.nt⟩
end
section
variable {T S B : Type}
def Vs (K : PySem.W.Frag) (W : Wx) (px : Px) (sh : Sh T) (E : S → En) (EB : B → En) (F G : Hp) (D : Ends) : Fl T S B → Prop
  | .nx s => ∀ σ' H' G', Same G G' → StG K W F px (E s) σ' H' G' → D.nx σ' H'
  | .rt t => ∀ v σ' H' G', Same G G' → StG K W F px (sh.e t) σ' H' G' → Rp K G' v (sh.v t) → D.rt v H'
  | .bk b => ∀ σ' H' G', Same G G' → StG K W F px (EB b) σ' H' G' → D.bk σ' H'
  | .ct b => ∀ σ' H' G', Same G G' → StG K W F px (EB b) σ' H' G' → D.ct σ' H'
theorem Vs.grow {K : PySem.W.Frag} {W : Wx} {px : Px} {sh : Sh T} {E : S → En} {EB : B → En} {F G G' : Hp} {D : Ends} {f : Fl T S B} (e : Same G G') (h : Vs K W px sh E EB F G D f) : Vs K W px sh E EB F G' D f := by
  cases f with
  | nx s => exact fun σ' H' G'' e' st => h σ' H' G'' (e.trans e') st
  | rt t => exact fun v σ' H' G'' e' st r => h v σ' H' G'' (e.trans e') st r
  | bk s => exact fun σ' H' G'' e' st => h σ' H' G'' (e.trans e') st
  | ct s => exact fun σ' H' G'' e' st => h σ' H' G'' (e.trans e') st
def tB (K : PySem.W.Frag) (W : Wx) (sh : Sh T) (ρ : En) (E : S → En) (EB : B → En) (r : R (Fl T S B)) : TS := fun D σ H => ∃ F G px, StG K W F px ρ σ H G ∧ Go W F r (Vs K W px sh E EB F G D)
/-- a block from ρ: it goes on in E s, it leaves a loop in EB b -/
structure EvB (X : Cx) (W : Wx) (sh : Sh T) (ρ : En) (E : S → En) (EB : B → En) (sts : List Stmt) (r : R (Fl T S B)) : Prop where
  pss : PSs X sts (tB X.K W sh ρ E EB r)
end
section
variable {T S S' B : Type} {X : Cx} {W : Wx} {sh : Sh T} {ρ : En} {E : S → En} {EB : B → En} {rest : List Stmt} {pos : Pos}
theorem eb_nil {s : S} (l : LeE ρ (E s)) : EvB X W sh ρ E EB [] (.ok (.nx s)) := by
  refine ⟨PSs.imp pss_nil fun D σ H h => ?_⟩
  obtain ⟨F, G, px, st, q⟩ := h
  exact q σ H G (Same.refl G) (st.le l)
/-- one statement, and what comes behind it from any state that it leads to -/
theorem eb_step {st : Stmt} {t : TS} {r : R (Fl T S B)} (ps : PS X st t) (h : ∃ u : TS, PSs X rest u ∧ ∀ D σ H, tB X.K W sh ρ E EB r D σ H → t { D with nx := u D } σ H) : EvB X W sh ρ E EB (st :: rest) r := by
  obtain ⟨u, pu, hu⟩ := h
  exact ⟨PSs.imp (pss_cons ps pu) hu⟩
/-- the readings of what comes behind, for all of them -/
def uB (K : PySem.W.Frag) (W : Wx) (sh : Sh T) {A : Type} (ρ : A → En) (E : S → En) (EB : B → En) (r : A → R (Fl T S B)) : TS := fun D σ H => ∃ a, tB K W sh (ρ a) E EB (r a) D σ H
theorem eb_all {A : Type} {ρ : A → En} {r : A → R (Fl T S B)} {sts : List Stmt} (h : ∀ a, EvB X W sh (ρ a) E EB sts (r a)) : PSs X sts (uB X.K W sh ρ E EB r) := ⟨fun pins s σ H D I q => let ⟨a, q⟩ := q; (h a).pss.run pins s σ H D I q⟩
/-- x = e -/
theorem eb_asg {i : Nat} {st : Stmt} {re : R PyData} {f : PyData → R (Fl T S B)} (ps : PS X st (tAsg (tR X.K W ρ re) (gName i))) (h : ∀ d, EvB X W sh (ρ.set i (some (.val d))) E EB rest (f d)) : EvB X W sh ρ E EB (st :: rest) (re.bind f) := by
  refine eb_step ps ⟨_, eb_all h, fun D σ H q => ?_⟩
  obtain ⟨F, G, px, st, q⟩ := q
  refine ⟨F, G, px, st, Go.bind q fun d q1 v H1 G1 e1 st1 dv => ?_⟩
  exact ⟨d, F, G1, px, st1.put dv i, q1.imp fun _ => Vs.grow e1⟩
theorem eb_set {x : Str} {e : Expr} {pos' : Pos} {re : R PyData} {f : PyData → R (Fl T S B)} (i : Nat) (hN : X.N.Nodup) (he : EvR X W ρ e re) (h : ∀ d, EvB X W sh (ρ.set i (some (.val d))) E EB rest (f d)) (hi : X.N[i]? = some x := by rfl)
    (hx : Loc X.env.scope x := by first | exact Or.inl rfl | exact Or.inr rfl) (hs : swapsWith e (some (.Name x pos')) pos.line X.env = pure false := by rfl) (hf : X.fn x = true ∨ X.env.scope.names.lookup x = some .local := by first | exact .inl rfl | exact .inr rfl) :
    EvB X W sh ρ E EB (.Assign [.Name x pos'] e pos :: rest) (re.bind f) := eb_asg (ps_set hN hi hx he.pe hs hf) h
/-- x = a list of one's own -/
theorem eb_asgF {i : Nat} {st : Stmt} {re : R (List PyData)} {f : List PyData → R (Fl T S B)} (ps : PS X st (tAsg (tF X.K W ρ re) (gName i))) (h : ∀ ds, EvB X W sh (ρ.set i (some (.own ds none))) E EB rest (f ds)) : EvB X W sh ρ E EB (st :: rest) (re.bind f) := by
  refine eb_step ps ⟨_, eb_all h, fun D σ H q => ?_⟩
  obtain ⟨F, G, px, st, q⟩ := q
  refine ⟨F, G, px, st, Go.bind q fun d q1 p vs H1 G1 e1 st1 dv => ?_⟩
  exact ⟨d, F, G1, px, st1.ownP dv i, q1.imp fun _ => Vs.grow e1⟩
theorem eb_setF {x : Str} {e : Expr} {pos' : Pos} {re : R (List PyData)} {f : List PyData → R (Fl T S B)} (i : Nat) (hN : X.N.Nodup) (he : EvF X W ρ e re) (h : ∀ d, EvB X W sh (ρ.set i (some (.own d none))) E EB rest (f d)) (hi : X.N[i]? = some x := by rfl)
    (hx : Loc X.env.scope x := by first | exact Or.inl rfl | exact Or.inr rfl) (hs : swapsWith e (some (.Name x pos')) pos.line X.env = pure false := by rfl) (hf : X.fn x = true ∨ X.env.scope.names.lookup x = some .local := by first | exact .inl rfl | exact .inr rfl) :
    EvB X W sh ρ E EB (.Assign [.Name x pos'] e pos :: rest) (re.bind f) := eb_asgF (ps_set hN hi hx he.pe hs hf) h
theorem ps_frz {i : Nat} {st : Stmt} {re : R (List PyData)} (ps : PS X st (tAsg (tF X.K W ρ re) (gName i))) : PS X st (tAsg (tR X.K W ρ (re.bind fun ds => .ok (.list ds))) (gName i)) := PS.imp ps fun D σ H h => tF_of h
/-- x = [..] on one line, x a local: a value, or one's own -/
theorem eb_lc {y : Str} {py spos lpos : Pos} {P : Type} {elt tg iter : Expr} {ifs : List Expr} {scope : Scope} {vs : List Nat} {dec : PyData → Option P} {put : P → En → En} {ri : R (List PyData)} {t : P → R Bool} {g : P → R PyData} {f : PyData → R (Fl T S B)} (i : Nat)
    (hl : LcP X W ρ elt tg iter ifs scope vs dec put ri t g) (h : ∀ d, EvB X W sh (ρ.set i (some (.val d))) E EB rest (f d)) (hy : X.N[i]? = some y := by rfl) (hyl : X.env.scope.names.lookup y = some .local := by rfl)
    (hsw : swapsWith (.ListComp elt [⟨tg, iter, ifs, 0⟩] scope lpos) (some (.Name y py)) spos.line X.env = pure true := by exact sw_true rfl rfl rfl (by decide +kernel)) :
    EvB X W sh ρ E EB (.Assign [.Name y py] (.ListComp elt [⟨tg, iter, ifs, 0⟩] scope lpos) spos :: rest) (((lcR ri dec t g).bind fun ds => .ok (.list ds)).bind f) := eb_asg (ps_frz (set_lc hl hy hyl hsw)) h
theorem eb_lcF {y : Str} {py spos lpos : Pos} {P : Type} {elt tg iter : Expr} {ifs : List Expr} {scope : Scope} {vs : List Nat} {dec : PyData → Option P} {put : P → En → En} {ri : R (List PyData)} {t : P → R Bool} {g : P → R PyData} {f : List PyData → R (Fl T S B)} (i : Nat)
    (hl : LcP X W ρ elt tg iter ifs scope vs dec put ri t g) (h : ∀ d, EvB X W sh (ρ.set i (some (.own d none))) E EB rest (f d)) (hy : X.N[i]? = some y := by rfl) (hyl : X.env.scope.names.lookup y = some .local := by rfl)
    (hsw : swapsWith (.ListComp elt [⟨tg, iter, ifs, 0⟩] scope lpos) (some (.Name y py)) spos.line X.env = pure true := by exact sw_true rfl rfl rfl (by decide +kernel)) :
    EvB X W sh ρ E EB (.Assign [.Name y py] (.ListComp elt [⟨tg, iter, ifs, 0⟩] scope lpos) spos :: rest) ((lcR ri dec t g).bind f) := eb_asgF (set_lc hl hy hyl hsw) h
/-- a, b, .. = e -/
theorem eb_unp {P : Type} {tg e : Expr} {vs : List Nat} {dec : PyData → Option P} {put : P → En → En} {re : R PyData} {f : P → R (Fl T S B)} (he : EvR X W ρ e re) (hg : EvG X tg vs dec put) (h : ∀ p, EvB X W sh (put p ρ) E EB rest (f p))
    (hs : swapsWithSole [tg] e pos.line X.env = pure false := by rfl) (hw : swappedStores [tg] e X.env = pure none := by rfl) (h1 : (assignEach [tg] X.env).map (·.2) = [assign tg X.env] := by rfl) : EvB X W sh ρ E EB (.Assign [tg] e pos :: rest) (re.bind fun d => (R.of (dec d)).bind f) := by
  refine eb_step (ps_asg he.pe hg.uni hs hw h1) ⟨_, eb_all h, fun D σ H q => ?_⟩
  obtain ⟨F, G, px, st, q⟩ := q
  refine ⟨F, G, px, st, Go.bind q fun d q1 v H1 G1 e1 st1 dv => ?_⟩
  have q1' := Go.bind (P' := fun p => Go W F (f p) (Vs X.K W px sh E EB F G D)) q1 fun p q => q
  obtain ⟨p, e2, q2⟩ := Go.of q1'
  exact ⟨W, F, G1, px, ρ, d, p, st1, dv, e2, fun σ' st' _ => ⟨p, F, G1, px, st', q2.imp fun _ => Vs.grow e1⟩⟩
/-- return e -/
theorem eb_ret {e : Expr} {re : R PyData} (he : EvR X W ρ e re) (mk : PyData → T) (l : ∀ d, LeE ρ (sh.e (mk d))) (hv : ∀ d, sh.v (mk d) = d := by intro _; rfl) : EvB X W sh ρ E EB [.Return (some e) pos] (re.bind fun d => .ok (.rt (mk d))) := by
  refine ⟨PSs.imp (pss_one (ps_ret he.pe)) fun D σ H q => ?_⟩
  obtain ⟨F, G, px, st, q⟩ := q
  exact ⟨F, G, px, st, Go.bind q fun d q1 v H1 G1 e1 st1 dv => q1 v σ H1 G1 e1 (st1.le (l d)) (by rw [hv]; exact dv)⟩
theorem eb_cont {b : B} (l : LeE ρ (EB b)) : EvB X W sh ρ E EB [.Continue pos] (.ok (.ct b)) := by
  refine ⟨PSs.imp (pss_one ps_continue) fun D σ H q => ?_⟩
  obtain ⟨F, G, px, st, q⟩ := q
  exact q σ H G (Same.refl G) (st.le l)
theorem eb_brk {b : B} (l : LeE ρ (EB b)) : EvB X W sh ρ E EB [.Break pos] (.ok (.bk b)) := by
  refine ⟨PSs.imp (pss_one ps_break) fun D σ H q => ?_⟩
  obtain ⟨F, G, px, st, q⟩ := q
  exact q σ H G (Same.refl G) (st.le l)
/-- an own list seen as a value from here on -/
theorem eb_frz (i : Nat) {ds : List PyData} {t : Option Addr} {sts : List Stmt} {r : R (Fl T S B)} (h : EvB X W sh (ρ.set i (some (.val (.list ds)))) E EB sts r) (hi : ρ[i]? = some (some (.own ds t)) := by rfl) : EvB X W sh ρ E EB sts r := by
  refine ⟨PSs.imp h.pss fun D σ H q => ?_⟩
  obtain ⟨F, G, px, st, q⟩ := q
  obtain ⟨a, vs, _, _, sm, st'⟩ := st.freezeO hi
  exact ⟨F, _, px, st', q.imp fun _ => Vs.grow sm⟩
/-- what comes behind a block -/
def seqF (f : S' → R (Fl T S B)) : Fl T S' B → R (Fl T S B)
  | .nx s => f s
  | .rt t => .ok (.rt t)
  | .bk b => .ok (.bk b)
  | .ct b => .ok (.ct b)
theorem vs_seq {K : PySem.W.Frag} {px : Px} {F G : Hp} {D : Ends} {E' : S' → En} {f : S' → R (Fl T S B)} {fl : Fl T S' B} {u : TS} (hu : u = uB K W sh E' E EB f) (q : Go W F (seqF f fl) (Vs K W px sh E EB F G D)) : Vs K W px sh E' EB F G { D with nx := u D } fl := by
  subst hu
  cases fl with
  | nx s => exact fun σ' H' G' e st => ⟨s, F, G', px, st, q.imp fun _ => Vs.grow e⟩
  | rt t => exact q
  | bk b => exact q
  | ct b => exact q
/-- if c: .. else: .. -/
theorem eb_if {c : Expr} {a b : List Stmt} {rc : R Bool} {ra rb : R (Fl T S' B)} {f : S' → R (Fl T S B)} (E' : S' → En) (hc : EvT X W ρ c rc) (ha : EvB X W sh ρ E' EB a ra) (hb : EvB X W sh ρ E' EB b rb) (h : ∀ s, EvB X W sh (E' s) E EB rest (f s)) :
    EvB X W sh ρ E EB (.If c a b pos :: rest) (rc.bind fun k => (if k = true then ra else rb).bind (seqF f)) := by
  refine eb_step (ps_if hc.pt ha.pss hb.pss) ⟨_, eb_all h, fun D σ H q => ?_⟩
  obtain ⟨F, G, px, st, q⟩ := q
  refine ⟨F, G, px, st, Go.bind q fun k q1 H1 G1 e1 st1 => ?_⟩
  cases k with
  | true => exact ⟨F, G1, px, st1, Go.bind q1 fun fl q2 => Vs.grow e1 (vs_seq rfl q2)⟩
  | false => exact ⟨F, G1, px, st1, Go.bind q1 fun fl q2 => Vs.grow e1 (vs_seq rfl q2)⟩
/-- a block that does not go on -/
def retF : Fl T Empty B → R (Fl T S B)
  | .nx s => nomatch s
  | .rt t => .ok (.rt t)
  | .bk b => .ok (.bk b)
  | .ct b => .ok (.ct b)
/-- if c: a block that returns (or leaves the turn) -/
theorem eb_ifr {c : Expr} {a : List Stmt} {rc : R Bool} {ra : R (Fl T Empty B)} {r : R (Fl T S B)} (hc : EvT X W ρ c rc) (ha : EvB X W sh ρ (fun e : Empty => nomatch e) EB a ra) (h : EvB X W sh ρ E EB rest r) :
    EvB X W sh ρ E EB (.If c a [] pos :: rest) (rc.bind fun k => if k = true then ra.bind retF else r) := by
  refine eb_step (ps_if hc.pt ha.pss pss_nil) ⟨_, h.pss, fun D σ H q => ?_⟩
  obtain ⟨F, G, px, st, q⟩ := q
  refine ⟨F, G, px, st, Go.bind q fun k q1 H1 G1 e1 st1 => ?_⟩
  cases k with
  | true =>
    rw [if_pos rfl] at q1
    exact ⟨F, G1, px, st1, Go.bind q1 fun fl q2 => by
      cases fl with
      | nx s => exact nomatch s
      | rt t => exact fun v σ' H' G'' e' st r => q2 v σ' H' G'' (e1.trans e') st r
      | bk b => exact fun σ' H' G'' e' st => q2 σ' H' G'' (e1.trans e') st
      | ct b => exact fun σ' H' G'' e' st => q2 σ' H' G'' (e1.trans e') st⟩
  | false =>
    rw [if_neg Bool.false_ne_true] at q1
    exact ⟨F, G1, px, st1, q1.imp fun _ => Vs.grow e1⟩
/-- if c: .. else: .., the last statement -/
theorem eb_if2 {c : Expr} {a b : List Stmt} {rc : R Bool} {ra rb : R (Fl T S B)} (hc : EvT X W ρ c rc) (ha : EvB X W sh ρ E EB a ra) (hb : EvB X W sh ρ E EB b rb) : EvB X W sh ρ E EB [.If c a b pos] (rc.bind fun k => if k = true then ra else rb) := by
  refine ⟨PSs.imp (pss_one (ps_if hc.pt ha.pss hb.pss)) fun D σ H q => ?_⟩
  obtain ⟨F, G, px, st, q⟩ := q
  refine ⟨F, G, px, st, Go.bind q fun k q1 H1 G1 e1 st1 => ?_⟩
  cases k with
  | true => exact ⟨F, G1, px, st1, q1.imp fun _ => Vs.grow e1⟩
  | false => exact ⟨F, G1, px, st1, q1.imp fun _ => Vs.grow e1⟩
/-- the loop's run, item by item -/
def loopR {A : Type} (f : S → A → R (Fl T S S)) : List A → S → R (Fl T S B)
  | [], s => .ok (.nx s)
  | x :: xs, s => (f s x).bind fun fl => match fl with
    | .nx s' => loopR f xs s'
    | .ct s' => loopR f xs s'
    | .bk s' => .ok (.nx s')
    | .rt t => .ok (.rt t)
/-- the loop's run while a test holds, at most n turns -/
def whileR (c : S → R Bool) (f : S → R (Fl T S S)) : Nat → S → R (Fl T S B)
  | 0, _ => .no
  | n + 1, s => (c s).bind fun k => if k = true then (f s).bind fun fl => match fl with
      | .nx s' => whileR c f n s'
      | .ct s' => whileR c f n s'
      | .bk s' => .ok (.nx s')
      | .rt t => .ok (.rt t)
    else .ok (.nx s)
theorem eb_for {P : Type} {tg iter : Expr} {body : List Stmt} {vs : List Nat} {dec : PyData → Option P} {put : P → En → En} {ri : R (List PyData)} {fb : S' → P → R (Fl T S' S')} {f : S' → R (Fl T S B)} (E' : S' → En) (s0 : S') (hc : X.calm = true) (hi : EvI X W ρ tg iter ri) (l : LeE ρ (E' s0))
    (hg : EvG X tg vs dec put) (hb : ∀ s p, EvB X W sh (put p (E' s)) E' E' body (fb s p)) (h : ∀ s, EvB X W sh (E' s) E EB rest (f s)) (hp : PassesOwn (model X.prog X.w) X.A X.env X.xe)
    (hs : ∀ x, foldedSetIterable iter X.env x = pure x := by intro _; rfl) : EvB X W sh ρ E EB (.For tg iter body [] pos :: rest) (ri.bind fun ds => (loopR (B := B) (fun s d => (R.of (dec d)).bind (fb s)) ds s0).bind (seqF f)) := by
  refine eb_step (ps_for (tb := fun D σ H => ∃ s : S', uB X.K W sh (fun p => put p (E' s)) E' E' (fb s) D σ H) hp hc hi.pi hg.uni ⟨fun pins s σ H D I q => let ⟨s', q⟩ := q; (eb_all (hb s')).run pins s σ H D I q⟩ hs) ⟨_, eb_all h, fun D σ H q => ?_⟩
  obtain ⟨F, G, px, st, q⟩ := q
  refine ⟨F, G, px, st, Go.bind q fun ds q1 J H1 G1 e1 st1 wd hz => ?_⟩
  refine ⟨fun i m σ Hc => m = ds.length - i ∧ i ≤ ds.length ∧ ∃ (G' : Hp) (s : S'), Same G1 G' ∧ StG X.K W F px (E' s) σ Hc G' ∧ Go W F ((loopR (B := B) (fun s d => (R.of (dec d)).bind (fb s)) (ds.drop i) s).bind (seqF f)) (Vs X.K W px sh E EB F G D),
    ⟨ds.length, by simp, Nat.zero_le _, G1, s0, Same.refl _, st1.le l, by simpa using q1⟩, ?_⟩
  rintro i m σc Hc ⟨rfl, hi', G', s, e2, st2, q2⟩
  by_cases hlt : i < ds.length
  · refine .inr ⟨wd.go i Hc hlt (e2.trans st2.gh), fun σn Hn => ∃ (G' : Hp) (s : S'), Same G1 G' ∧ StG X.K W F px (E' s) σn Hn G' ∧ Go W F ((loopR (B := B) (fun s d => (R.of (dec d)).bind (fb s)) (ds.drop (i + 1)) s).bind (seqF f)) (Vs X.K W px sh E EB F G D),
      fun σn Hn hN => ⟨ds.length - (i + 1), by omega, rfl, hlt, hN⟩, fun x H' y => ?_⟩
    obtain ⟨d, G3, hd, e3, st3, rx⟩ := wd.step e2 st2 hlt y
    have hdrop : ds.drop i = d :: ds.drop (i + 1) := by
      rw [List.drop_eq_getElem_cons hlt]
      rw [List.getElem?_eq_getElem hlt] at hd
      rw [Option.some.inj hd]
    rw [hdrop] at q2
    simp only [loopR, R.bind_assoc] at q2
    obtain ⟨p, hp, q3⟩ := Go.of (Go.bind (P' := fun p => Go W F ((fb s p).bind fun fl => R.bind _ (seqF f)) (Vs X.K W px sh E EB F G D)) q2 fun p q => q)
    refine ⟨W, F, G3, px, _, d, p, st3, rx, hp, fun σ' st' _ => ⟨s, p, F, G3, px, st', Go.bind q3 fun fl q4 => ?_⟩⟩
    have e13 : Same G1 G3 := e2.trans e3
    cases fl with
    | nx s' => exact fun σ4 H4 G4 e4 st4 => ⟨G4, s', e13.trans e4, st4, q4⟩
    | ct s' => exact fun σ4 H4 G4 e4 st4 => ⟨G4, s', e13.trans e4, st4, q4⟩
    | bk s' => exact fun σ4 H4 G4 e4 st4 => ⟨s', F, G4, px, st4, (show Go W F (f s') _ from q4).imp fun _ => Vs.grow ((e1.trans e13).trans e4)⟩
    | rt t => exact fun v σ4 H4 G4 e4 st4 r => q4 v σ4 H4 G4 ((e1.trans e13).trans e4) st4 r
  · have e : i = ds.length := by omega
    subst e
    rw [List.drop_length] at q2
    exact .inl ⟨wd.stop _ Hc rfl (e2.trans st2.gh), s, F, G', px, st2, (show Go W F (f s) _ from q2).imp fun _ => Vs.grow (e1.trans e2)⟩
theorem eb_while {c : Expr} {body : List Stmt} {rc : S' → R Bool} {fb : S' → R (Fl T S' S')} {f : S' → R (Fl T S B)} (E' : S' → En) (s0 : S') (n : Nat) (l : LeE ρ (E' s0)) (hc : ∀ s, EvT X W (E' s) c (rc s)) (hb : ∀ s, EvB X W sh (E' s) E' E' body (fb s)) (h : ∀ s, EvB X W sh (E' s) E EB rest (f s))
    (hp : PassesOwn (model X.prog X.w) X.A X.env X.xe) : EvB X W sh ρ E EB (.While c body [] pos :: rest) ((whileR (B := B) rc fb n s0).bind (seqF f)) := by
  refine eb_step (ps_while (tc := fun σ H Q => ∃ s, tT X.K W (E' s) (rc s) σ H Q) hp ⟨fun pins s σ H Q I q => let ⟨s', q⟩ := q; (hc s').pt.run pins s σ H Q I q⟩ (eb_all hb)) ⟨_, eb_all h, fun D σ H q => ?_⟩
  obtain ⟨F, G, px, st, q⟩ := q
  refine ⟨fun m σ Hc => ∃ (G' : Hp) (s : S'), Same G G' ∧ StG X.K W F px (E' s) σ Hc G' ∧ Go W F ((whileR (B := B) rc fb m s).bind (seqF f)) (Vs X.K W px sh E EB F G D), ⟨n, G, s0, Same.refl _, st.le l, q⟩, ?_⟩
  rintro m σc Hc ⟨G', s, e2, st2, q2⟩
  cases m with
  | zero => exact q2.elim
  | succ m =>
    simp only [whileR, R.bind_assoc] at q2
    refine ⟨s, F, G', px, st2, Go.bind q2 fun k q3 H3 G3 e3 st3 => ?_⟩
    cases k with
    | true =>
      rw [if_pos rfl] at q3 ⊢
      rw [R.bind_assoc] at q3
      refine ⟨fun σn Hn => ∃ (G' : Hp) (s : S'), Same G G' ∧ StG X.K W F px (E' s) σn Hn G' ∧ Go W F ((whileR (B := B) rc fb m s).bind (seqF f)) (Vs X.K W px sh E EB F G D), fun σ' H' hN => ⟨m, Nat.lt_succ_self m, hN⟩, s, F, G3, px, st3, Go.bind q3 fun fl q4 => ?_⟩
      cases fl with
      | nx s' => exact fun σ4 H4 G4 e4 st4 => ⟨G4, s', (e2.trans e3).trans e4, st4, q4⟩
      | ct s' => exact fun σ4 H4 G4 e4 st4 => ⟨G4, s', (e2.trans e3).trans e4, st4, q4⟩
      | bk s' => exact fun σ4 H4 G4 e4 st4 => ⟨s', F, G4, px, st4, (show Go W F (f s') _ from q4).imp fun _ => Vs.grow ((e2.trans e3).trans e4)⟩
      | rt t => exact fun v σ4 H4 G4 e4 st4 r => q4 v σ4 H4 G4 ((e2.trans e3).trans e4) st4 r
    | false =>
      rw [if_neg Bool.false_ne_true] at q3 ⊢
      exact ⟨s, F, G3, px, st3, (show Go W F (f s) _ from q3).imp fun _ => Vs.grow (e2.trans e3)⟩
end
end SE

set_option maxHeartbeats 4000000
/-! own lists read, changed -/
namespace SE
open PySem PySem.Spec PyProof.Rows L2

/-- no list within -/
def flatD : PyData → Bool
  | .list _ => false
  | .dict _ => false
  | .tuple ds => ds.attach.all fun ⟨d, _⟩ => flatD d
  | _ => true
def flatL (ds : List PyData) : Bool := ds.all flatD
theorem flat_tuple (ds : List PyData) : flatD (.tuple ds) = flatL ds := by
  rw [flatD, flatL]
  conv => rhs; rw [← List.attach_map_subtype_val ds, List.all_map]
  rfl
@[simp] theorem flatD_int (i : Int) : flatD (.int i) = true := by rw [flatD]; all_goals intros; contradiction
@[simp] theorem flatD_bool (i : Bool) : flatD (.bool i) = true := by rw [flatD]; all_goals intros; contradiction
@[simp] theorem flatD_str (i : Str) : flatD (.str i) = true := by rw [flatD]; all_goals intros; contradiction
@[simp] theorem flatD_none : flatD .none = true := by rw [flatD]; all_goals intros; contradiction
@[simp] theorem flatD_list (ds : List PyData) : flatD (.list ds) = false := by rw [flatD]
@[simp] theorem flatD_tuple (ds : List PyData) : flatD (.tuple ds) = flatL ds := flat_tuple ds
@[simp] theorem flatL_nil : flatL [] = true := rfl
@[simp] theorem flatL_cons (d : PyData) (ds : List PyData) : flatL (d :: ds) = (flatD d && flatL ds) := rfl
section
variable {K : PySem.W.Frag} {W : Wx} {F G G' H H' : Hp} {px : Px} {σ : List (Option V)} {ρ : En}
def cutH (G : Hp) (a : Addr) : Hp := fun b => if b = a then none else G b
theorem cut_ne {a b : Addr} (h : b ≠ a) : cutH G a b = G b := if_neg h
theorem cut_at {a : Addr} : cutH G a a = none := if_pos rfl
mutual
theorem rp_cut {a : Addr} {ws : List V} (hG : G a = some (.lst ws)) : ∀ (d : PyData) {v : V}, flatD d = true → Rp K G v d → Rp K (cutH G a) v d
  | .none, _, _, h => by cases h; exact .non
  | .bool b, _, _, h => by cases h; exact .bl b
  | .int i, _, _, h => by cases h; exact .int i
  | .str x, _, _, h => by cases h; exact .str x
  | .list ds, _, f, _ => by simp at f
  | .tuple ds, _, f, h => by
    simp at f
    cases h with
    | @tup b xs _ hs ha =>
      refine .tup ?_ (rps_cut hG ds f ha)
      rcases hs with (hs | ⟨o, hs⟩) | hs
      · exact .inl (.inl (by rw [cut_ne fun z => by rw [z, hG] at hs; cases hs]; exact hs))
      · exact .inl (.inr ⟨o, by rw [cut_ne fun z => by rw [z, hG] at hs; cases hs]; exact hs⟩)
      · exact .inr hs
  | .dict kv, _, f, _ => by rw [flatD] at f; cases f
theorem rps_cut {a : Addr} {ws : List V} (hG : G a = some (.lst ws)) : ∀ (ds : List PyData) {vs : List V}, flatL ds = true → RpAll K G vs ds → RpAll K (cutH G a) vs ds
  | [], _, _, h => by cases h; exact .nil
  | d :: ds, _, f, h => by
    simp at f
    cases h with
    | cons h1 h2 => exact .cons (rp_cut hG d f.1 h1) (rps_cut hG ds f.2 h2)
end
theorem set_get {α : Type} {l : List α} {i j : Nat} {x : α} (h : i ≠ j) : (l.set i x)[j]? = l[j]? := by rw [List.getElem?_set, if_neg h]
def hideS : Option Sl → Option Sl
  | some (.own _ _) => none
  | x => x
/-- own lists out of sight -/
def hideE (ρ : En) : En := ρ.map hideS
theorem Slots.hide {cs : List Addr} (h : Slots K F G H σ ρ cs) : Slots K F G H σ (hideE ρ) [] := by
  induction h with
  | nil => exact .nil
  | skip _ ih => exact .skip ih
  | raw hp _ ih => exact .raw hp ih
  | val r _ ih => exact .val r ih
  | own _ _ _ _ _ _ _ ih => exact .skip ih
/-- the own list at i lent, the others out of sight; and all taken back -/
theorem StG.lend {i : Nat} {ds : List PyData} {t : Option Addr} (st : StG K W F px ρ σ H G) (e1 : ρ[i]? = some (some (.own ds t))) : ∃ px' G1, Same G G1 ∧ StG K W F px' (hideE (ρ.set i (some (.val (.list ds))))) σ H G1 ∧
    ∀ H' G', Same G1 G' → StG K W F px' (hideE (ρ.set i (some (.val (.list ds))))) σ H' G' → ∃ G2, Same G G2 ∧ StG K W F px ρ σ H' G2 ∧ ∀ v d, flatD d = true → Rp K G' v d → Rp K G2 v d := by
  obtain ⟨cs, sl, dj⟩ := st.sl
  obtain ⟨a, vs, e2, ra, s1, st1⟩ := st.freezeO e1
  obtain ⟨a', _, f1, f2, f3, _, f5⟩ := sl.own_at e1
  rw [e2] at f1
  cases f1
  obtain ⟨c1, c2, _⟩ := sl.cell _ f2
  obtain ⟨cs1, sl1, dj1⟩ := st1.sl
  obtain ⟨l, l1, l2⟩ := cells_px fun b m => (sl1.cell b m).2.2
  have inl : ∀ p ∈ l, p.1 ∈ cs1 := fun p m => by rw [← l1]; exact List.mem_map.mpr ⟨p, m, rfl⟩
  have nd : ((px ++ l).map (·.1)).Nodup := by
    rw [List.map_append, l1, List.nodup_append]
    refine ⟨st.nd, sl1.nodup, fun b hb c hc z => ?_⟩
    obtain ⟨p, hp, e⟩ := List.mem_map.mp hb
    exact dj1 p hp (by rw [e, z]; exact hc)
  refine ⟨px ++ l, _, s1, ⟨st1.gh, st1.fh, ⟨[], sl1.hide, fun _ _ m => by cases m⟩, fun p m => ?_, nd, st1.tb, st1.nt⟩, fun H' G' e st' => ?_⟩
  · rcases List.mem_append.mp m with m | m
    · exact st1.pv p m
    · obtain ⟨k1, k2, _⟩ := sl1.cell p.1 (inl p m)
      exact ⟨l2 p m, k1, k2⟩
  have ga : G' a = some (.lst vs) := e _ _ upd_same
  have sm : Same G (cutH G' a) := fun b u h => by
    have ne := ne_of_none h c1
    rw [cut_ne ne]
    exact e _ _ (by rw [upd_ne ne]; exact h)
  have at_ : ∀ b ∈ cs1, G' b = none ∧ H' b = H b := fun b m => by
    rw [← l1] at m
    obtain ⟨p, hp, rfl⟩ := List.mem_map.mp m
    obtain ⟨g1, g2, _⟩ := st'.pv p (List.mem_append_right _ hp)
    exact ⟨g2, g1.trans (l2 p hp).symm⟩
  have cutn : ∀ {b : Addr}, G' b = none → cutH G' a b = none := fun {b} h => by
    by_cases hb : b = a
    · rw [hb]; exact cut_at
    · rw [cut_ne hb]; exact h
  refine ⟨cutH G' a, sm, ?_, fun v d f r => rp_cut ga d f r⟩
  obtain ⟨cs2, sl2, hc⟩ := Slots.by_place (K := K) (F := F) (G := cutH G' a) (H := H') (σ := σ) (ρ := ρ) sl.len (fun j v P h => let ⟨a, b⟩ := sl.raw_at h; ⟨a, fun G'' e' => b G'' (sm.trans e')⟩)
    (fun j d h => let ⟨v, x, y⟩ := sl.val_at h; ⟨v, x, dp_same sm _ y⟩)
    (fun j es t' h => by
      obtain ⟨b, ws, g1, g2, g3, g4, g5⟩ := sl.own_at h
      obtain ⟨k1, k2, _⟩ := sl.cell _ g2
      by_cases hj : i = j
      · subst hj
        rw [e2] at g1
        cases g1
        rw [e1] at h
        cases h
        exact ⟨a, vs, e2, cut_at, c2, st'.gh _ _ ga, dps_same sm _ ra, f5⟩
      · have h' : (ρ.set i (some (.val (.list ds))))[j]? = some (some (.own es t')) := (set_get hj).trans h
        obtain ⟨b', ws', m1, m2, m3, m4, _⟩ := sl1.own_at h'
        rw [g1] at m1
        cases m1
        obtain ⟨n1, n2⟩ := at_ _ m2
        exact ⟨b, ws, g1, cutn n1, k2, n2.trans g3, dps_same sm _ g4, g5⟩)
    (fun j k es fs t u b h1 h2 h3 h4 => sl.inj h1 h2 h3 h4)
  refine ⟨fun b u h => ?_, st'.fh, ⟨cs2, sl2, fun p hp m => ?_⟩, fun p m => ?_, st.nd, fun p m => ?_, fun b ps => ⟨fun z => ?_, (st'.nt b ps).2⟩⟩
  · by_cases hb : b = a
    · rw [hb, cut_at] at h
      cases h
    · rw [cut_ne hb] at h
      exact st'.gh _ _ h
  · obtain ⟨j, es, _, h1, h2⟩ := hc _ m
    obtain ⟨b, _, g1, g2, _⟩ := sl.own_at h1
    rw [h2] at g1
    cases g1
    exact dj p hp g2
  · obtain ⟨g1, g2, g3⟩ := st'.pv p (List.mem_append_left _ m)
    exact ⟨g1, cutn g2, g3⟩
  · obtain ⟨g1, g2, g3⟩ := st'.tb p m
    exact ⟨g1, cutn g2, g3⟩
  · by_cases hb : b = a
    · rw [hb, cut_at] at z
      cases z
    · rw [cut_ne hb] at z
      exact (st'.nt b ps).1 z
end
section
variable {X : Cx} {W : Wx} {ρ : En} {pos : Pos}
def flatR (d : PyData) : R PyData := if flatD d = true then .ok d else .no
@[simp] theorem flatR_int (i : Int) : flatR (.int i) = .ok (.int i) := if_pos (flatD_int i)
@[simp] theorem flatR_bool (i : Bool) : flatR (.bool i) = .ok (.bool i) := if_pos (flatD_bool i)
@[simp] theorem flatR_none : flatR .none = .ok .none := if_pos flatD_none
/-- an expression that reads the own list at i -/
theorem ev_lend (i : Nat) {ds : List PyData} {t : Option Addr} {e : Expr} {r : R PyData} (h : EvR X W (hideE (ρ.set i (some (.val (.list ds))))) e r) (hi : ρ[i]? = some (some (.own ds t)) := by rfl) : EvR X W ρ e (r.bind flatR) := by
  refine ⟨PE.imp h.pe fun σ H Q q => ?_⟩
  obtain ⟨F, G, px, st, q⟩ := q
  obtain ⟨px', G1, s1, st1, back⟩ := st.lend hi
  refine ⟨F, G1, px', st1, Go.bind q fun d q1 v H' G' e' st' r' => ?_⟩
  obtain ⟨G2, s2, st2, hf⟩ := back H' G' e' st'
  unfold flatR at q1
  by_cases f : flatD d = true
  · rw [if_pos f] at q1
    exact q1 v H' G2 s2 st2 (hf v d f r')
  · rw [if_neg f] at q1
    exact q1.elim
theorem et_lend (i : Nat) {ds : List PyData} {t : Option Addr} {e : Expr} {r : R Bool} (h : EvT X W (hideE (ρ.set i (some (.val (.list ds))))) e r) (hi : ρ[i]? = some (some (.own ds t)) := by rfl) : EvT X W ρ e r := by
  refine ⟨PT.imp h.pt fun σ H Q q => ?_⟩
  obtain ⟨F, G, px, st, q⟩ := q
  obtain ⟨px', G1, s1, st1, back⟩ := st.lend hi
  refine ⟨F, G1, px', st1, q.imp fun b q1 H' G' e' st' => ?_⟩
  obtain ⟨G2, s2, st2, hf⟩ := back H' G' e' st'
  exact q1 H' G2 s2 st2
/-- own lists out of sight -/
theorem StG.hideAll {K : PySem.W.Frag} {F G H : Hp} {px : Px} {σ : List (Option V)} (st : StG K W F px ρ σ H G) : ∃ px', StG K W F px' (hideE ρ) σ H G ∧ ∀ H' G', Same G G' → StG K W F px' (hideE ρ) σ H' G' → StG K W F px ρ σ H' G' := by
  obtain ⟨px', st1, back⟩ := st.shut
  obtain ⟨cs, sl, dj⟩ := st.sl
  exact ⟨px', ⟨st1.gh, st1.fh, ⟨[], sl.hide, fun _ _ m => by cases m⟩, st1.pv, st1.nd, st1.tb, st1.nt⟩, fun H' G' e st' => back H' G' e st'.clear⟩
theorem ev_hide {e : Expr} {r : R PyData} (h : EvR X W (hideE ρ) e r) : EvR X W ρ e r := by
  refine ⟨PE.imp h.pe fun σ H Q q => ?_⟩
  obtain ⟨F, G, px, st, q⟩ := q
  obtain ⟨px', st1, back⟩ := st.hideAll
  exact ⟨F, G, px', st1, q.imp fun d q1 v H' G' e' st' r' => q1 v H' G' e' (back H' G' e' st') r'⟩
end
section
variable {T S S' B : Type} {X : Cx} {W : Wx} {sh : Sh T} {ρ : En} {E : S → En} {EB : B → En} {rest : List Stmt} {pos : Pos}
/-- an own list's reading: its place -/
theorem pe_own {i : Nat} {x : Str} {p : Pos} (pe : PE X (.Name x p) (tVar i)) : PE X (.Name x p) (tVar i) := pe
theorem set_set_own {F G H : Hp} {K : PySem.W.Frag} {px : Px} {σ : List (Option V)} {i : Nat} {ds : List PyData} {t : Option Addr} (st : StG K W F px ρ σ H G) (hi : ρ[i]? = some (some (.own ds t))) : ∃ a vs, σ[i]? = some (some (.ref a)) ∧ H a = some (.lst vs) ∧ RpAll K G vs ds ∧
    ∀ {G' H' : Hp} {ws : List V} {es : List PyData}, StG K W F px ρ σ H' G' → RpAll K G' ws es → StG K W F px (ρ.set i (some (.own es t))) σ (upd H' a (.lst ws)) G' := by
  obtain ⟨cs, sl, dj⟩ := st.sl
  obtain ⟨a, vs, f1, f2, f3, f4, f5⟩ := sl.own_at hi
  exact ⟨a, vs, f1, f3, f4, fun st' r => st'.writeO hi f1 r⟩
theorem own_now {F G H : Hp} {K : PySem.W.Frag} {px : Px} {σ : List (Option V)} {i : Nat} {ds : List PyData} {t : Option Addr} {a : Addr} (st : StG K W F px ρ σ H G) (hi : ρ[i]? = some (some (.own ds t))) (h : σ[i]? = some (some (.ref a))) : ∃ vs, H a = some (.lst vs) ∧ RpAll K G vs ds := by
  obtain ⟨cs, sl, dj⟩ := st.sl
  obtain ⟨b, vs, f1, f2, f3, f4, f5⟩ := sl.own_at hi
  rw [h] at f1
  cases f1
  exact ⟨vs, f3, f4⟩
def appD (ds : List PyData) (d : PyData) : Option (List PyData) := if ds.length < sizeLine then some (ds ++ [d]) else none
/-- xs.append(e) -/
theorem eb_append {x : Str} {p apos cpos : Pos} {e : Expr} {ds : List PyData} {t : Option Addr} {re : R PyData} {f : List PyData → R (Fl T S B)} (i : Nat) (pv : PE X (.Name x p) (tVar i)) (he : EvR X W ρ e re) (h : ∀ es, EvB X W sh (ρ.set i (some (.own es t))) E EB rest (f es)) (hi : ρ[i]? = some (some (.own ds t)) := by rfl)
    (hbase : attributeBase (.Name x p) "append" X.env (eval (.Name x p) X.env) = eval (.Name x p) X.env := by rfl)
    (hfew : ((backTo cpos (starEach (e :: []) X.env)).all (fun x => !x.1) && (backToKw cpos (keywordEach [] X.env)).all (fun x => x.1.isSome)
      && decide ((e :: []).length + ([] : List Keyword).length + (if ([] : List Keyword).isEmpty then 0 else 1) < 30)) = true := by rfl)
    (hline : (apos.endLine == cpos.line) = true := by rfl) (hst : starEach (e :: []) X.env = (false, eval e X.env) :: starEach [] X.env := by rfl) (hpl : (backTo cpos (starEach [] X.env)).any (·.1) = false := by rfl)
    (hs : swapsWith (.Call (.Attribute (.Name x p) "append" apos) [e] [] cpos) none pos.line X.env = pure false := by rfl) :
    EvB X W sh ρ E EB (.Expr (.Call (.Attribute (.Name x p) "append" apos) [e] [] cpos) pos :: rest) (re.bind fun d => (R.of (appD ds d)).bind f) := by
  refine eb_step (ps_expr (pe_bm PySem.F.plainAttrs_list PySem.F.slot_list_append PySem.F.type_list_append mt_append pv (pa_cons he.pe pa_nil hst) hbase hfew hline hst hpl) hs) ⟨_, eb_all h, fun D σ H q => ?_⟩
  obtain ⟨F, G, px, st, q⟩ := q
  obtain ⟨a, vs, e1, h1, r1, wr⟩ := set_set_own st hi
  refine ⟨.ref a, e1, .inl ⟨rfl, _, .inl (.inl h1)⟩, F, G, px, st, Go.bind q fun d q1 v H1 G1 e1' st1 dv => ?_⟩
  obtain ⟨es, e3, q3⟩ := Go.of (Go.bind (P' := fun p => Go W F (f p) (Vs X.K W px sh E EB F G D)) q1 fun p q => q)
  obtain ⟨vs', h2, r2⟩ := own_now st1 hi e1
  unfold appD at e3
  by_cases hl : ds.length < sizeLine
  · rw [if_pos hl] at e3
    cases e3
    exact ⟨a, vs', v, rfl, rfl, h2, by rw [RpAll.len r2]; exact hl, _, F, G1, px, wr st1 (r2.app (.one dv)), q3.imp fun _ => Vs.grow e1'⟩
  · rw [if_neg hl] at e3
    cases e3
def putD (ds : List PyData) : PyData → PyData → Option (List PyData)
  | .int k, d => match ixN ds.length k with | some j => some (ds.set j d) | none => none
  | _, _ => none
/-- xs[k] = e -/
theorem eb_put {x : Str} {p tpos : Pos} {e k : Expr} {ds : List PyData} {t : Option Addr} {re rk : R PyData} {f : List PyData → R (Fl T S B)} (i : Nat) (pv : PE X (.Name x p) (tVar i)) (he : EvR X W ρ e re) (hk : EvR X W ρ k rk) (h : ∀ es, EvB X W sh (ρ.set i (some (.own es t))) E EB rest (f es)) (hi : ρ[i]? = some (some (.own ds t)) := by rfl)
    (ha : ∀ v, assign (.Subscript (.Name x p) k tpos) X.env v = (do
      let ov ← holding [v] (eval (.Name x p) X.env)
      let iv ← holding [v, ov] (eval k X.env)
      standAt tpos
      holding [v, ov, iv] (setItem ov iv v)
      release [v, ov, iv] []) := by intro _; rfl)
    (hs : swapsWithSole [.Subscript (.Name x p) k tpos] e pos.line X.env = pure false := by rfl) (hw : swappedStores [.Subscript (.Name x p) k tpos] e X.env = pure none := by rfl)
    (h1 : (assignEach [.Subscript (.Name x p) k tpos] X.env).map (·.2) = [assign (.Subscript (.Name x p) k tpos) X.env] := by rfl) :
    EvB X W sh ρ E EB (.Assign [.Subscript (.Name x p) k tpos] e pos :: rest) (re.bind fun d => rk.bind fun j => (R.of (putD ds j d)).bind f) := by
  refine eb_step (ps_asg he.pe (pg_sub pv hk.pe set_list ha) hs hw h1) ⟨_, eb_all h, fun D σ H q => ?_⟩
  obtain ⟨F, G, px, st, q⟩ := q
  obtain ⟨a, vs, e1, h1, r1, wr⟩ := set_set_own st hi
  refine ⟨F, G, px, st, Go.bind q fun d q1 v H1 G1 e1' st1 dv => ⟨.ref a, e1, F, G1, px, st1, Go.bind q1 fun j q2 w H2 G2 e2 st2 jw => ?_⟩⟩
  obtain ⟨es, e3, q3⟩ := Go.of (Go.bind (P' := fun p => Go W F (f p) (Vs X.K W px sh E EB F G D)) q2 fun p q => q)
  obtain ⟨vs', h2, r2⟩ := own_now st2 hi e1
  cases jw with
  | int m =>
    simp only [putD] at e3
    cases e4 : ixN ds.length m with
    | none => rw [e4] at e3; cases e3
    | some n =>
      rw [e4] at e3
      cases e3
      exact ⟨a, vs', m, n, rfl, rfl, h2, by rw [RpAll.len r2]; exact e4, _, F, G2, px, wr st2 (RpAll.setAt (dp_same e2 _ dv) n r2), q3.imp fun _ => Vs.grow (e1'.trans e2)⟩
  | _ => cases e3
/-- x += e, whole numbers -/
theorem eb_inc {x : Str} {p : Pos} {e : Expr} {d0 : PyData} {re : R PyData} {f : PyData → R (Fl T S B)} (i : Nat) (hN : X.N.Nodup) (he : EvR X W ρ e re) (h : ∀ d, EvB X W sh (ρ.set i (some (.val d))) E EB rest (f d)) (h0 : ρ[i]? = some (some (.val d0)) := by rfl) (hi : X.N[i]? = some x := by rfl)
    (hx : Loc X.env.scope x := by first | exact Or.inl rfl | exact Or.inr rfl) (hf : X.fn x = true ∨ X.env.scope.names.lookup x = some .local := by first | exact .inl rfl | exact .inr rfl) :
    EvB X W sh ρ E EB (.AugAssign (.Name x p) .Add e pos :: rest) (re.bind fun d => (R.of (match d0, d with | .int a, .int b => some (.int (a + b)) | _, _ => none)).bind f) := by
  refine eb_step (ps_aug hN hi hx he.pe ip_add hf) ⟨_, eb_all h, fun D σ H q => ?_⟩
  obtain ⟨F, G, px, st, q⟩ := q
  obtain ⟨cs, sl, _⟩ := st.sl
  obtain ⟨v0, e0, r0⟩ := sl.val_at h0
  refine ⟨v0, e0, F, G, px, st, Go.bind q fun d q1 v H1 G1 e1' st1 dv => ?_⟩
  obtain ⟨es, e3, q3⟩ := Go.of (Go.bind (P' := fun p => Go W F (f p) (Vs X.K W px sh E EB F G D)) q1 fun p q => q)
  cases r0 with
  | int a =>
    cases dv with
    | int b =>
      cases e3
      exact ⟨a, b, rfl, rfl, _, F, G1, px, st1.put (.int _) i, q3.imp fun _ => Vs.grow e1'⟩
    | _ => cases e3
  | _ => cases e3
/-- x, y = a, b: two values -/
theorem eb_par {x y : Str} {a b : Expr} {p1 p2 pt : Pos} {kt k2 pt2} {ra rb : R PyData} {f : PyData → PyData → R (Fl T S B)} (i j : Nat) (hc : X.calm = true) (hN : X.N.Nodup) (ha : EvR X W ρ a ra) (hb : EvR X W ρ b rb) (h : ∀ d e, EvB X W sh ((ρ.set i (some (.val d))).set j (some (.val e))) E EB rest (f d e))
    (hi : X.N[i]? = some x := by rfl) (hj : X.N[j]? = some y := by rfl) (hij : i ≠ j := by decide) (hx : X.env.scope.names.lookup x = some .local := by rfl) (hy : X.env.scope.names.lookup y = some .local := by rfl)
    (hw : swappedStores [.Tuple [.Name x p1, .Name y p2] kt pt] (.Tuple [a, b] k2 pt2) X.env = pure (some [x, y]) := by rfl) (hs : swapsWithSole [.Tuple [.Name x p1, .Name y p2] kt pt] (.Tuple [a, b] k2 pt2) pos.line X.env = pure false := by rfl)
    (h1 : starEach (a :: [b]) X.env = (false, eval a X.env) :: starEach [b] X.env := by rfl) (h2 : starEach (b :: []) X.env = (false, eval b X.env) :: starEach [] X.env := by rfl) :
    EvB X W sh ρ E EB (.Assign [.Tuple [.Name x p1, .Name y p2] kt pt] (.Tuple [a, b] k2 pt2) pos :: rest) (ra.bind fun d => rb.bind fun e => f d e) := by
  refine eb_step (ps_par hc hN hi hj hij hx hy (pa_cons ha.pe (pa_cons hb.pe pa_nil h2) h1) hw hs) ⟨_, eb_all (A := PyData × PyData) (r := fun p => f p.1 p.2) fun p => h p.1 p.2, fun D σ H q => ?_⟩
  obtain ⟨F, G, px, st, q⟩ := q
  refine ⟨F, G, px, st, Go.bind q fun d q1 v H1 G1 e1 st1 dv => ⟨F, G1, px, st1, Go.bind q1 fun d2 q2 v2 H2 G2 e2 st2 dv2 => ?_⟩⟩
  exact ⟨v, v2, rfl, (d, d2), F, G2, px, (st2.put (dp_same e2 _ dv) i).put dv2 j, q2.imp fun _ => Vs.grow (e1.trans e2)⟩
theorem StG.grow_own {F G G' H H' : Hp} {K : PySem.W.Frag} {px : Px} {σ : List (Option V)} {p : Addr} {vs : List V} {ds : List PyData} (r : RpAll K G vs ds) (e : Same G G') : RpAll K G' vs ds := dps_same e _ r
/-- x, y = a list of one's own, a value -/
theorem eb_parFV {x y : Str} {a b : Expr} {p1 p2 pt : Pos} {kt k2 pt2} {ra : R (List PyData)} {rb : R PyData} {f : List PyData → PyData → R (Fl T S B)} (i j : Nat) (hc : X.calm = true) (hN : X.N.Nodup) (ha : EvF X W ρ a ra) (hb : EvR X W ρ b rb) (h : ∀ d e, EvB X W sh ((ρ.set j (some (.val e))).set i (some (.own d none))) E EB rest (f d e))
    (hi : X.N[i]? = some x := by rfl) (hj : X.N[j]? = some y := by rfl) (hij : i ≠ j := by decide) (hx : X.env.scope.names.lookup x = some .local := by rfl) (hy : X.env.scope.names.lookup y = some .local := by rfl)
    (hw : swappedStores [.Tuple [.Name x p1, .Name y p2] kt pt] (.Tuple [a, b] k2 pt2) X.env = pure (some [x, y]) := by rfl) (hs : swapsWithSole [.Tuple [.Name x p1, .Name y p2] kt pt] (.Tuple [a, b] k2 pt2) pos.line X.env = pure false := by rfl)
    (h1 : starEach (a :: [b]) X.env = (false, eval a X.env) :: starEach [b] X.env := by rfl) (h2 : starEach (b :: []) X.env = (false, eval b X.env) :: starEach [] X.env := by rfl) :
    EvB X W sh ρ E EB (.Assign [.Tuple [.Name x p1, .Name y p2] kt pt] (.Tuple [a, b] k2 pt2) pos :: rest) (ra.bind fun d => rb.bind fun e => f d e) := by
  refine eb_step (ps_par hc hN hi hj hij hx hy (pa_cons ha.pe (pa_cons hb.pe pa_nil h2) h1) hw hs) ⟨_, eb_all (A := List PyData × PyData) (r := fun p => f p.1 p.2) fun p => h p.1 p.2, fun D σ H q => ?_⟩
  obtain ⟨F, G, px, st, q⟩ := q
  refine ⟨F, G, px, st, Go.bind q fun d q1 p vs H1 G1 e1 st1 dv => ⟨F, G1, _, st1, Go.bind q1 fun d2 q2 v2 H2 G2 e2 st2 dv2 => ?_⟩⟩
  refine ⟨.ref p, v2, rfl, (d, d2), F, G2, px, ?_, q2.imp fun _ => Vs.grow (e1.trans e2)⟩
  rw [List.set_comm _ _ hij]
  exact (st2.put dv2 j).ownP (dps_same e2 _ dv) i
theorem eb_parVF {x y : Str} {a b : Expr} {p1 p2 pt : Pos} {kt k2 pt2} {ra : R PyData} {rb : R (List PyData)} {f : PyData → List PyData → R (Fl T S B)} (i j : Nat) (hc : X.calm = true) (hN : X.N.Nodup) (ha : EvR X W ρ a ra) (hb : EvF X W ρ b rb) (h : ∀ d e, EvB X W sh ((ρ.set i (some (.val d))).set j (some (.own e none))) E EB rest (f d e))
    (hi : X.N[i]? = some x := by rfl) (hj : X.N[j]? = some y := by rfl) (hij : i ≠ j := by decide) (hx : X.env.scope.names.lookup x = some .local := by rfl) (hy : X.env.scope.names.lookup y = some .local := by rfl)
    (hw : swappedStores [.Tuple [.Name x p1, .Name y p2] kt pt] (.Tuple [a, b] k2 pt2) X.env = pure (some [x, y]) := by rfl) (hs : swapsWithSole [.Tuple [.Name x p1, .Name y p2] kt pt] (.Tuple [a, b] k2 pt2) pos.line X.env = pure false := by rfl)
    (h1 : starEach (a :: [b]) X.env = (false, eval a X.env) :: starEach [b] X.env := by rfl) (h2 : starEach (b :: []) X.env = (false, eval b X.env) :: starEach [] X.env := by rfl) :
    EvB X W sh ρ E EB (.Assign [.Tuple [.Name x p1, .Name y p2] kt pt] (.Tuple [a, b] k2 pt2) pos :: rest) (ra.bind fun d => rb.bind fun e => f d e) := by
  refine eb_step (ps_par hc hN hi hj hij hx hy (pa_cons ha.pe (pa_cons hb.pe pa_nil h2) h1) hw hs) ⟨_, eb_all (A := PyData × List PyData) (r := fun p => f p.1 p.2) fun p => h p.1 p.2, fun D σ H q => ?_⟩
  obtain ⟨F, G, px, st, q⟩ := q
  refine ⟨F, G, px, st, Go.bind q fun d q1 v H1 G1 e1 st1 dv => ⟨F, G1, px, st1, Go.bind q1 fun d2 q2 p vs H2 G2 e2 st2 dv2 => ?_⟩⟩
  exact ⟨v, .ref p, rfl, (d, d2), F, G2, px, (st2.put (dp_same e2 _ dv) i).ownP dv2 j, q2.imp fun _ => Vs.grow (e1.trans e2)⟩
theorem StG.swapP {F G H : Hp} {K : PySem.W.Frag} {px : Px} {σ : List (Option V)} {p q : Addr × List V} (st : StG K W F (p :: q :: px) ρ σ H G) : StG K W F (q :: p :: px) ρ σ H G := by
  obtain ⟨cs, sl, dj⟩ := st.sl
  have m : ∀ {r}, r ∈ q :: p :: px → r ∈ p :: q :: px := fun {r} h => by simp only [List.mem_cons] at h ⊢; rcases h with h | h | h <;> simp [h]
  refine ⟨st.gh, st.fh, ⟨cs, sl, fun r h => dj r (m h)⟩, fun r h => st.pv r (m h), ?_, st.tb, st.nt⟩
  have := st.nd
  simp only [List.map_cons, List.nodup_cons, List.mem_cons, not_or] at this ⊢
  exact ⟨⟨fun z => this.1.1 z.symm, this.2.1⟩, this.1.2, this.2.2⟩
theorem eb_parFF {x y : Str} {a b : Expr} {p1 p2 pt : Pos} {kt k2 pt2} {ra : R (List PyData)} {rb : R (List PyData)} {f : List PyData → List PyData → R (Fl T S B)} (i j : Nat) (hc : X.calm = true) (hN : X.N.Nodup) (ha : EvF X W ρ a ra) (hb : EvF X W ρ b rb) (h : ∀ d e, EvB X W sh ((ρ.set i (some (.own d none))).set j (some (.own e none))) E EB rest (f d e))
    (hi : X.N[i]? = some x := by rfl) (hj : X.N[j]? = some y := by rfl) (hij : i ≠ j := by decide) (hx : X.env.scope.names.lookup x = some .local := by rfl) (hy : X.env.scope.names.lookup y = some .local := by rfl)
    (hw : swappedStores [.Tuple [.Name x p1, .Name y p2] kt pt] (.Tuple [a, b] k2 pt2) X.env = pure (some [x, y]) := by rfl) (hs : swapsWithSole [.Tuple [.Name x p1, .Name y p2] kt pt] (.Tuple [a, b] k2 pt2) pos.line X.env = pure false := by rfl)
    (h1 : starEach (a :: [b]) X.env = (false, eval a X.env) :: starEach [b] X.env := by rfl) (h2 : starEach (b :: []) X.env = (false, eval b X.env) :: starEach [] X.env := by rfl) :
    EvB X W sh ρ E EB (.Assign [.Tuple [.Name x p1, .Name y p2] kt pt] (.Tuple [a, b] k2 pt2) pos :: rest) (ra.bind fun d => rb.bind fun e => f d e) := by
  refine eb_step (ps_par hc hN hi hj hij hx hy (pa_cons ha.pe (pa_cons hb.pe pa_nil h2) h1) hw hs) ⟨_, eb_all (A := List PyData × List PyData) (r := fun p => f p.1 p.2) fun p => h p.1 p.2, fun D σ H q => ?_⟩
  obtain ⟨F, G, px, st, q⟩ := q
  refine ⟨F, G, px, st, Go.bind q fun d q1 p vs H1 G1 e1 st1 dv => ⟨F, G1, _, st1, Go.bind q1 fun d2 q2 p2 vs2 H2 G2 e2 st2 dv2 => ?_⟩⟩
  exact ⟨.ref p, .ref p2, rfl, (d, d2), F, G2, px, (st2.swapP.ownP (dps_same e2 _ dv) i).ownP dv2 j, q2.imp fun _ => Vs.grow (e1.trans e2)⟩
end
end SE

set_option maxHeartbeats 4000000
/-! defs and calls; expressions that change the urn -/
namespace SE
open PySem PySem.Spec PyProof.Rows L2

abbrev W0 (tabs : List (Addr × Str)) : Wx := ⟨fun _ _ _ => False, tabs⟩
/-! ### defs -/
def spF (K : PySem.W.Frag) (tabs : List (Addr × Str)) (n : Nat) (m : List PyData → R PyData) : Sp := fun vs H Q _ =>
  ∃ F G px ds, vs.length = n ∧ StG K (W0 tabs) F px [] [] H G ∧ RpAll K G vs ds ∧ Go (W0 tabs) F (m ds) fun d => ∀ v H' G', Same G G' → StG K (W0 tabs) F px [] [] H' G' → Rp K G' v d → Q v H'
/-- .. that changes the list handed in first -/
def spU (K : PySem.W.Frag) (tabs : List (Addr × Str)) (n : Nat) (m : List PyData → List PyData → R (PyData × List PyData)) : Sp := fun vs H Q _ =>
  ∃ F G px a us urn vs' ds, vs = .ref a :: vs' ∧ vs'.length + 1 = n ∧ StG K (W0 tabs) F ((a, us) :: px) [] [] H G ∧ RpAll K G us urn ∧ RpAll K G vs' ds ∧
    Go (W0 tabs) F (m urn ds) fun t => ∀ v H' G' us', Same G G' → StG K (W0 tabs) F ((a, us') :: px) [] [] H' G' → RpAll K G' us' t.2 → Rp K G' v t.1 → Q v H'
def outF {T : Type} : Fl T Empty Empty → R T
  | .rt t => .ok t
  | .nx e => nomatch e
  | .bk e => nomatch e
  | .ct e => nomatch e
@[simp] theorem outF_rt {T : Type} (t : T) : outF (.rt t) = .ok t := rfl
def shD (n : Nat) : Sh PyData := ⟨id, fun _ => List.replicate n none⟩
def shU (n : Nat) (a : Addr) : Sh (PyData × List PyData) := ⟨Prod.fst, fun t => some (.own t.2 (some a)) :: List.replicate (n - 1) none⟩
def startE (n : Nat) (ds : List PyData) : En := ds.map (fun d => some (.val d)) ++ List.replicate (n - ds.length) none
def startU (n : Nat) (a : Addr) (urn ds : List PyData) : En := some (.own urn (some a)) :: startE (n - 1) ds
abbrev eE : Empty → En := fun e => nomatch e
theorem slots_none {K : PySem.W.Frag} {F G H : Hp} : ∀ n : Nat, Slots K F G H (List.replicate n none) (List.replicate n none) []
  | 0 => .nil
  | n + 1 => .skip (slots_none n)
theorem slots_start {K : PySem.W.Frag} {F G H : Hp} {n : Nat} : ∀ {vs : List V} {ds : List PyData}, RpAll K G vs ds → Slots K F G H (vs.map some ++ List.replicate n none) (ds.map (fun d => some (.val d)) ++ List.replicate n none) []
  | [], _, .nil => slots_none n
  | _ :: _, _, .cons r rs => .val r (slots_start rs)
section
variable {P : Program} {w : World} {K : PySem.W.Frag} {mg : Str → Option Value} {base : Heap} {tabs : List (Addr × Str)}
theorem fn_F {x qual : Str} {st : Stmt} {f : Addr} {fd : FuncData} {N ps : List Str} {k : Nat} (F : Fun K x qual st f fd) (S : FnScope N ps (defScope st)) {m : List PyData → R PyData} (r : List PyData → R (Fl PyData Empty Empty))
    (hm : ∀ ds, m ds = (r ds).bind outF)
    (body : ∀ ds, ds.length = ps.length → ∀ (cdv : Value) (A : Around) (outer : List Env) (s : Shared) (H : Hp) (E : XK), Room k (A.deeper (envOfC qual (defScope st) s.heap.objs.size f cdv)) →
      EvB (cxOf CX0 P w K mg base N qual (defScope st) f cdv A outer s H E).nox (W0 tabs) (shD N.length) (startE N.length ds) eE eE (defBody st) (r ds)) :
    FnOk P w K mg base CX0 (k + 1) f fd ps (spF K tabs ps.length m) := by
  refine F.ok S (fun vs H Q E h => ?_) (fun cdv A outer s H vs Q E hr h => ?_)
  · obtain ⟨_, _, _, _, h, _⟩ := h
    exact h
  · obtain ⟨F', G, px, ds, hl, st, rv, q⟩ := h
    have hl2 : ds.length = ps.length := (RpAll.len rv).symm.trans hl
    refine ⟨_, (body ds hl2 cdv A outer s H E hr).pss, F', G, px, ⟨st.gh, st.fh, ⟨[], ?_, fun _ _ z => by cases z⟩, st.pv, st.nd, st.tb, st.nt⟩, ?_⟩
    · unfold L2.start startE
      rw [hl, ← hl2]
      exact slots_start rv
    · rw [hm] at q
      refine Go.bind q fun fl q1 => ?_
      cases fl with
      | rt t => exact fun v σ' H' G' e st' rd => q1 v H' G' e st'.clear rd
      | nx e => exact nomatch e
      | bk e => exact nomatch e
      | ct e => exact nomatch e
theorem fn_U {x qual p0 : Str} {st : Stmt} {f : Addr} {fd : FuncData} {N ps : List Str} {k : Nat} (F : Fun K x qual st f fd) (S : FnScope N (p0 :: ps) (defScope st)) {m : List PyData → List PyData → R (PyData × List PyData)} (r : List PyData → List PyData → R (Fl (PyData × List PyData) Empty Empty))
    (hm : ∀ urn ds, m urn ds = (r urn ds).bind outF)
    (body : ∀ (a : Addr) (urn ds : List PyData), ds.length = ps.length → ∀ (cdv : Value) (A : Around) (outer : List Env) (s : Shared) (H : Hp) (E : XK), Room k (A.deeper (envOfC qual (defScope st) s.heap.objs.size f cdv)) →
      EvB (cxOf CX0 P w K mg base N qual (defScope st) f cdv A outer s H E).nox (W0 tabs) (shU N.length a) (startU N.length a urn ds) eE eE (defBody st) (r urn ds)) :
    FnOk P w K mg base CX0 (k + 1) f fd (p0 :: ps) (spU K tabs (p0 :: ps).length m) := by
  refine F.ok S (fun vs H Q E h => ?_) (fun cdv A outer s H vs Q E hr h => ?_)
  · obtain ⟨_, _, _, _, _, _, _, _, rfl, h, _⟩ := h
    exact h
  · obtain ⟨F', G, px, a, us, urn, vs', ds, rfl, hl, st, ru, rv, q⟩ := h
    have hl2 : ds.length = ps.length := (RpAll.len rv).symm.trans (Nat.succ.inj hl)
    have pa := (st.pv _ List.mem_cons_self)
    refine ⟨_, (body a urn ds hl2 cdv A outer s H E hr).pss, F', G, px, ?_, ?_⟩
    · have nd := st.nd
      rw [List.map_cons, List.nodup_cons] at nd
      refine ⟨st.gh, st.fh, ⟨[a], ?_, fun p hp z => ?_⟩, fun p hp => st.pv p (List.mem_cons_of_mem _ hp), nd.2, st.tb, st.nt⟩
      · unfold L2.start startU startE
        refine .own (fun _ z => (Option.some.inj z).symm) pa.2.1 pa.2.2 pa.1 ru (fun z => by cases z) ?_
        have e : N.length - (V.ref a :: vs').length = N.length - 1 - ds.length := by rw [List.length_cons, RpAll.len rv]; omega
        rw [e]
        exact slots_start rv
      · have e : p.1 = a := List.mem_singleton.mp z
        exact nd.1 (by rw [← e]; exact List.mem_map.mpr ⟨p, hp, rfl⟩)
    · rw [hm] at q
      refine Go.bind q fun fl q1 => ?_
      cases fl with
      | rt t =>
        intro v σ' H' G' e st' rd
        obtain ⟨cs, sl, dj⟩ := st'.sl
        obtain ⟨b, us', g1, g2, g3, g4, g5⟩ := sl.own_at (i := 0) rfl
        have eb : a = b := g5 a rfl
        subst eb
        obtain ⟨c1, c2, _⟩ := sl.cell _ g2
        refine q1 v H' G' us' e ⟨st'.gh, st'.fh, ⟨[], .nil, fun _ _ z => by cases z⟩, fun p hp => ?_, ?_, st'.tb, st'.nt⟩ g4 rd
        · rcases List.mem_cons.mp hp with z | z
          · rw [z]; exact ⟨g3, c1, c2⟩
          · exact st'.pv p z
        · rw [List.map_cons, List.nodup_cons]
          exact ⟨fun z => let ⟨p, hp, e⟩ := List.mem_map.mp z; dj p hp (by rw [e]; exact g2), st'.nd⟩
      | nx e => exact nomatch e
      | bk e => exact nomatch e
      | ct e => exact nomatch e
end
/-! ### calls -/
section
variable {X : Cx} {tabs : List (Addr × Str)} {ρ : En} {pos p : Pos}
theorem StG.callee {K : PySem.W.Frag} {W : Wx} {F G H : Hp} {px : Px} {σ : List (Option V)} (st : StG K W F px ρ σ H G) : ∃ px', StG K (W0 W.tabs) F px' [] [] H G ∧ ∀ H' G', Same G G' → StG K (W0 W.tabs) F px' [] [] H' G' → StG K W F px ρ σ H' G' := by
  obtain ⟨px', s1, back⟩ := st.shut
  exact ⟨px', s1.w rfl, fun H' G' e s2 => back H' G' e (s2.w rfl)⟩
theorem ev_call {k n : Nat} {f : Addr} {fd : FuncData} {ps : List Str} {x : Str} {e : Expr} {es : List Expr} {m : List PyData → R PyData} {rs : R (List PyData)} (F : FnOk X.prog X.w X.K X.mg X.base CX0 k f fd ps (spF X.K tabs n m)) (hr : Room k X.A) (hm : X.mg x = some (.ref f)) (hk : PySem.W.keepIn X.K (.ref f) = true) (hb : Binds X.K fd ps [])
    (ha : EvA X (W0 tabs) ρ (e :: es) (rs)) (hn : ∀ ds, rs = .ok ds → ds.length = n) (hg : Gl X x := by rfl) (hdb : (x == ("__debug__" : Str)) = false := by decide) (he : starEach (e :: es) X.env = (false, eval e X.env) :: starEach es X.env := by rfl) (hpl : (backTo pos (starEach es X.env)).any (·.1) = false := by rfl) :
    EvR X (W0 tabs) ρ (.Call (.Name x p) (e :: es) [] pos) (rs.bind m) := by
  refine ⟨PE.imp (pe_call F hr hg hm hk hb .nil pass0 ha.pa hdb he hpl) fun σ H Q h => ?_⟩
  obtain ⟨F', G, px, st, q⟩ := h
  cases e1 : rs with
  | ok ds =>
    rw [e1] at q
    have hl := hn ds e1
    refine ⟨F', G, px, st, fun vs H1 G1 e2 st1 rv => ?_⟩
    obtain ⟨px', st2, back⟩ := st1.callee
    rw [List.append_nil]
    exact ⟨F', G1, px', ds, by rw [RpAll.len rv]; exact hl, st2, rv, (show Go (W0 tabs) F' (m ds) _ from q).imp fun d q1 v H' G' e' st' rd => q1 v H' G' (e2.trans e') (back H' G' e' st') rd⟩
  | ex _ _ => rw [e1] at q; exact ⟨F', G, px, st, q⟩
  | no => rw [e1] at q; exact q.elim
end
/-! ### what changes the urn -/
def tM (K : PySem.W.Frag) (W : Wx) {U : Type} (E : U → En) (r : U → R (PyData × U)) : TE := fun σ H Q => ∃ u F G px, StG K W F px (E u) σ H G ∧ Go W F (r u) fun p => ∀ v H' G', Same G G' → StG K W F px (E p.2) σ H' G' → Rp K G' v p.1 → Q v H'
def tMT (K : PySem.W.Frag) (W : Wx) {U : Type} (E : U → En) (r : U → R (Bool × U)) : TT := fun σ H Q => ∃ u F G px, StG K W F px (E u) σ H G ∧ Go W F (r u) fun p => ∀ H' G', Same G G' → StG K W F px (E p.2) σ H' G' → Q p.1 H'
def tMA (K : PySem.W.Frag) (W : Wx) {U : Type} (E : U → En) (r : U → R (List PyData × U)) : TA := fun σ H Q => ∃ u F G px, StG K W F px (E u) σ H G ∧ Go W F (r u) fun p => ∀ vs H' G', Same G G' → StG K W F px (E p.2) σ H' G' → RpAll K G' vs p.1 → Q vs H'
def tMF (K : PySem.W.Frag) (W : Wx) {U : Type} (E : U → En) (r : U → R (List PyData × U)) : TE := fun σ H Q => ∃ u F G px, StG K W F px (E u) σ H G ∧ Go W F (r u) fun p => ∀ a vs H' G', Same G G' → StG K W F ((a, vs) :: px) (E p.2) σ H' G' → RpAll K G' vs p.1 → Q (.ref a) H'
def tMI (K : PySem.W.Frag) (W : Wx) {U : Type} (E : U → En) (r : U → R (List PyData × U)) : TI := fun σ H Rk => ∃ u F G px, StG K W F px (E u) σ H G ∧ Go W F (r u) fun p => ∀ J H' G', Same G G' → StG K W F px (E p.2) σ H' G' → WalkD K J G' p.1 → p.1.length ≤ sizeLine → Rk J H'
structure EvM (X : Cx) (W : Wx) {U : Type} (E : U → En) (e : Expr) (r : U → R (PyData × U)) : Prop where
  pe : PE X e (tM X.K W E r)
structure EvMT (X : Cx) (W : Wx) {U : Type} (E : U → En) (e : Expr) (r : U → R (Bool × U)) : Prop where
  pt : PT X e (tMT X.K W E r)
structure EvMA (X : Cx) (W : Wx) {U : Type} (E : U → En) (n : Nat) (es : List Expr) (r : U → R (List PyData × U)) : Prop where
  pa : PA X es (tMA X.K W E r)
  len : ∀ u p, r u = .ok p → p.1.length = n
theorem R.bind_eq {α β : Type} {r : R α} {f : α → R β} {b : β} (h : r.bind f = .ok b) : ∃ a, r = .ok a ∧ f a = .ok b := by
  cases r with
  | ok a => exact ⟨a, rfl, h⟩
  | ex _ _ => cases h
  | no => cases h
structure EvMF (X : Cx) (W : Wx) {U : Type} (E : U → En) (e : Expr) (r : U → R (List PyData × U)) : Prop where
  pe : PE X e (tMF X.K W E r)
structure EvMI (X : Cx) (W : Wx) {U : Type} (E : U → En) (tg iter : Expr) (r : U → R (List PyData × U)) : Prop where
  pi : PI X tg iter (tMI X.K W E r)
section
variable {X : Cx} {W : Wx} {U : Type} {E : U → En} {pos p : Pos} {e a b : Expr} {es : List Expr}
/-- what leaves the urn as it is -/
theorem em {r : U → R PyData} (h : ∀ u, EvR X W (E u) e (r u)) : EvM X W E e (fun u => (r u).bind fun d => .ok (d, u)) :=
  ⟨⟨fun pins s σ H Q I q => let ⟨u, F, G, px, st, q⟩ := q; (h u).pe.run pins s σ H Q I ⟨F, G, px, st, Go.bind q fun d q1 v H' G' e' st' rd => q1 v H' G' e' st' rd⟩⟩⟩
theorem emt {r : U → R Bool} (h : ∀ u, EvT X W (E u) e (r u)) : EvMT X W E e (fun u => (r u).bind fun d => .ok (d, u)) :=
  ⟨⟨fun pins s σ H Q I q => let ⟨u, F, G, px, st, q⟩ := q; (h u).pt.run pins s σ H Q I ⟨F, G, px, st, Go.bind q fun d q1 H' G' e' st' => q1 H' G' e' st'⟩⟩⟩
theorem emf {r : U → R (List PyData)} (h : ∀ u, EvF X W (E u) e (r u)) : EvMF X W E e (fun u => (r u).bind fun d => .ok (d, u)) :=
  ⟨⟨fun pins s σ H Q I q => let ⟨u, F, G, px, st, q⟩ := q; (h u).pe.run pins s σ H Q I ⟨F, G, px, st, Go.bind q fun d q1 v vs H' G' e' st' rd => q1 v vs H' G' e' st' rd⟩⟩⟩
theorem emi {tg : Expr} {r : U → R (List PyData)} (h : ∀ u, EvI X W (E u) tg e (r u)) : EvMI X W E tg e (fun u => (r u).bind fun d => .ok (d, u)) :=
  ⟨⟨fun pins s σ H Q I q => let ⟨u, F, G, px, st, q⟩ := q; (h u).pi.run pins s σ H Q I ⟨F, G, px, st, Go.bind q fun d q1 J H' G' e' st' wd hz => q1 J H' G' e' st' wd hz⟩⟩⟩
theorem ema_nil : EvMA X W E 0 [] (fun u => .ok ([], u)) := ⟨PA.imp pa_nil fun σ H Q q => let ⟨u, F, G, px, st, q⟩ := q; q [] H G (Same.refl G) st .nil, fun u p h => by cases h; rfl⟩
theorem ema_cons {n : Nat} {r : U → R (PyData × U)} {rs : U → R (List PyData × U)} (he : EvM X W E e r) (hs : EvMA X W E n es rs) (hst : starEach (e :: es) X.env = (false, eval e X.env) :: starEach es X.env := by rfl) :
    EvMA X W E (n + 1) (e :: es) (fun u => (r u).bind fun p => (rs p.2).bind fun q => .ok (p.1 :: q.1, q.2)) := by
  refine ⟨PA.imp (pa_cons he.pe hs.pa hst) fun σ H Q q => ?_, fun u p h => ?_⟩
  case refine_2 =>
    obtain ⟨p1, _, h⟩ := R.bind_eq h
    obtain ⟨p2, h2, h⟩ := R.bind_eq h
    cases h
    exact congrArg (· + 1) (hs.len _ _ h2)
  obtain ⟨u, F, G, px, st, q⟩ := q
  refine ⟨u, F, G, px, st, Go.bind q fun p q1 v H1 G1 e1 st1 rv => ⟨p.2, F, G1, px, st1, Go.bind q1 fun p2 q2 vs H2 G2 e2 st2 rvs => ?_⟩⟩
  exact q2 (v :: vs) H2 G2 (e1.trans e2) st2 (.cons (dp_same e2 _ rv) rvs)
theorem em_op {op : Operator} {r : R2} {f : PyData → PyData → Option PyData} {ra rb : U → R (PyData × U)} (ho : OpR X (binaryOp op) r) (hd : OpD X.K r f) (ha : EvM X W E a ra) (hb : EvM X W E b rb) :
    EvM X W E (.BinOp a op b pos) (fun u => (ra u).bind fun x => (rb x.2).bind fun y => (R.of (f x.1 y.1)).bind fun d => .ok (d, y.2)) := by
  refine ⟨PE.imp (pe_op ho ha.pe hb.pe) fun σ H Q q => ?_⟩
  obtain ⟨u, F, G, px, st, q⟩ := q
  refine ⟨u, F, G, px, st, Go.bind q fun p q1 v H1 G1 e1 st1 rv => ⟨p.2, F, G1, px, st1, Go.bind q1 fun p2 q2 v2 H2 G2 e2 st2 rv2 => ?_⟩⟩
  cases e3 : f p.1 p2.1 with
  | none => rw [e3] at q2; exact q2.elim
  | some d3 =>
    rw [e3] at q2
    exact hd W F G2 H2 px _ σ v v2 _ _ d3 Q st2 (dp_same e2 _ rv) rv2 e3 fun v' H' G' e' st' rd => q2 v' H' G' ((e1.trans e2).trans e') st' rd
theorem emt_cmp {op : CmpOp} {r : R2} {f : PyData → PyData → Option PyData} {ra rb : U → R (PyData × U)} (ho : OpR X (compareOp op) r) (hd : OpD X.K r f) (ha : EvM X W E a ra) (hb : EvM X W E b rb) (hm : behindInMarks op b = false) :
    EvMT X W E (.Compare a [op] [b] pos) (fun u => (ra u).bind fun x => (rb x.2).bind fun y => ((R.of (f x.1 y.1)).bind asB).bind fun d => .ok (d, y.2)) := by
  refine ⟨PT.imp (pt_cmpR ho ha.pe hb.pe hm) fun σ H Q q => ?_⟩
  obtain ⟨u, F, G, px, st, q⟩ := q
  refine ⟨u, F, G, px, st, Go.bind q fun p q1 v H1 G1 e1 st1 rv => ⟨p.2, F, G1, px, st1, Go.bind q1 fun p2 q2 v2 H2 G2 e2 st2 rv2 => ?_⟩⟩
  cases e3 : f p.1 p2.1 with
  | none => rw [e3] at q2; exact q2.elim
  | some d3 =>
    rw [e3] at q2
    refine hd W F G2 H2 px _ σ v v2 _ _ d3 _ st2 (dp_same e2 _ rv) rv2 e3 fun z H3 G3 g3 st3 dz => ?_
    cases dz with
    | bl b => exact ⟨b, rfl, q2 H3 G3 ((e1.trans e2).trans g3) st3⟩
    | _ => exact q2.elim
theorem em_ix {ra rb : U → R (PyData × U)} (ha : EvM X W E a ra) (hb : EvM X W E b rb) (hs : PlainIx b) : EvM X W E (.Subscript a b pos) (fun u => (ra u).bind fun x => (rb x.2).bind fun y => (R.of (dIx x.1 y.1)).bind fun d => .ok (d, y.2)) := by
  refine ⟨PE.imp (pe_ix ix_seq ha.pe hb.pe hs) fun σ H Q q => ?_⟩
  obtain ⟨u, F, G, px, st, q⟩ := q
  refine ⟨u, F, G, px, st, Go.bind q fun p q1 v H1 G1 e1 st1 rv => ⟨p.2, F, G1, px, st1, Go.bind q1 fun p2 q2 v2 H2 G2 e2 st2 rv2 => ?_⟩⟩
  cases e3 : dIx p.1 p2.1 with
  | none => rw [e3] at q2; exact q2.elim
  | some d3 =>
    rw [e3] at q2
    have rv' := dp_same e2 _ rv
    have q3 : ∀ w, Rp X.K G2 w d3 → Q w H2 := fun w rw' => q2 w H2 G2 (e1.trans e2) st2 rw'
    obtain ⟨x1, u1⟩ := p
    obtain ⟨x2, u2⟩ := p2
    cases rv2 with
    | int i =>
      cases rv' with
      | @lst c xs ds h1 h2 =>
        simp only [dIx] at e3
        cases e4 : atI ds i with
        | none => rw [e4] at e3; cases e3
        | some d5 =>
          rw [e4] at e3
          cases e3
          obtain ⟨w, g1, g2⟩ := atI_rp h2 e4
          exact .inl ⟨c, xs, i, w, rfl, rfl, .inl (Rd.same st2.gh h1), g1, q3 w g2⟩
      | @tup c xs ds h1 h2 =>
        simp only [dIx] at e3
        cases e4 : atI ds i with
        | none => rw [e4] at e3; cases e3
        | some d5 =>
          rw [e4] at e3
          cases e3
          obtain ⟨w, g1, g2⟩ := atI_rp h2 e4
          exact .inr (.inl ⟨c, xs, i, w, rfl, rfl, Same.seqT st2.gh h1, g1, q3 w g2⟩)
      | str z =>
        simp only [dIx] at e3
        split at e3
        · rename_i hz
          cases e4 : atI z.cps.toList i with
          | none => rw [e4] at e3; cases e3
          | some c =>
            rw [e4] at e3
            cases e3
            exact .inr (.inr ⟨z, i, c, rfl, rfl, hz, e4, q3 _ (.str _)⟩)
        · cases e3
      | _ => cases e3
    | _ => cases rv' <;> cases e3
theorem em_if {c : Expr} {rc : U → R (Bool × U)} {ra rb : U → R (PyData × U)} (hc : EvMT X W E c rc) (ha : EvM X W E a ra) (hb : EvM X W E b rb) : EvM X W E (.IfExp c a b pos) (fun u => (rc u).bind fun k => if k.1 = true then ra k.2 else rb k.2) := by
  refine ⟨PE.imp (pe_ifExp hc.pt ha.pe hb.pe) fun σ H Q q => ?_⟩
  obtain ⟨u, F, G, px, st, q⟩ := q
  refine ⟨u, F, G, px, st, Go.bind q fun k q1 H1 G1 e1 st1 => ?_⟩
  obtain ⟨k, u1⟩ := k
  cases k with
  | true => exact ⟨u1, F, G1, px, st1, Go.imp (show Go W F (ra u1) _ from q1) fun p q2 v H' G' e' st' rd => q2 v H' G' (e1.trans e') st' rd⟩
  | false => exact ⟨u1, F, G1, px, st1, Go.imp (show Go W F (rb u1) _ from q1) fun p q2 v H' G' e' st' rd => q2 v H' G' (e1.trans e') st' rd⟩
theorem em_tup {n : Nat} {x1} {rs : U → R (List PyData × U)} (h : EvMA X W E n es rs) (hl : decide (n ≤ 100000) = true := by rfl) : EvM X W E (.Tuple es x1 pos) (fun u => (rs u).bind fun p => .ok (.tuple p.1, p.2)) := by
  refine ⟨PE.imp (pe_tup h.pa) fun σ H Q q => ?_⟩
  obtain ⟨u, F, G, px, st, q⟩ := q
  replace q : Go W F ((rs u).bind fun p => .ok (PyData.tuple p.1, p.2)) _ := q
  cases e1 : rs u with
  | ok p =>
    rw [e1] at q
    have q1 : ∀ v H' G', Same G G' → StG X.K W F px (E p.2) σ H' G' → Rp X.K G' v (.tuple p.1) → Q v H' := q
    refine ⟨u, F, G, px, st, ?_⟩
    rw [e1]
    intro vs H1 G1 e1' st1 dv
    refine ⟨by rw [RpAll.len dv, h.len u p e1]; exact sz_dec hl, fun a hp => ?_⟩
    have gp := st1.gh.free hp
    have st2 := st1.alloc (o := .tup vs) hp
    have sn := Same.new (o := .tup vs) gp
    exact q1 (.ref a) (upd H1 a (.tup vs)) (upd G1 a (.tup vs)) (e1'.trans sn) st2 (.tup (SqT.of upd_same) (dps_same sn _ dv))
  | ex _ _ => rw [e1] at q; exact ⟨u, F, G, px, st, by rw [e1]; exact q⟩
  | no => rw [e1] at q; exact q.elim
theorem emf_lst {n : Nat} {rs : U → R (List PyData × U)} (h : EvMA X W E n es rs) (hl : decide (n ≤ 100000) = true := by rfl) : EvMF X W E (.List es pos) rs := by
  refine ⟨PE.imp (pe_lst h.pa) fun σ H Q q => ?_⟩
  obtain ⟨u, F, G, px, st, q⟩ := q
  cases e1 : rs u with
  | ok p =>
    rw [e1] at q
    exact ⟨u, F, G, px, st, by rw [e1]; exact fun vs H1 G1 e1' st1 dv => ⟨by rw [RpAll.len dv, h.len u p e1]; exact sz_dec hl, fun a hp => (show ∀ a vs H' G', Same G G' → StG X.K W F ((a, vs) :: px) (E p.2) σ H' G' → RpAll X.K G' vs p.1 → Q (.ref a) H' from q) a vs _ _ e1' (st1.newP hp) dv⟩⟩
  | ex _ _ => rw [e1] at q; exact ⟨u, F, G, px, st, by rw [e1]; exact q⟩
  | no => rw [e1] at q; exact q.elim
/-- a list of one's own, as a value -/
theorem em_frz {r : U → R (List PyData × U)} (h : EvMF X W E e r) : EvM X W E e (fun u => (r u).bind fun p => .ok (.list p.1, p.2)) := by
  refine ⟨PE.imp h.pe fun σ H Q q => ?_⟩
  obtain ⟨u, F, G, px, st, q⟩ := q
  refine ⟨u, F, G, px, st, Go.bind q fun p q1 a vs H1 G1 e1 st1 ra => ?_⟩
  have g1 := (st1.pv _ List.mem_cons_self).2.1
  exact q1 _ _ _ (e1.trans (Same.new g1)) st1.freezeP (.lst (Rd.of upd_same) (dps_same (Same.new g1) _ ra))
theorem em_bi {n : Nat} {x : Str} {id : String} {f : List PyData → Option PyData} {rs : U → R (List PyData × U)} (hc : CallR X (.builtin id) (rLD X.K f)) (hg : Gl X x) (hm : X.mg x = none) (hv : bootBuiltins x = some (.builtin id)) (ha : EvMA X W E n (e :: es) rs)
    (hn : x ≠ "__name__" := by decide) (hdb : (x == ("__debug__" : Str)) = false := by decide) (he : starEach (e :: es) X.env = (false, eval e X.env) :: starEach es X.env := by rfl) (hpl : (backTo pos (starEach es X.env)).any (·.1) = false := by rfl) :
    EvM X W E (.Call (.Name x p) (e :: es) [] pos) (fun u => (rs u).bind fun q => (R.of (f q.1)).bind fun d => .ok (d, q.2)) := by
  refine ⟨PE.imp (pe_callB hc hg hm hv ha.pa hn hdb he hpl) fun σ H Q q => ?_⟩
  obtain ⟨u, F, G, px, st, q⟩ := q
  refine ⟨u, F, G, px, st, Go.bind q fun p q1 vs H1 G1 e1 st1 rv => ?_⟩
  cases e3 : f p.1 with
  | none => rw [e3] at q1; exact q1.elim
  | some d =>
    rw [e3] at q1
    exact ⟨W, F, G1, px, _, σ, p.1, d, st1, rv, e3, fun v H' G' e' st' rd => q1 v H' G' (e1.trans e') st' rd⟩
theorem em_ty {n : Nat} {x : Str} {T : String} {f : List PyData → Option PyData} {rs : U → R (List PyData × U)} (hc : CallR X (.type T) (rLD X.K f)) (hg : Gl X x) (hm : X.mg x = none) (hv : bootBuiltins x = some (.type T)) (ha : EvMA X W E n (e :: es) rs)
    (hn : x ≠ "__name__" := by decide) (hdb : (x == ("__debug__" : Str)) = false := by decide) (he : starEach (e :: es) X.env = (false, eval e X.env) :: starEach es X.env := by rfl) (hpl : (backTo pos (starEach es X.env)).any (·.1) = false := by rfl) :
    EvM X W E (.Call (.Name x p) (e :: es) [] pos) (fun u => (rs u).bind fun q => (R.of (f q.1)).bind fun d => .ok (d, q.2)) := by
  refine ⟨PE.imp (pe_callTy hc hg hm hv ha.pa hn hdb he hpl) fun σ H Q q => ?_⟩
  obtain ⟨u, F, G, px, st, q⟩ := q
  refine ⟨u, F, G, px, st, Go.bind q fun p q1 vs H1 G1 e1 st1 rv => ?_⟩
  cases e3 : f p.1 with
  | none => rw [e3] at q1; exact q1.elim
  | some d =>
    rw [e3] at q1
    exact ⟨W, F, G1, px, _, σ, p.1, d, st1, rv, e3, fun v H' G' e' st' rd => q1 v H' G' (e1.trans e') st' rd⟩
end
section
variable {X : Cx} {tabs : List (Addr × Str)} {U : Type} {E : U → En} {pos p : Pos} {e : Expr} {es : List Expr}
theorem em_callP {k n : Nat} {f : Addr} {fd : FuncData} {ps : List Str} {x : Str} {m : List PyData → R PyData} {rs : U → R (List PyData × U)} (F : FnOk X.prog X.w X.K X.mg X.base CX0 k f fd ps (spF X.K tabs n m)) (hr : Room k X.A) (hm : X.mg x = some (.ref f)) (hk : PySem.W.keepIn X.K (.ref f) = true) (hb : Binds X.K fd ps [])
    (ha : EvMA X (W0 tabs) E n (e :: es) rs) (hg : Gl X x := by rfl) (hdb : (x == ("__debug__" : Str)) = false := by decide) (he : starEach (e :: es) X.env = (false, eval e X.env) :: starEach es X.env := by rfl) (hpl : (backTo pos (starEach es X.env)).any (·.1) = false := by rfl) :
    EvM X (W0 tabs) E (.Call (.Name x p) (e :: es) [] pos) (fun u => (rs u).bind fun q => (m q.1).bind fun d => .ok (d, q.2)) := by
  refine ⟨PE.imp (pe_call F hr hg hm hk hb .nil pass0 ha.pa hdb he hpl) fun σ H Q h => ?_⟩
  obtain ⟨u, F', G, px, st, q⟩ := h
  replace q : Go (W0 tabs) F' ((rs u).bind fun q => (m q.1).bind fun d => .ok (d, q.2)) fun p => ∀ v H' G', Same G G' → StG X.K (W0 tabs) F' px (E p.2) σ H' G' → Rp X.K G' v p.1 → Q v H' := q
  cases e1 : rs u with
  | ok p =>
    replace q : Go (W0 tabs) F' ((m p.1).bind fun d => .ok (d, p.2)) fun p => ∀ v H' G', Same G G' → StG X.K (W0 tabs) F' px (E p.2) σ H' G' → Rp X.K G' v p.1 → Q v H' := by rw [show rs u = R.ok p from e1] at q; exact q
    refine ⟨u, F', G, px, st, ?_⟩
    rw [e1]
    intro vs H1 G1 e2 st1 rv
    obtain ⟨px', st2, back⟩ := st1.callee
    rw [List.append_nil]
    exact ⟨F', G1, px', p.1, by rw [RpAll.len rv]; exact ha.len u p e1, st2, rv, Go.bind q fun d q1 v H' G' e' st' rd => q1 v H' G' (e2.trans e') (back H' G' e' st') rd⟩
  | ex _ _ => exact ⟨u, F', G, px, st, by rw [e1] at q ⊢; exact q⟩
  | no => rw [e1] at q; exact q.elim
end
/-! a call that hands on the urn -/
theorem StG.calleeU {K : PySem.W.Frag} {W : Wx} {F G H : Hp} {px : Px} {σ : List (Option V)} {ρ : En} {i : Nat} {urn : List PyData} {t : Option Addr} (st : StG K W F px ρ σ H G) (hi : ρ[i]? = some (some (.own urn t))) :
    ∃ a us px', σ[i]? = some (some (.ref a)) ∧ RpAll K G us urn ∧ StG K (W0 W.tabs) F ((a, us) :: px') [] [] H G ∧ ∀ H' G' us' urn', Same G G' → StG K (W0 W.tabs) F ((a, us') :: px') [] [] H' G' → RpAll K G' us' urn' → StG K W F px (ρ.set i (some (.own urn' t))) σ H' G' := by
  obtain ⟨cs, sl, dj⟩ := st.sl
  obtain ⟨a, us, e2, f2, f3, ra, ht⟩ := sl.own_at hi
  obtain ⟨c1, c2, _⟩ := sl.cell _ f2
  obtain ⟨cs', hcs, sl'⟩ := sl.forget none i
  obtain ⟨cs2, sl2, hc⟩ := Slots.by_place (K := K) (F := F) (G := G) (H := H) (σ := σ.set i none) (ρ := ρ.set i none) sl'.len (fun j v P h => sl'.raw_at h) (fun j d h => sl'.val_at h)
      (fun j ds t h => let ⟨b, vs, g1, g2, g3, g4, g5⟩ := sl'.own_at h; ⟨b, vs, g1, (sl'.cell _ g2).1, (sl'.cell _ g2).2.1, g3, g4, g5⟩) (fun j k ds es t u b h1 h2 h3 h4 => sl'.inj h1 h2 h3 h4)
  have hi2 : i < ρ.length := (List.getElem?_eq_some_iff.mp hi).1
  have hc2 : ∀ b ∈ cs2, b ∈ cs ∧ b ≠ a := fun b m => by
    obtain ⟨j, ds, t', h1, h2⟩ := hc b m
    have hj : i ≠ j := fun z => by
      subst z
      rw [List.getElem?_set_self hi2] at h1
      cases h1
    rw [set_get hj] at h1 h2
    obtain ⟨b', _, g1, g2, _⟩ := sl.own_at h1
    rw [h2] at g1
    cases g1
    exact ⟨g2, fun z => hj (sl.inj hi h1 e2 (z ▸ h2))⟩
  have own2 : ∀ {j : Nat} {ds : List PyData} {t' : Option Addr} {b : Addr}, i ≠ j → ρ[j]? = some (some (.own ds t')) → σ[j]? = some (some (.ref b)) → b ∈ cs2 := fun {j ds t' b} hj h1 h2 => by
    obtain ⟨b', _, g1, g2, _⟩ := sl2.own_at ((set_get hj).trans h1)
    rw [set_get hj, h2] at g1
    cases g1
    exact g2
  obtain ⟨l, l1, l2⟩ := cells_px fun b m => (sl2.cell b m).2.2
  have inl : ∀ p ∈ l, p.1 ∈ cs2 := fun p m => by rw [← l1]; exact List.mem_map.mpr ⟨p, m, rfl⟩
  have nd : (((a, us) :: (px ++ l)).map (·.1)).Nodup := by
    rw [List.map_cons, List.map_append, l1, List.nodup_cons, List.nodup_append, List.mem_append]
    refine ⟨fun z => ?_, st.nd, sl2.nodup, fun b hb c hc z => ?_⟩
    · rcases z with z | z
      · obtain ⟨p, hp, e⟩ := List.mem_map.mp z
        exact dj p hp (by rw [e]; exact f2)
      · exact (hc2 _ z).2 rfl
    · obtain ⟨p, hp, e⟩ := List.mem_map.mp hb
      exact dj p hp (by rw [e, z]; exact (hc2 _ hc).1)
  refine ⟨a, us, px ++ l, e2, ra, ⟨st.gh, st.fh, ⟨[], .nil, fun _ _ m => by cases m⟩, fun p m => ?_, nd, st.tb, st.nt⟩, fun H' G' us' urn' e st' ru => ?_⟩
  · rcases List.mem_cons.mp m with m | m
    · rw [m]; exact ⟨f3, c1, c2⟩
    · rcases List.mem_append.mp m with m | m
      · exact st.pv p m
      · obtain ⟨k1, k2, _⟩ := sl2.cell p.1 (inl p m)
        exact ⟨l2 p m, k1, k2⟩
  have at_ : ∀ b ∈ cs2, G' b = none ∧ H' b = H b := fun b m => by
    rw [← l1] at m
    obtain ⟨p, hp, rfl⟩ := List.mem_map.mp m
    obtain ⟨g1, g2, _⟩ := st'.pv p (List.mem_cons_of_mem _ (List.mem_append_right _ hp))
    exact ⟨g2, g1.trans (l2 p hp).symm⟩
  obtain ⟨p1, p2, p3⟩ := st'.pv _ List.mem_cons_self
  have ln : σ.length = (ρ.set i (some (Sl.own urn' t))).length := by rw [List.length_set]; exact sl.len
  have back : ∀ {j : Nat} {ds : List PyData} {t' : Option Addr}, (ρ.set i (some (Sl.own urn' t)))[j]? = some (some (.own ds t')) → (i = j ∧ ds = urn' ∧ t' = t) ∨ (i ≠ j ∧ ρ[j]? = some (some (.own ds t'))) := fun {j ds t'} h => by
    by_cases hj : i = j
    · subst hj
      rw [List.getElem?_set_self hi2] at h
      cases h
      exact .inl ⟨rfl, rfl, rfl⟩
    · exact .inr ⟨hj, (set_get hj).symm.trans h⟩
  have hold : ∀ {j : Nat} {ds : List PyData} {t' : Option Addr}, (ρ.set i (some (Sl.own urn' t)))[j]? = some (some (.own ds t')) → ∃ ds', ρ[j]? = some (some (.own ds' t')) := fun {j ds t'} h => by
    rcases back h with ⟨rfl, _, rfl⟩ | ⟨_, h⟩
    · exact ⟨_, hi⟩
    · exact ⟨_, h⟩
  have notown : ∀ {j : Nat} {s : Sl}, (∀ d t', s ≠ .own d t') → (ρ.set i (some (Sl.own urn' t)))[j]? = some (some s) → ρ[j]? = some (some s) := fun {j s} ns h => by
    by_cases hj : i = j
    · subst hj
      rw [List.getElem?_set_self hi2] at h
      cases h
      exact absurd rfl (ns _ _)
    · exact (set_get hj).symm.trans h
  obtain ⟨cs3, sl3, hc3⟩ := Slots.by_place (K := K) (F := F) (G := G') (H := H') (σ := σ) (ρ := ρ.set i (some (.own urn' t))) ln (fun j v P h => let ⟨a, b⟩ := sl.raw_at (notown (fun _ _ z => by cases z) h); ⟨a, fun G'' e' => b G'' (e.trans e')⟩)
    (fun j d h => let ⟨v, x, y⟩ := sl.val_at (notown (fun _ _ z => by cases z) h); ⟨v, x, dp_same e _ y⟩)
    (fun j es t' h => by
      rcases back h with ⟨rfl, rfl, rfl⟩ | ⟨hj, h⟩
      · exact ⟨a, us', e2, p2, p3, p1, ru, ht⟩
      · obtain ⟨b, ws, g1, g2, g3, g4, g5⟩ := sl.own_at h
        have m := own2 hj h g1
        obtain ⟨n1, n2⟩ := at_ b m
        exact ⟨b, ws, g1, n1, (sl2.cell _ m).2.1, n2.trans g3, dps_same e _ g4, g5⟩)
    (fun j k es fs t u b h1 h2 h3 h4 => let ⟨_, k1⟩ := hold h1; let ⟨_, k2⟩ := hold h2; sl.inj k1 k2 h3 h4)
  refine ⟨st'.gh, st'.fh, ⟨cs3, sl3, fun p hp m => ?_⟩, fun p m => st'.pv p (List.mem_cons_of_mem _ (List.mem_append_left _ m)), st.nd, st'.tb, st'.nt⟩
  obtain ⟨j, es, _, h1, h2⟩ := hc3 _ m
  obtain ⟨_, k1⟩ := hold h1
  obtain ⟨b, _, g1, g2, _⟩ := sl.own_at k1
  rw [h2] at g1
  cases g1
  exact dj p hp g2
section
variable {X : Cx} {tabs : List (Addr × Str)} {U : Type} {pos p p1 : Pos} {es : List Expr}
/-- f(urn, ..): the arguments behind may change the urn too -/
theorem em_callU {k n i : Nat} {f : Addr} {fd : FuncData} {ps : List Str} {x y : Str} {t : Option Addr} {E : List PyData → En} {m : List PyData → List PyData → R (PyData × List PyData)} {rs : List PyData → R (List PyData × List PyData)} (F : FnOk X.prog X.w X.K X.mg X.base CX0 k f fd ps (spU X.K tabs (n + 1) m)) (hr : Room k X.A)
    (hm : X.mg x = some (.ref f)) (hk : PySem.W.keepIn X.K (.ref f) = true) (hb : Binds X.K fd ps []) (hu : PE X (.Name y p1) (tVar i)) (hE : ∀ u, (E u)[i]? = some (some (.own u t))) (hE2 : ∀ u u', (E u).set i (some (.own u' t)) = E u')
    (ha : EvMA X (W0 tabs) E n es rs) (hg : Gl X x := by rfl) (hdb : (x == ("__debug__" : Str)) = false := by decide) (he : starEach (.Name y p1 :: es) X.env = (false, eval (.Name y p1) X.env) :: starEach es X.env := by rfl) (hpl : (backTo pos (starEach es X.env)).any (·.1) = false := by rfl) :
    EvM X (W0 tabs) E (.Call (.Name x p) (.Name y p1 :: es) [] pos) (fun u => (rs u).bind fun q => m q.2 q.1) := by
  refine ⟨PE.imp (pe_call F hr hg hm hk hb .nil pass0 (pa_cons hu ha.pa he) hdb he hpl) fun σ H Q h => ?_⟩
  obtain ⟨u, F', G, px, st, q⟩ := h
  obtain ⟨cs, sl, _⟩ := st.sl
  obtain ⟨a, _, e0, _⟩ := sl.own_at (hE u)
  refine ⟨.ref a, e0, ?_⟩
  replace q : Go (W0 tabs) F' ((rs u).bind fun q => m q.2 q.1) fun p => ∀ v H' G', Same G G' → StG X.K (W0 tabs) F' px (E p.2) σ H' G' → Rp X.K G' v p.1 → Q v H' := q
  cases e1 : rs u with
  | ok q' =>
    replace q : Go (W0 tabs) F' (m q'.2 q'.1) fun p => ∀ v H' G', Same G G' → StG X.K (W0 tabs) F' px (E p.2) σ H' G' → Rp X.K G' v p.1 → Q v H' := by rw [show rs u = R.ok q' from e1] at q; exact q
    refine ⟨u, F', G, px, st, ?_⟩
    rw [e1]
    intro vs H1 G1 e2 st1 rv
    obtain ⟨a', us, px', e3, ra, st2, back⟩ := st1.calleeU (hE q'.2)
    rw [e0] at e3
    cases e3
    rw [List.append_nil]
    exact ⟨F', G1, px', a, us, q'.2, vs, q'.1, rfl, by rw [RpAll.len rv]; exact congrArg (· + 1) (ha.len u q' e1), st2, ra, rv, q.imp fun t' q1 v H' G' us' e' st' ru rd => q1 v H' G' (e2.trans e') (by rw [← hE2 q'.2 t'.2]; exact back H' G' us' t'.2 e' st' ru) rd⟩
  | ex _ _ => exact ⟨u, F', G, px, st, by rw [e1] at q ⊢; exact q⟩
  | no => rw [e1] at q; exact q.elim
end
end SE

set_option maxHeartbeats 4000000
/-! comprehensions that change the urn; statements with such expressions -/
namespace SE
open PySem PySem.Spec PyProof.Rows L2

/-! ### puts -/
def PutOk {P : Type} (vs : List Nat) (put : P → En → En) : Prop := ∀ p ρ i, i ∉ vs → (put p ρ)[i]? = ρ[i]?
def PutLen {P : Type} (put : P → En → En) : Prop := ∀ p ρ, (put p ρ).length = ρ.length
theorem pk_name {vs : List Nat} (i : Nat) (h : decide (i ∈ vs) = true := by rfl) : PutOk vs (fun (d : PyData) (ρ : En) => ρ.set i (some (.val d))) := fun p ρ j hj => by
  rw [List.getElem?_set_ne]
  intro z
  exact hj (z ▸ of_decide_eq_true h)
theorem pk_cons {P P' : Type} {vs : List Nat} {a : P → En → En} {b : P' → En → En} (h : PutOk vs a) (h' : PutOk vs b) : PutOk vs (fun (p : P × P') ρ => b p.2 (a p.1 ρ)) := fun p ρ j hj => by
  rw [h' p.2 _ j hj, h p.1 ρ j hj]

/-- item by item, the urn handed on -/
def filtM {U : Type} (f : PyData → U → R (Option PyData × U)) : List PyData → U → R (List PyData × U)
  | [], u => .ok ([], u)
  | d :: ds, u => (f d u).bind fun x => (filtM f ds x.2).bind fun xs => .ok (match x.1 with | some y => y :: xs.1 | none => xs.1, xs.2)
def turnM {P U : Type} (dec : PyData → Option P) (t : P → U → R Bool) (f : P → U → R (PyData × U)) (d : PyData) (u : U) : R (Option PyData × U) :=
  (R.of (dec d)).bind fun p => (t p u).bind fun b => if b = true then (f p u).bind fun y => .ok (some y.1, y.2) else .ok (none, u)
theorem turnM_ok {P U : Type} {dec : PyData → Option P} {t : P → U → R Bool} {f : P → U → R (PyData × U)} {d : PyData} {u : U} {o : Option PyData × U} (h : turnM dec t f d u = .ok o) :
    ∃ p b, dec d = some p ∧ t p u = .ok b ∧ ((b = true ∧ ∃ y, f p u = .ok y ∧ o = (some y.1, y.2)) ∨ (b = false ∧ o = (none, u))) := by
  unfold turnM at h
  cases e1 : dec d with
  | none => rw [e1] at h; cases h
  | some p =>
    rw [e1, R.of_some, R.bind_ok] at h
    obtain ⟨b, e2, h⟩ := R.bind_eq h
    refine ⟨p, b, rfl, e2, ?_⟩
    cases b with
    | true =>
      rw [if_pos rfl] at h
      obtain ⟨y, e3, h⟩ := R.bind_eq h
      cases h
      exact .inl ⟨rfl, y, e3, rfl⟩
    | false =>
      rw [if_neg Bool.false_ne_true] at h
      cases h
      exact .inr ⟨rfl, rfl⟩
theorem filtM_ok {U : Type} {f : PyData → U → R (Option PyData × U)} {d : PyData} {ds : List PyData} {u : U} {xs : List PyData × U} (h : filtM f (d :: ds) u = .ok xs) :
    ∃ o ys, f d u = .ok o ∧ filtM f ds o.2 = .ok ys ∧ xs = (match o.1 with | some y => y :: ys.1 | none => ys.1, ys.2) := by
  obtain ⟨o, e1, h⟩ := R.bind_eq (show (f d u).bind (fun x => (filtM f ds x.2).bind fun xs => .ok (match x.1 with | some y => y :: xs.1 | none => xs.1, xs.2)) = .ok xs from h)
  obtain ⟨ys, e2, h⟩ := R.bind_eq h
  cases h
  exact ⟨o, ys, e1, e2, rfl⟩
def lcM {P U : Type} (ri : U → R (List PyData × U)) (dec : PyData → Option P) (t : P → U → R Bool) (f : P → U → R (PyData × U)) : U → R (List PyData × U) := fun u => (ri u).bind fun q => (filtM (turnM dec t f) q.1 q.2).calm
section
variable {X : Cx} {W : Wx} {U : Type} {E : U → En} {pos : Pos}
def ttM (K : PySem.W.Frag) (W : Wx) {P : Type} (vs : List Nat) (E : U → En) (put : P → En → En) (t : P → U → R Bool) : TT := fun σ H Q => ∃ (p : P) (u : U), tT K ⟨fun _ _ _ => False, W.tabs⟩ (put p (wipeE (E u) vs)) (t p u) σ H Q
def teM (K : PySem.W.Frag) (W : Wx) {P : Type} (vs : List Nat) (E : U → En) (put : P → En → En) (f : P → U → R (PyData × U)) : TE := fun σ H Q => ∃ p : P, tM K ⟨fun _ _ _ => False, W.tabs⟩ (fun u => put p (wipeE (E u) vs)) (f p) σ H Q
theorem lc_redM {K : PySem.W.Frag} {P : Type} {vs : List Nat} {dec : PyData → Option P} {put : P → En → En} {ri : U → R (List PyData × U)} {t : P → U → R Bool} {f : P → U → R (PyData × U)} (ho : ∀ u, noOwn (E u) vs = true)
    (hput : PutOk vs put) (hE : ∀ u u', (vs.map fun i => (E u)[i]?) = vs.map fun i => (E u')[i]?) (hl : ∀ u u', (E u).length = (E u').length) (σ : L2.St) (H : Hp) (Q : VK) (h : tMF K W E (lcM ri dec t f) σ H Q) :
    tLc (tMI K W E ri) (gU K vs dec put) (ttM K W vs E put t) (teM K W vs E put f) vs σ H Q := by
  obtain ⟨u0, F, G, px, st, q⟩ := h
  refine ⟨u0, F, G, px, st, Go.bind (show Go W F ((ri u0).bind fun q => (filtM (turnM dec t f) q.1 q.2).calm) _ from q) fun ds q1 J H1 G1 e1 st1 wd hz => ?_⟩
  obtain ⟨ds, u1⟩ := ds
  have hz : ds.length ≤ sizeLine := hz
  obtain ⟨xs, hxs, qf⟩ : ∃ xs, filtM (turnM dec t f) ds u1 = .ok xs ∧ ∀ a vs H' G', Same G G' → StG K W F ((a, vs) :: px) (E xs.2) σ H' G' → RpAll K G' vs xs.1 → Q (.ref a) H' := by
    replace q1 : Go W F (filtM (turnM dec t f) ds u1).calm fun p => ∀ a vs H' G', Same G G' → StG K W F ((a, vs) :: px) (E p.2) σ H' G' → RpAll K G' vs p.1 → Q (.ref a) H' := q1
    cases e : filtM (turnM dec t f) ds u1 with
    | ok xs => rw [e] at q1; exact ⟨xs, rfl, q1⟩
    | ex _ _ => rw [e] at q1; exact q1.elim
    | no => rw [e] at q1; exact q1.elim
  intro D hD
  have hww : wipe (wipe σ vs) vs = wipe σ vs := wipe_in vs σ fun _ m => m
  have σg : ∀ (τ : L2.St) i, i ∉ vs → (wipe τ vs)[i]? = τ[i]? := fun τ i hi => wipe_get wipe i (fun _ => rfl) (fun _ _ _ => rfl) hi
  have ρg : ∀ (ρ : En) i, i ∉ vs → (wipeE ρ vs)[i]? = ρ[i]? := fun ρ i hi => wipe_get wipeE i (fun _ => rfl) (fun _ _ _ => rfl) hi
  have Eg : ∀ u u' i, i ∈ vs → (E u')[i]? = (E u)[i]? := fun u u' i hi => List.map_inj_left.mp (hE u' u) i hi
  refine ⟨fun i m Hc => m = ds.length - i ∧ i ≤ ds.length ∧ ∃ (G' : Hp) (u : U) (acc : List V) (accd : List PyData) (rest : List PyData × U), Same G1 G' ∧ StG K W F ((D, acc) :: px) (E u) σ Hc G' ∧ RpAll K G' acc accd ∧ acc.length ≤ i ∧ filtM (turnM dec t f) (ds.drop i) u = .ok rest ∧ (accd ++ rest.1, rest.2) = xs,
    ⟨ds.length, by simp, Nat.zero_le _, G1, u1, [], [], xs, Same.refl _, st1.newP hD, .nil, Nat.zero_le _, by simpa using hxs, rfl⟩, ?_⟩
  rintro i m Hc ⟨rfl, hi', G', u, acc, accd, rest, e2, st2, ra, hl', hr, hx⟩
  by_cases hlt : i < ds.length
  · refine .inr ⟨wd.go i Hc hlt (e2.trans st2.gh), fun Hn => ∃ (G' : Hp) (u : U) (acc : List V) (accd : List PyData) (rest : List PyData × U), Same G1 G' ∧ StG K W F ((D, acc) :: px) (E u) σ Hn G' ∧ RpAll K G' acc accd ∧ acc.length ≤ i + 1 ∧ filtM (turnM dec t f) (ds.drop (i + 1)) u = .ok rest ∧ (accd ++ rest.1, rest.2) = xs,
      fun Hn hN => ⟨ds.length - (i + 1), by omega, rfl, hlt, hN⟩, fun x H' y => ?_⟩
    obtain ⟨d, G3, hd, e3, st3, rx⟩ := wd.step e2 st2 hlt y
    have hdrop : ds.drop i = d :: ds.drop (i + 1) := by
      rw [List.drop_eq_getElem_cons hlt]
      rw [List.getElem?_eq_getElem hlt] at hd
      rw [Option.some.inj hd]
    rw [hdrop] at hr
    obtain ⟨o, ys, ho1, hr1, hxr⟩ := filtM_ok hr
    obtain ⟨p, b, hp, hb, hcase⟩ := turnM_ok ho1
    refine ⟨⟨fun _ _ _ => False, W.tabs⟩, F, G3, _, wipeE (E u) vs, d, p, (st3.w (W' := ⟨fun _ _ _ => False, W.tabs⟩) rfl).wiped vs, rx, hp, fun σ' st' hw => ⟨hw.trans hww, ?_⟩⟩
    have mend : ∀ {u' : U} {H4 G4 : Hp}, Same G3 G4 → StG K ⟨fun _ _ _ => False, W.tabs⟩ F ((D, acc) :: px) (put p (wipeE (E u') vs)) σ' H4 G4 → StG K W F ((D, acc) :: px) (E u') σ H4 G4 := fun {u' H4 G4} e4 st4 =>
      st3.mend2 (vs := vs) (st4.w (W' := W) rfl) e4 (by
        have l1 := wipe_length σ' vs
        have l2 := wipe_length (wipe σ vs) vs
        have l3 := wipe_length σ vs
        rw [hw] at l1
        omega) (hl _ _) (fun j hj => by rw [← σg σ' j hj, hw, hww, σg σ j hj]) (fun j hj => by rw [hput p _ j hj, ρg _ j hj]) (fun j hj => Eg _ _ j hj) (noOwn_ne (ho u))
    refine ⟨p, u, F, G3, _, st', ?_⟩
    rw [hb]
    intro H4 G4 e4 st4
    rcases hcase with ⟨rfl, y, hy, rfl⟩ | ⟨rfl, rfl⟩
    · rw [if_pos rfl]
      refine ⟨p, u, F, G4, _, st4, ?_⟩
      rw [hy]
      intro v H5 G5 e5 st5 rv
      have st6 := mend (e4.trans e5) st5
      refine ⟨acc, (st6.pv _ List.mem_cons_self).1, by show acc.length < sizeLine; omega, G5, y.2, acc ++ [v], accd ++ [y.1], ys, ((e2.trans e3).trans e4).trans e5, st6.writeP, (dps_same ((e3.trans e4).trans e5) _ ra).app (.one rv), by rw [List.length_append]; exact Nat.succ_le_succ hl', hr1, ?_⟩
      rw [List.append_assoc, ← hx, hxr]
      rfl
    · rw [if_neg Bool.false_ne_true]
      exact ⟨G4, u, acc, accd, ys, (e2.trans e3).trans e4, mend e4 st4, dps_same (e3.trans e4) _ ra, Nat.le_succ_of_le hl', hr1, by rw [← hx, hxr]⟩
  · have e : i = ds.length := by omega
    subst e
    refine .inl ⟨wd.stop _ Hc rfl (e2.trans st2.gh), ?_⟩
    rw [List.drop_length] at hr
    cases hr
    rw [List.append_nil] at hx
    subst hx
    exact qf _ _ _ _ (e1.trans e2) st2 ra
structure LcM (X : Cx) (W : Wx) (E : U → En) {P : Type} (elt tg iter : Expr) (ifs : List Expr) (scope : Scope) (vs : List Nat) (dec : PyData → Option P) (put : P → En → En) (ri : U → R (List PyData × U)) (t : P → U → R Bool) (f : P → U → R (PyData × U)) : Prop where
  hc : X.calm = true
  hN : X.N.Nodup
  hi : EvMI X W E tg iter ri
  ok : ∃ own : List (Str × Nat), BlkOk X.N X.env.scope scope own ∧ own.map (·.2) = vs
  ho : ∀ u, noOwn (E u) vs = true
  hput : PutOk vs put
  hE : ∀ u u', (vs.map fun i => (E u)[i]?) = vs.map fun i => (E u')[i]?
  hl : ∀ u u', (E u).length = (E u').length
  hg : ∀ (s : Shared) (H : Hp) (C : Addr) (cl : List (Str × Addr)) (fp : List Addr), EvG (X.blk s H scope (compEnvC scope cl C X.env) fp) tg vs dec put
  ht : ∀ (s : Shared) (H : Hp) (C : Addr) (cl : List (Str × Addr)) (fp : List Addr) (p : P) (u : U), EvTs (X.blk s H scope (compEnvC scope cl C X.env) fp) ⟨fun _ _ _ => False, W.tabs⟩ (put p (wipeE (E u) vs)) ifs (t p u)
  he : ∀ (s : Shared) (H : Hp) (C : Addr) (cl : List (Str × Addr)) (fp : List Addr) (p : P), EvM (X.blk s H scope (compEnvC scope cl C X.env) fp) ⟨fun _ _ _ => False, W.tabs⟩ (fun u => put p (wipeE (E u) vs)) elt (f p)
  hs : ∀ x, foldedSetIterable iter X.env x = pure x
variable {P : Type} {elt tg iter : Expr} {ifs : List Expr} {scope : Scope} {vs : List Nat} {dec : PyData → Option P} {put : P → En → En} {ri : U → R (List PyData × U)} {t : P → U → R Bool} {f : P → U → R (PyData × U)}
theorem emf_lc (h : LcM X W E elt tg iter ifs scope vs dec put ri t f) : EvMF X W E (.ListComp elt [⟨tg, iter, ifs, 0⟩] scope pos) (lcM ri dec t f) := by
  obtain ⟨own, ok, rfl⟩ := h.ok
  exact ⟨PE.imp (pe_lc (own := own) (g := gU X.K (own.map (·.2)) dec put) (tt := ttM X.K W (own.map (·.2)) E put t) (te := teM X.K W (own.map (·.2)) E put f) h.hc h.hN h.hi.pi ok (fun s H C cl fp => (h.hg s H C cl fp).uni)
    (fun s H C cl fp => ⟨fun pins s' σ H' Q I q => let ⟨p, u, q⟩ := q; (h.ht s H C cl fp p u).pt.run pins s' σ H' Q I q⟩) (fun s H C cl fp => ⟨fun pins s' σ H' Q I q => let ⟨p, q⟩ := q; (h.he s H C cl fp p).pe.run pins s' σ H' Q I q⟩) h.hs)
    fun σ H Q => lc_redM h.ho h.hput h.hE h.hl σ H Q⟩
/-- name = [..] on one line, the name a local -/
theorem set_lcM {i : Nat} {y : Str} {py spos : Pos} (h : LcM X W E elt tg iter ifs scope vs dec put ri t f) (hy : X.N[i]? = some y) (hyl : X.env.scope.names.lookup y = some .local)
    (hsw : swapsWith (.ListComp elt [⟨tg, iter, ifs, 0⟩] scope pos) (some (.Name y py)) spos.line X.env = pure true) :
    PS X (.Assign [.Name y py] (.ListComp elt [⟨tg, iter, ifs, 0⟩] scope pos) spos) (tAsg (tMF X.K W E (lcM ri dec t f)) (gName i)) := by
  obtain ⟨own, ok, rfl⟩ := h.ok
  exact PS.imp (ps_setLc (own := own) (g := gU X.K (own.map (·.2)) dec put) (tt := ttM X.K W (own.map (·.2)) E put t) (te := teM X.K W (own.map (·.2)) E put f) h.hc h.hN hy hyl hsw h.hi.pi ok (fun s H C cl fp => (h.hg s H C cl fp).uni)
    (fun s H C cl fp => ⟨fun pins s' σ H' Q I q => let ⟨p, u, q⟩ := q; (h.ht s H C cl fp p u).pt.run pins s' σ H' Q I q⟩) (fun s H C cl fp => ⟨fun pins s' σ H' Q I q => let ⟨p, q⟩ := q; (h.he s H C cl fp p).pe.run pins s' σ H' Q I q⟩) h.hs)
    fun D σ H => lc_redM h.ho h.hput h.hE h.hl σ H _
end
/-! ### statements -/
section
variable {T S S' B U : Type} {X : Cx} {W : Wx} {sh : Sh T} {E' : U → En} {E : S → En} {EB : B → En} {rest : List Stmt} {pos : Pos} {u0 : U}
theorem eb_asgM {i : Nat} {st : Stmt} {re : U → R (PyData × U)} {f : PyData → U → R (Fl T S B)} (ps : PS X st (tAsg (tM X.K W E' re) (gName i))) (h : ∀ d u, EvB X W sh ((E' u).set i (some (.val d))) E EB rest (f d u)) : EvB X W sh (E' u0) E EB (st :: rest) ((re u0).bind fun p => f p.1 p.2) := by
  refine eb_step ps ⟨_, eb_all (A := PyData × U) (r := fun p => f p.1 p.2) fun p => h p.1 p.2, fun D σ H q => ?_⟩
  obtain ⟨F, G, px, st, q⟩ := q
  refine ⟨u0, F, G, px, st, Go.bind q fun p q1 v H1 G1 e1 st1 dv => ?_⟩
  exact ⟨p, F, G1, px, st1.put dv i, q1.imp fun _ => Vs.grow e1⟩
theorem eb_setM {x : Str} {e : Expr} {pos' : Pos} {re : U → R (PyData × U)} {f : PyData → U → R (Fl T S B)} (i : Nat) (hN : X.N.Nodup) (he : EvM X W E' e re) (h : ∀ d u, EvB X W sh ((E' u).set i (some (.val d))) E EB rest (f d u)) (hi : X.N[i]? = some x := by rfl)
    (hx : Loc X.env.scope x := by first | exact Or.inl rfl | exact Or.inr rfl) (hs : swapsWith e (some (.Name x pos')) pos.line X.env = pure false := by rfl) (hf : X.fn x = true ∨ X.env.scope.names.lookup x = some .local := by first | exact .inl rfl | exact .inr rfl) :
    EvB X W sh (E' u0) E EB (.Assign [.Name x pos'] e pos :: rest) ((re u0).bind fun p => f p.1 p.2) := eb_asgM (ps_set hN hi hx he.pe hs hf) h
theorem eb_asgFM {i : Nat} {st : Stmt} {re : U → R (List PyData × U)} {f : List PyData → U → R (Fl T S B)} (ps : PS X st (tAsg (tMF X.K W E' re) (gName i))) (h : ∀ d u, EvB X W sh ((E' u).set i (some (.own d none))) E EB rest (f d u)) : EvB X W sh (E' u0) E EB (st :: rest) ((re u0).bind fun p => f p.1 p.2) := by
  refine eb_step ps ⟨_, eb_all (A := List PyData × U) (r := fun p => f p.1 p.2) fun p => h p.1 p.2, fun D σ H q => ?_⟩
  obtain ⟨F, G, px, st, q⟩ := q
  refine ⟨u0, F, G, px, st, Go.bind q fun p q1 a vs H1 G1 e1 st1 dv => ?_⟩
  exact ⟨p, F, G1, px, st1.ownP dv i, q1.imp fun _ => Vs.grow e1⟩
theorem eb_setFM {x : Str} {e : Expr} {pos' : Pos} {re : U → R (List PyData × U)} {f : List PyData → U → R (Fl T S B)} (i : Nat) (hN : X.N.Nodup) (he : EvMF X W E' e re) (h : ∀ d u, EvB X W sh ((E' u).set i (some (.own d none))) E EB rest (f d u)) (hi : X.N[i]? = some x := by rfl)
    (hx : Loc X.env.scope x := by first | exact Or.inl rfl | exact Or.inr rfl) (hs : swapsWith e (some (.Name x pos')) pos.line X.env = pure false := by rfl) (hf : X.fn x = true ∨ X.env.scope.names.lookup x = some .local := by first | exact .inl rfl | exact .inr rfl) :
    EvB X W sh (E' u0) E EB (.Assign [.Name x pos'] e pos :: rest) ((re u0).bind fun p => f p.1 p.2) := eb_asgFM (ps_set hN hi hx he.pe hs hf) h
theorem tMF_of {K : PySem.W.Frag} {r : U → R (List PyData × U)} {σ : L2.St} {H : Hp} {Q : VK} (h : tM K W E' (fun u => (r u).bind fun p => .ok (.list p.1, p.2)) σ H Q) : tMF K W E' r σ H Q := by
  obtain ⟨u, F, G, px, st, q⟩ := h
  refine ⟨u, F, G, px, st, Go.bind q fun p q1 a vs H1 G1 e1 st1 ra => ?_⟩
  have g1 := (st1.pv _ List.mem_cons_self).2.1
  exact q1 _ _ _ (e1.trans (Same.new g1)) st1.freezeP (.lst (Rd.of upd_same) (dps_same (Same.new g1) _ ra))
theorem eb_lcM {y : Str} {py spos lpos : Pos} {P : Type} {elt tg iter : Expr} {ifs : List Expr} {scope : Scope} {vs : List Nat} {dec : PyData → Option P} {put : P → En → En} {ri : U → R (List PyData × U)} {t : P → U → R Bool} {g : P → U → R (PyData × U)} {f : PyData → U → R (Fl T S B)} (i : Nat)
    (hl : LcM X W E' elt tg iter ifs scope vs dec put ri t g) (h : ∀ d u, EvB X W sh ((E' u).set i (some (.val d))) E EB rest (f d u)) (hy : X.N[i]? = some y := by rfl) (hyl : X.env.scope.names.lookup y = some .local := by rfl)
    (hsw : swapsWith (.ListComp elt [⟨tg, iter, ifs, 0⟩] scope lpos) (some (.Name y py)) spos.line X.env = pure true := by exact sw_true rfl rfl rfl (by decide +kernel)) :
    EvB X W sh (E' u0) E EB (.Assign [.Name y py] (.ListComp elt [⟨tg, iter, ifs, 0⟩] scope lpos) spos :: rest) ((lcM ri dec t g u0).bind fun p => f (.list p.1) p.2) := by
  have := eb_asgM (u0 := u0) (re := fun u => (lcM ri dec t g u).bind fun p => .ok (.list p.1, p.2)) (f := f) (E := E) (EB := EB) (sh := sh) (rest := rest) (PS.imp (set_lcM hl hy hyl hsw) fun D σ H q => tMF_of q) h
  rw [R.bind_assoc] at this
  exact this
theorem eb_retM {e : Expr} {re : U → R (PyData × U)} (he : EvM X W E' e re) (mk : PyData → U → T) (l : ∀ d u, LeE (E' u) (sh.e (mk d u))) (hv : ∀ d u, sh.v (mk d u) = d := by intro _ _; rfl) : EvB X W sh (E' u0) E EB [.Return (some e) pos] ((re u0).bind fun p => .ok (.rt (mk p.1 p.2))) := by
  refine ⟨PSs.imp (pss_one (ps_ret he.pe)) fun D σ H q => ?_⟩
  obtain ⟨F, G, px, st, q⟩ := q
  exact ⟨u0, F, G, px, st, Go.bind q fun p q1 v H1 G1 e1 st1 dv => q1 v σ H1 G1 e1 (st1.le (l p.1 p.2)) (by rw [hv]; exact dv)⟩
theorem eb_unpM {P : Type} {tg e : Expr} {vs : List Nat} {dec : PyData → Option P} {put : P → En → En} {re : U → R (PyData × U)} {f : P → U → R (Fl T S B)} (he : EvM X W E' e re) (hg : EvG X tg vs dec put) (h : ∀ p u, EvB X W sh (put p (E' u)) E EB rest (f p u))
    (hs : swapsWithSole [tg] e pos.line X.env = pure false := by rfl) (hw : swappedStores [tg] e X.env = pure none := by rfl) (h1 : (assignEach [tg] X.env).map (·.2) = [assign tg X.env] := by rfl) :
    EvB X W sh (E' u0) E EB (.Assign [tg] e pos :: rest) ((re u0).bind fun q => (R.of (dec q.1)).bind fun p => f p q.2) := by
  refine eb_step (ps_asg he.pe hg.uni hs hw h1) ⟨_, eb_all (A := P × U) (r := fun p => f p.1 p.2) fun p => h p.1 p.2, fun D σ H q => ?_⟩
  obtain ⟨F, G, px, st, q⟩ := q
  refine ⟨u0, F, G, px, st, Go.bind q fun d q1 v H1 G1 e1 st1 dv => ?_⟩
  obtain ⟨p, e2, q2⟩ := Go.of (Go.bind (P' := fun p => Go W F (f p d.2) (Vs X.K W px sh E EB F G D)) q1 fun p q => q)
  exact ⟨W, F, G1, px, _, d.1, p, st1, dv, e2, fun σ' st' _ => ⟨(p, d.2), F, G1, px, st', q2.imp fun _ => Vs.grow e1⟩⟩
/-- x, y = a, b -/
theorem eb_parM {x y : Str} {a b : Expr} {p1 p2 pt : Pos} {kt k2 pt2} {ra rb : U → R (PyData × U)} {f : PyData → PyData → U → R (Fl T S B)} (i j : Nat) (hc : X.calm = true) (hN : X.N.Nodup) (ha : EvM X W E' a ra) (hb : EvM X W E' b rb) (h : ∀ d e u, EvB X W sh (((E' u).set i (some (.val d))).set j (some (.val e))) E EB rest (f d e u))
    (hi : X.N[i]? = some x := by rfl) (hj : X.N[j]? = some y := by rfl) (hij : i ≠ j := by decide) (hx : X.env.scope.names.lookup x = some .local := by rfl) (hy : X.env.scope.names.lookup y = some .local := by rfl)
    (hw : swappedStores [.Tuple [.Name x p1, .Name y p2] kt pt] (.Tuple [a, b] k2 pt2) X.env = pure (some [x, y]) := by rfl) (hs : swapsWithSole [.Tuple [.Name x p1, .Name y p2] kt pt] (.Tuple [a, b] k2 pt2) pos.line X.env = pure false := by rfl)
    (h1 : starEach (a :: [b]) X.env = (false, eval a X.env) :: starEach [b] X.env := by rfl) (h2 : starEach (b :: []) X.env = (false, eval b X.env) :: starEach [] X.env := by rfl) :
    EvB X W sh (E' u0) E EB (.Assign [.Tuple [.Name x p1, .Name y p2] kt pt] (.Tuple [a, b] k2 pt2) pos :: rest) ((ra u0).bind fun d => (rb d.2).bind fun e => f d.1 e.1 e.2) := by
  refine eb_step (ps_par hc hN hi hj hij hx hy (pa_cons ha.pe (pa_cons hb.pe pa_nil h2) h1) hw hs) ⟨_, eb_all (A := PyData × PyData × U) (r := fun p => f p.1 p.2.1 p.2.2) fun p => h p.1 p.2.1 p.2.2, fun D σ H q => ?_⟩
  obtain ⟨F, G, px, st, q⟩ := q
  refine ⟨u0, F, G, px, st, Go.bind q fun d q1 v H1 G1 e1 st1 dv => ⟨d.2, F, G1, px, st1, Go.bind q1 fun d2 q2 v2 H2 G2 e2 st2 dv2 => ?_⟩⟩
  exact ⟨v, v2, rfl, (d.1, d2.1, d2.2), F, G2, px, (st2.put (dp_same e2 _ dv) i).put dv2 j, q2.imp fun _ => Vs.grow (e1.trans e2)⟩
/-- x, y = a, a list of one's own -/
theorem eb_parMF {x y : Str} {a b : Expr} {p1 p2 pt : Pos} {kt k2 pt2} {ra : U → R (PyData × U)} {rb : U → R (List PyData × U)} {f : PyData → List PyData → U → R (Fl T S B)} (i j : Nat) (hc : X.calm = true) (hN : X.N.Nodup) (ha : EvM X W E' a ra) (hb : EvMF X W E' b rb) (h : ∀ d e u, EvB X W sh (((E' u).set i (some (.val d))).set j (some (.own e none))) E EB rest (f d e u))
    (hi : X.N[i]? = some x := by rfl) (hj : X.N[j]? = some y := by rfl) (hij : i ≠ j := by decide) (hx : X.env.scope.names.lookup x = some .local := by rfl) (hy : X.env.scope.names.lookup y = some .local := by rfl)
    (hw : swappedStores [.Tuple [.Name x p1, .Name y p2] kt pt] (.Tuple [a, b] k2 pt2) X.env = pure (some [x, y]) := by rfl) (hs : swapsWithSole [.Tuple [.Name x p1, .Name y p2] kt pt] (.Tuple [a, b] k2 pt2) pos.line X.env = pure false := by rfl)
    (h1 : starEach (a :: [b]) X.env = (false, eval a X.env) :: starEach [b] X.env := by rfl) (h2 : starEach (b :: []) X.env = (false, eval b X.env) :: starEach [] X.env := by rfl) :
    EvB X W sh (E' u0) E EB (.Assign [.Tuple [.Name x p1, .Name y p2] kt pt] (.Tuple [a, b] k2 pt2) pos :: rest) ((ra u0).bind fun d => (rb d.2).bind fun e => f d.1 e.1 e.2) := by
  refine eb_step (ps_par hc hN hi hj hij hx hy (pa_cons ha.pe (pa_cons hb.pe pa_nil h2) h1) hw hs) ⟨_, eb_all (A := PyData × List PyData × U) (r := fun p => f p.1 p.2.1 p.2.2) fun p => h p.1 p.2.1 p.2.2, fun D σ H q => ?_⟩
  obtain ⟨F, G, px, st, q⟩ := q
  refine ⟨u0, F, G, px, st, Go.bind q fun d q1 v H1 G1 e1 st1 dv => ⟨d.2, F, G1, px, st1, Go.bind q1 fun d2 q2 p vs H2 G2 e2 st2 dv2 => ?_⟩⟩
  exact ⟨v, .ref p, rfl, (d.1, d2.1, d2.2), F, G2, px, (st2.put (dp_same e2 _ dv) i).ownP dv2 j, q2.imp fun _ => Vs.grow (e1.trans e2)⟩
theorem eb_parMG {x y : Str} {a b : Expr} {p1 p2 pt : Pos} {kt k2 pt2} {ra : U → R (List PyData × U)} {rb : U → R (PyData × U)} {f : List PyData → PyData → U → R (Fl T S B)} (i j : Nat) (hc : X.calm = true) (hN : X.N.Nodup) (ha : EvMF X W E' a ra) (hb : EvM X W E' b rb) (h : ∀ d e u, EvB X W sh (((E' u).set j (some (.val e))).set i (some (.own d none))) E EB rest (f d e u))
    (hi : X.N[i]? = some x := by rfl) (hj : X.N[j]? = some y := by rfl) (hij : i ≠ j := by decide) (hx : X.env.scope.names.lookup x = some .local := by rfl) (hy : X.env.scope.names.lookup y = some .local := by rfl)
    (hw : swappedStores [.Tuple [.Name x p1, .Name y p2] kt pt] (.Tuple [a, b] k2 pt2) X.env = pure (some [x, y]) := by rfl) (hs : swapsWithSole [.Tuple [.Name x p1, .Name y p2] kt pt] (.Tuple [a, b] k2 pt2) pos.line X.env = pure false := by rfl)
    (h1 : starEach (a :: [b]) X.env = (false, eval a X.env) :: starEach [b] X.env := by rfl) (h2 : starEach (b :: []) X.env = (false, eval b X.env) :: starEach [] X.env := by rfl) :
    EvB X W sh (E' u0) E EB (.Assign [.Tuple [.Name x p1, .Name y p2] kt pt] (.Tuple [a, b] k2 pt2) pos :: rest) ((ra u0).bind fun d => (rb d.2).bind fun e => f d.1 e.1 e.2) := by
  refine eb_step (ps_par hc hN hi hj hij hx hy (pa_cons ha.pe (pa_cons hb.pe pa_nil h2) h1) hw hs) ⟨_, eb_all (A := List PyData × PyData × U) (r := fun p => f p.1 p.2.1 p.2.2) fun p => h p.1 p.2.1 p.2.2, fun D σ H q => ?_⟩
  obtain ⟨F, G, px, st, q⟩ := q
  refine ⟨u0, F, G, px, st, Go.bind q fun d q1 p vs H1 G1 e1 st1 dv => ⟨d.2, F, G1, _, st1, Go.bind q1 fun d2 q2 v2 H2 G2 e2 st2 dv2 => ?_⟩⟩
  refine ⟨.ref p, v2, rfl, (d.1, d2.1, d2.2), F, G2, px, ?_, q2.imp fun _ => Vs.grow (e1.trans e2)⟩
  rw [List.set_comm _ _ hij]
  exact (st2.put dv2 j).ownP (dps_same e2 _ dv) i
/-- xs.append(e) -/
theorem eb_appendM {x : Str} {p apos cpos : Pos} {e : Expr} {ds : List PyData} {t : Option Addr} {re : U → R (PyData × U)} {f : List PyData → U → R (Fl T S B)} (i : Nat) (pv : PE X (.Name x p) (tVar i)) (he : EvM X W E' e re) (hi : ∀ u, (E' u)[i]? = some (some (.own ds t))) (h : ∀ es u, EvB X W sh ((E' u).set i (some (.own es t))) E EB rest (f es u))
    (hbase : attributeBase (.Name x p) "append" X.env (eval (.Name x p) X.env) = eval (.Name x p) X.env := by rfl)
    (hfew : ((backTo cpos (starEach (e :: []) X.env)).all (fun x => !x.1) && (backToKw cpos (keywordEach [] X.env)).all (fun x => x.1.isSome)
      && decide ((e :: []).length + ([] : List Keyword).length + (if ([] : List Keyword).isEmpty then 0 else 1) < 30)) = true := by rfl)
    (hline : (apos.endLine == cpos.line) = true := by rfl) (hst : starEach (e :: []) X.env = (false, eval e X.env) :: starEach [] X.env := by rfl) (hpl : (backTo cpos (starEach [] X.env)).any (·.1) = false := by rfl)
    (hs : swapsWith (.Call (.Attribute (.Name x p) "append" apos) [e] [] cpos) none pos.line X.env = pure false := by rfl) :
    EvB X W sh (E' u0) E EB (.Expr (.Call (.Attribute (.Name x p) "append" apos) [e] [] cpos) pos :: rest) ((re u0).bind fun d => (R.of (appD ds d.1)).bind fun es => f es d.2) := by
  refine eb_step (ps_expr (pe_bm PySem.F.plainAttrs_list PySem.F.slot_list_append PySem.F.type_list_append mt_append pv (pa_cons he.pe pa_nil hst) hbase hfew hline hst hpl) hs) ⟨_, eb_all (A := List PyData × U) (r := fun p => f p.1 p.2) fun p => h p.1 p.2, fun D σ H q => ?_⟩
  obtain ⟨F, G, px, st, q⟩ := q
  obtain ⟨a, vs, e1, h1, r1, _⟩ := set_set_own st (hi u0)
  refine ⟨.ref a, e1, .inl ⟨rfl, _, .inl (.inl h1)⟩, u0, F, G, px, st, Go.bind q fun d q1 v H1 G1 e1' st1 dv => ?_⟩
  obtain ⟨es, e3, q3⟩ := Go.of (Go.bind (P' := fun p => Go W F (f p d.2) (Vs X.K W px sh E EB F G D)) q1 fun p q => q)
  obtain ⟨a', vs', e1'', h2, r2, wr⟩ := set_set_own st1 (hi d.2)
  rw [e1] at e1''
  cases e1''
  unfold appD at e3
  by_cases hl : ds.length < sizeLine
  · rw [if_pos hl] at e3
    cases e3
    exact ⟨a, vs', v, rfl, rfl, h2, by rw [RpAll.len r2]; exact hl, (_, d.2), F, G1, px, wr st1 (r2.app (.one dv)), q3.imp fun _ => Vs.grow e1'⟩
  · rw [if_neg hl] at e3
    cases e3
/-- a for statement whose walked thing changes the urn -/
theorem eb_forM {P : Type} {tg iter : Expr} {body : List Stmt} {vs : List Nat} {dec : PyData → Option P} {put : P → En → En} {ri : U → R (List PyData × U)} {fb : S' → P → R (Fl T S' S')} {f : S' → R (Fl T S B)} (E2 : S' → En) (s0 : U → S') (hc : X.calm = true) (hi : EvMI X W E' tg iter ri) (l : ∀ u, LeE (E' u) (E2 (s0 u)))
    (hg : EvG X tg vs dec put) (hb : ∀ s p, EvB X W sh (put p (E2 s)) E2 E2 body (fb s p)) (h : ∀ s, EvB X W sh (E2 s) E EB rest (f s)) (hp : PassesOwn (model X.prog X.w) X.A X.env X.xe)
    (hs : ∀ x, foldedSetIterable iter X.env x = pure x := by intro _; rfl) : EvB X W sh (E' u0) E EB (.For tg iter body [] pos :: rest) ((ri u0).bind fun q => (loopR (B := B) (fun s d => (R.of (dec d)).bind (fb s)) q.1 (s0 q.2)).bind (seqF f)) := by
  refine eb_step (ps_for (tb := fun D σ H => ∃ s : S', uB X.K W sh (fun p => put p (E2 s)) E2 E2 (fb s) D σ H) hp hc hi.pi hg.uni ⟨fun pins s σ H D I q => let ⟨s', q⟩ := q; (eb_all (hb s')).run pins s σ H D I q⟩ hs) ⟨_, eb_all h, fun D σ H q => ?_⟩
  obtain ⟨F, G, px, st, q⟩ := q
  refine ⟨u0, F, G, px, st, Go.bind q fun q0 q1 J H1 G1 e1 st1 wd hz => ?_⟩
  obtain ⟨ds, u1⟩ := q0
  refine ⟨fun i m σ Hc => m = ds.length - i ∧ i ≤ ds.length ∧ ∃ (G' : Hp) (s : S'), Same G1 G' ∧ StG X.K W F px (E2 s) σ Hc G' ∧ Go W F ((loopR (B := B) (fun s d => (R.of (dec d)).bind (fb s)) (ds.drop i) s).bind (seqF f)) (Vs X.K W px sh E EB F G D),
    ⟨ds.length, by simp, Nat.zero_le _, G1, s0 u1, Same.refl _, st1.le (l u1), by simpa using q1⟩, ?_⟩
  rintro i m σc Hc ⟨rfl, hi', G', s, e2, st2, q2⟩
  by_cases hlt : i < ds.length
  · refine .inr ⟨wd.go i Hc hlt (e2.trans st2.gh), fun σn Hn => ∃ (G' : Hp) (s : S'), Same G1 G' ∧ StG X.K W F px (E2 s) σn Hn G' ∧ Go W F ((loopR (B := B) (fun s d => (R.of (dec d)).bind (fb s)) (ds.drop (i + 1)) s).bind (seqF f)) (Vs X.K W px sh E EB F G D),
      fun σn Hn hN => ⟨ds.length - (i + 1), by omega, rfl, hlt, hN⟩, fun x H' y => ?_⟩
    obtain ⟨d, G3, hd, e3, st3, rx⟩ := wd.step e2 st2 hlt y
    have hdrop : ds.drop i = d :: ds.drop (i + 1) := by
      rw [List.drop_eq_getElem_cons hlt]
      rw [List.getElem?_eq_getElem hlt] at hd
      rw [Option.some.inj hd]
    rw [hdrop] at q2
    simp only [loopR, R.bind_assoc] at q2
    obtain ⟨p, hp, q3⟩ := Go.of (Go.bind (P' := fun p => Go W F ((fb s p).bind fun fl => R.bind _ (seqF f)) (Vs X.K W px sh E EB F G D)) q2 fun p q => q)
    refine ⟨W, F, G3, px, _, d, p, st3, rx, hp, fun σ' st' _ => ⟨s, p, F, G3, px, st', Go.bind q3 fun fl q4 => ?_⟩⟩
    have e13 : Same G1 G3 := e2.trans e3
    cases fl with
    | nx s' => exact fun σ4 H4 G4 e4 st4 => ⟨G4, s', e13.trans e4, st4, q4⟩
    | ct s' => exact fun σ4 H4 G4 e4 st4 => ⟨G4, s', e13.trans e4, st4, q4⟩
    | bk s' => exact fun σ4 H4 G4 e4 st4 => ⟨s', F, G4, px, st4, (show Go W F (f s') _ from q4).imp fun _ => Vs.grow ((e1.trans e13).trans e4)⟩
    | rt t => exact fun v σ4 H4 G4 e4 st4 r => q4 v σ4 H4 G4 ((e1.trans e13).trans e4) st4 r
  · have e : i = ds.length := by omega
    subst e
    rw [List.drop_length] at q2
    exact .inl ⟨wd.stop _ Hc rfl (e2.trans st2.gh), s, F, G', px, st2, (show Go W F (f s) _ from q2).imp fun _ => Vs.grow (e1.trans e2)⟩
/-- walked things -/
theorem emi_range1 {tg a : Expr} {p : Pos} {ra : U → R (PyData × U)} (hm : X.mg "range" = none) (ha : EvM X W E' a ra) (hg : Gl X "range" := by rfl) (hs : starEach [a] X.env = [(false, eval a X.env)] := by rfl) (hs' : starEach (a :: []) X.env = (false, eval a X.env) :: starEach [] X.env := by rfl) :
    EvMI X W E' tg (.Call (.Name "range" p) [a] [] pos) (fun u => (ra u).bind fun x => (R.of (dRange1 x.1)).bind fun ds => .ok (ds, x.2)) := by
  refine ⟨PI.imp (pi_range1 hg hm (pa_cons ha.pe pa_nil hs') hs) fun σ H Rk q => ?_⟩
  obtain ⟨u, F, G, px, st, q⟩ := q
  refine ⟨u, F, G, px, st, Go.bind q fun x q1 v H1 G1 e1 st1 dv => ?_⟩
  cases e2 : dRange1 x.1 with
  | none => rw [e2] at q1; exact q1.elim
  | some ds =>
    rw [e2] at q1
    replace q1 : ∀ J H' G', Same G G' → StG X.K W F px (E' x.2) σ H' G' → WalkD X.K J G' ds → ds.length ≤ sizeLine → Rk J H' := q1
    obtain ⟨x, u1⟩ := x
    cases dv with
    | int j =>
      simp only [dRange1] at e2
      split at e2
      · rename_i h
        cases e2
        exact ⟨j, rfl, h.1, h.2.1, q1 _ H1 G1 e1 st1 walk_up (by rw [upFrom_len]; exact h.2.2)⟩
      · cases e2
    | _ => cases e2
theorem emi_seq {tg e : Expr} {r : U → R (PyData × U)} (he : EvM X W E' e r) : EvMI X W E' tg e (fun u => (r u).bind fun p => (R.of (itemsD p.1)).bind fun ds => .ok (ds, p.2)) := by
  refine ⟨⟨fun pins s σ H Rk I h => ?_⟩⟩
  obtain ⟨u, F, G, px, st, q⟩ := h
  refine thn (he.pe.run pins s σ H (fun v H1 => ∃ G1 p, Same G G1 ∧ StG X.K W F px (E' p.2) σ H1 G1 ∧ Rp X.K G1 v p.1 ∧ Go W F ((R.of (itemsD p.1)).bind fun ds => .ok (ds, p.2)) fun p => ∀ J H' G', Same G G' → StG X.K W F px (E' p.2) σ H' G' → WalkD X.K J G' p.1 → p.1.length ≤ sizeLine → Rk J H') I
    ⟨u, F, G, px, st, Go.bind q fun p q1 v H1 G1 e1 st1 dv => ⟨G1, p, e1, st1, dv, q1⟩⟩) fun u s1 ⟨x, H1, I1, r1, G1, p, e1, st1, dv, q1⟩ => ?_
  obtain ⟨d, u1⟩ := p
  obtain ⟨ds, e2, q2⟩ := Go.of (Go.bind (P' := fun ds => ∀ J H' G', Same G G' → StG X.K W F px (E' u1) σ H' G' → WalkD X.K J G' ds → ds.length ≤ sizeLine → Rk J H') q1 fun p q => q)
  cases dv with
  | @lst a xs es h1 h2 =>
    cases e2
    cases r1
    have hS := Rd.same st1.gh h1
    obtain ⟨its, rv, p, hz⟩ := I1.list (.inl hS)
    refine wpAny_pyIter_list p.isList ?_
    refine ⟨s1.heap.objs.size, [s1.heap.objs.size], _, _, H1, rfl, I1.kept (t' := s1.toks) fun b o e => Heap.get?_push_of_some _ e, turn_list a _, ⟨_, Heap.get?_push_size _ rfl, rfl, rfl⟩, fun b hb => ?_, q2 _ H1 G1 e1 st1 (walk_lst h1 h2) (by rw [← RpAll.len h2]; exact hz)⟩
    have e : b = s1.heap.objs.size := by simpa using hb
    subst e
    exact I1.fpOk (Nat.le_refl _) (I1.hok.fresh (Nat.le_refl _))
  | @tup a xs es h1 h2 =>
    cases e2
    cases r1
    have hS := Same.seqT st1.gh h1
    obtain ⟨its, rv, p, hz⟩ := I1.tuple hS
    refine wpAny_pyIter_tuple (show s1.heap.IsTuple a its.toArray from p) ?_
    refine ⟨s1.heap.objs.size, [s1.heap.objs.size], _, _, H1, rfl, I1.kept (t' := s1.toks) fun b o e => Heap.get?_push_of_some _ e, turn_tuple a _, ⟨_, Heap.get?_push_size _ rfl, rfl, rfl⟩, fun b hb => ?_, q2 _ H1 G1 e1 st1 (walk_tpl h1 h2) (by rw [← RpAll.len h2]; exact hz)⟩
    have e : b = s1.heap.objs.size := by simpa using hb
    subst e
    exact I1.fpOk (Nat.le_refl _) (I1.hok.fresh (Nat.le_refl _))
  | _ => cases e2
end
end SE

set_option maxHeartbeats 4000000
/-! zip, enumerate over lists and tuples alike -/
namespace SE
open PySem PySem.Spec PyProof.Rows L2

/-- a list (false), a tuple (true) -/
def SqK (K : PySem.W.Frag) (k : Bool) (H : Hp) (a : Addr) (xs : List V) : Prop := match k with
  | false => SqL K H a xs
  | true => SqT K H a xs
def IterK (k : Bool) (h : Heap) (it a : Addr) (i : Nat) : Prop := match k with
  | false => h.IsListIter it a i
  | true => h.IsTupleIter it a i
def HasK (k : Bool) (h : Heap) (a : Addr) (its : Array Value) : Prop := match k with
  | false => h.IsList a its
  | true => h.IsTuple a its
def itObj (k : Bool) (a : Addr) : Obj := match k with
  | false => { cls := .type "list_iterator", data := .fields #[.ref a, .int 0 0] }
  | true => { cls := .type "tuple_iterator", data := .fields #[.ref a, .int 0 0] }
section
variable {X : Cx} {pins : List (Addr × Obj)} {σ : L2.St} {H : Hp} {s : Shared}
theorem sqK_has {k : Bool} {a : Addr} {xs : List V} (I : Inv X pins σ H s) (h : SqK X.K k H a xs) : ∃ its : List Value, Vals xs its ∧ HasK k s.heap a its.toArray ∧ xs.length ≤ sizeLine ∧ a < s.heap.objs.size := by
  cases k with
  | false =>
    obtain ⟨its, rv, p, hz⟩ := I.list h
    exact ⟨its, rv, p.isList, hz, p.lt⟩
  | true =>
    obtain ⟨its, rv, p, hz⟩ := I.tuple h
    obtain ⟨o, ho, hc⟩ := id p
    exact ⟨its, rv, ⟨o, ho, hc⟩, hz, Heap.lt_size ho⟩
theorem sqK_inj {k : Bool} {a : Addr} {xs ys : List V} (I : Inv X pins σ H s) (h : SqK X.K k H a xs) (h' : SqK X.K k H a ys) : xs = ys := by
  cases k with
  | false => exact I.list_inj h h'
  | true => exact I.tuple_inj h h'
theorem drawsK {prog : Program} {w : World} {A : Around} (hh : A.handled = none) (k : Bool) (it l : Addr) (hne : l ≠ it) (items : Array Value) :
    Draws prog w A it [it, l] items.size (fun i v => items[i]? = some v) (fun i h => IterK k h it l i ∧ HasK k h l items) := by
  cases k with
  | false => exact Draws.list hh it l hne items
  | true => exact Draws.tuple hh it l hne items
theorem beginsK (k : Bool) (l : Addr) (items : Array Value) : Begins (.ref l) (itObj k l) fun h => HasK k h l items := by
  cases k with
  | false => exact begins_list l items
  | true => exact begins_tuple l items
theorem iterK_of {k : Bool} {h : Heap} {it a : Addr} (e : h.get? it = some (itObj k a)) : IterK k h it a 0 := by
  cases k with
  | false => exact ⟨_, e, rfl, rfl⟩
  | true => exact ⟨_, e, rfl, rfl⟩
theorem iterK_obj {k : Bool} {h : Heap} {it a : Addr} {i : Nat} (e : IterK k h it a i) : ∃ o, h.get? it = some o ∧ (∀ v, o.data ≠ .cell v) ∧ ∀ h' : Heap, (∀ o, h.get? it = some o → h'.get? it = some o) → IterK k h' it a i := by
  cases k with
  | false =>
    obtain ⟨o, ho, hc, hd⟩ := id e
    exact ⟨o, ho, ⟨fun v q => (by rw [hd] at q; cases q), fun h' q => Heap.IsListIter.at e fun o x => q o x⟩⟩
  | true =>
    obtain ⟨o, ho, hc, hd⟩ := id e
    exact ⟨o, ho, ⟨fun v q => (by rw [hd] at q; cases q), fun h' q => Heap.IsTupleIter.at e fun o x => q o x⟩⟩
end
/-- the two as they stand at each turn, the items in new pairs -/
def ItzG (K : PySem.W.Frag) (k k' : Bool) (a b : Addr) : It :=
  ⟨fun i H => ∃ (xs ys : List V) (x y : V), SqK K k H a xs ∧ SqK K k' H b ys ∧ xs[i]? = some x ∧ ys[i]? = some y,
    fun i H v H' => ∃ T x y, v = .ref T ∧ H T = none ∧ H' = upd H T (.tup [x, y]) ∧ (∀ xs, SqK K k H a xs → xs[i]? = some x) ∧ ∀ ys, SqK K k' H b ys → ys[i]? = some y,
    fun i H => ∃ xs ys : List V, SqK K k H a xs ∧ SqK K k' H b ys ∧ i ≤ xs.length ∧ i ≤ ys.length ∧ (i = xs.length ∨ i = ys.length)⟩
theorem sep_of {z TI TO i1 i2 a b : Addr} (D : ZipApart z TI TO i1 i2 a b) : ZipSep2 z TI TO i1 i2 [i1, a] [i2, b] where
  TIz := D.TIz
  TOz := D.TOz
  TITO := D.TITO
  TIi1 := D.TIi1
  mem1 := by simp
  zf1 := by simp only [List.mem_cons, List.not_mem_nil, or_false, not_or]; exact ⟨fun e => D.i1z e.symm, fun e => D.l1z e.symm⟩
  Tf1 := by simp only [List.mem_cons, List.not_mem_nil, or_false, not_or]; exact ⟨D.TOi1, fun e => D.l1TO e.symm⟩
  TIi2 := D.TIi2
  mem2 := by simp
  zf2 := by simp only [List.mem_cons, List.not_mem_nil, or_false, not_or]; exact ⟨fun e => D.i2z e.symm, fun e => D.l2z e.symm⟩
  Tf2 := by simp only [List.mem_cons, List.not_mem_nil, or_false, not_or]; exact ⟨D.TOi2, fun e => D.l2TO e.symm⟩
  sep1_2 := by simp only [List.mem_cons, List.not_mem_nil, or_false, not_or]; exact ⟨D.i12, fun e => D.l2i1 e.symm⟩
  sep2_1 := by simp only [List.mem_cons, List.not_mem_nil, or_false, not_or]; exact ⟨fun e => D.i12 e.symm, fun e => D.l1i2 e.symm⟩
theorem turn_zipG {P : Program} {w : World} {K : PySem.W.Frag} {elts : List Expr} {kk : Nat} {tpos : Pos} {a b z TI TO i1 i2 : Addr} (k k' : Bool) (D : ZipApart z TI TO i1 i2 a b) :
    Turn P w K (.Tuple elts kk tpos) (ItzG K k k' a b) [z, TI, TO, i1, i2] z (fun i h => IsZip h z TI TO .none ∧ IsTupOf2 h TI (.ref i1) (.ref i2) ∧ (∃ x y, IsTupOf2 h TO x y) ∧ IterK k h i1 a i ∧ IterK k' h i2 b i) where
  mem := by simp
  obj := fun i h st c hc => by
    obtain ⟨hz, hTI, ⟨x, y, hTO⟩, h1, h2⟩ := st
    obtain ⟨o1, e1, d1, _⟩ := iterK_obj h1
    obtain ⟨o2, e2, d2, _⟩ := iterK_obj h2
    have e' : c = z ∨ c = TI ∨ c = TO ∨ c = i1 ∨ c = i2 := by simpa using hc
    rcases e' with q | q | q | q | q
    · rw [q]; exact ⟨_, hz, fun v q => nomatch q⟩
    · rw [q]; exact ⟨_, hTI, fun v q => nomatch q⟩
    · rw [q]; exact ⟨_, hTO, fun v q => nomatch q⟩
    · rw [q]; exact ⟨o1, e1, d1⟩
    · rw [q]; exact ⟨o2, e2, d2⟩
  keep := fun i h h' st kp => by
    obtain ⟨hz, hTI, ⟨x, y, hTO⟩, h1, h2⟩ := st
    obtain ⟨o1, e1, d1, k1⟩ := iterK_obj h1
    obtain ⟨o2, e2, d2, k2⟩ := iterK_obj h2
    exact ⟨kp z (by simp) _ hz, kp TI (by simp) _ hTI, ⟨x, y, kp TO (by simp) _ hTO⟩, k1 h' fun o q => kp i1 (by simp) o q, k2 h' fun o q => kp i2 (by simp) o q⟩
  item := by
    intro X hP hw hK hc i pins s σ H E I hf st hg
    subst hP hw hK
    obtain ⟨hz, hTI, ⟨x0, y0, hTO⟩, h1, h2⟩ := st
    obtain ⟨xs, ys, x, y, hqx, hqy, hx, hy⟩ := hg
    obtain ⟨its, rv, p, _, _⟩ := sqK_has I hqx
    obtain ⟨its2, rv2, p2, _, _⟩ := sqK_has I hqy
    obtain ⟨u, hu, ru⟩ := rv.get hx
    obtain ⟨u2, hu2, ru2⟩ := rv2.get hy
    have hzl : z < s.heap.objs.size := Heap.lt_size hz
    have hh : X.A.handled = none := I.ok.hd hc
    have l1 : i < its.toArray.size := by rw [List.size_toArray]; exact (List.getElem?_eq_some_iff.mp hu).1
    have l2 : i < its2.toArray.size := by rw [List.size_toArray]; exact (List.getElem?_eq_some_iff.mp hu2).1
    refine wpAny_pyNext_zipD2_item (sep_of D) (drawsK (A := X.A.in1) hh k i1 a D.l1i1 its.toArray) (drawsK (A := X.A.in1) hh k' i2 b D.l2i2 its2.toArray) hz hTI hTO ⟨h1, p⟩ ⟨h2, p2⟩ l1 l2 fun v1 v2 h' tk q1 q2 z' TO' st1 st2 hT hsz hk => ?_
    have e1 : v1 = u := by simp at q1 hu; rw [q1] at hu; exact Option.some.inj hu
    have e2 : v2 = u2 := by simp at q2 hu2; rw [q2] at hu2; exact Option.some.inj hu2
    subst e1 e2
    refine ⟨_, rfl, wpAny_letOwnedTupleGo_zip (s := { s with heap := h', toks := tk }) z' fun h'' z'' sb => ?_⟩
    have hT2 : h''.get? s.heap.objs.size = some { cls := .type "tuple", data := .seq #[v1, v2] } := (sb.2 _ (Nat.ne_of_gt hzl)).trans hT
    have new : ObjOk X.prog X.w (upd H s.heap.objs.size (.tup [x, y])) h'' s.heap.objs.size (.tup [x, y]) :=
      ⟨by show 2 ≤ sizeLine; decide, [v1, v2], .cons ru (.cons ru2 .nil), ⟨_, hT2, rfl, _, rfl⟩⟩
    have kk : ∀ c o, c ∉ [z, TI, TO, i1, i2] → s.heap.get? c = some o → h''.get? c = some o := fun c o hb q =>
      (sb.2 c (fun q' => hb (by simp [q']))).trans (hk c o (fun q' => hb (by simp [q'])) (fun q' => hb (by simp [q'])) (fun q' => hb (by simp [q'])) (fun q' => hb (by simp [q'])) q)
    have I1 : Inv X pins σ (upd H s.heap.objs.size (.tup [x, y])) { s with heap := h'', toks := tk } :=
      I.turnedNew (t' := tk) (ch := [z, TI, TO, i1, i2]) (fun c o hb q => kk c o hb q) hf (Nat.le_refl _) new
    obtain ⟨o1, f1, _, k1⟩ := iterK_obj st1.1
    obtain ⟨o2, f2, _, k2⟩ := iterK_obj st2.1
    refine ⟨.ref s.heap.objs.size, _, I1, rfl, ⟨_, x, y, rfl, I.hok.fresh (Nat.le_refl _), rfl, fun l hl => by rw [sqK_inj I hl hqx]; exact hx, fun l hl => by rw [sqK_inj I hl hqy]; exact hy⟩, ⟨z'', ?_, ⟨v1, v2, ?_⟩, ?_, ?_⟩, fun c hcm => ?_⟩
    · exact (sb.2 _ D.TIz).trans (hk _ _ D.TIz D.TITO D.TIi1 D.TIi2 hTI)
    · exact (sb.2 _ D.TOz).trans TO'
    · exact k1 h'' fun o q => (sb.2 _ D.i1z).trans q
    · exact k2 h'' fun o q => (sb.2 _ D.i2z).trans q
    · have hlt : c < s.heap.objs.size := by
        obtain ⟨_, g1, _⟩ := iterK_obj h1
        obtain ⟨_, g2, _⟩ := iterK_obj h2
        have e' : c = z ∨ c = TI ∨ c = TO ∨ c = i1 ∨ c = i2 := by simpa using hcm
        rcases e' with q | q | q | q | q
        · rw [q]; exact hzl
        · rw [q]; exact Heap.lt_size hTI
        · rw [q]; exact Heap.lt_size hTO
        · rw [q]; exact Heap.lt_size g1
        · rw [q]; exact Heap.lt_size g2
      rw [upd_ne (Nat.ne_of_lt hlt)]
      exact (hf c hcm).1
  done := by
    intro X hP hw hK hc i pins s σ H E I hf st hg
    subst hP hw hK
    obtain ⟨hz, hTI, ⟨x0, y0, hTO⟩, h1, h2⟩ := st
    obtain ⟨xs, ys, hqx, hqy, b1, b2, hend⟩ := hg
    obtain ⟨its, rv, p, _, _⟩ := sqK_has I hqx
    obtain ⟨its2, rv2, p2, _, _⟩ := sqK_has I hqy
    have l1 := rv.length
    have l2 := rv2.length
    have hh : X.A.handled = none := I.ok.hd hc
    refine wpAny_pyNext_zipD2_end (sep_of D) (drawsK (A := X.A.in1) hh k i1 a D.l1i1 its.toArray) (drawsK (A := X.A.in1) hh k' i2 b D.l2i2 its2.toArray) hz hTI hTO ⟨h1, p⟩ ⟨h2, p2⟩ (by rw [List.size_toArray]; omega) (by rw [List.size_toArray]; omega) (by rw [List.size_toArray, List.size_toArray]; omega) fun h' tk hk => ?_
    exact ⟨rfl, I.turnedL (t' := tk) (ch := [z, TI, TO, i1, i2]) (fun c o hb q => hk c o (fun q' => hb (by simp [q'])) (fun q' => hb (by simp [q'])) (fun q' => hb (by simp [q'])) (fun q' => hb (by simp [q'])) q) hf⟩
  self := fun A i s Q E st h => wpAny_pyIter_zip st.1 h
def pairs : List PyData → List PyData → List PyData
  | d :: ds, e :: es => .tuple [d, e] :: pairs ds es
  | _, _ => []
theorem pairs_len : ∀ (ds es : List PyData), (pairs ds es).length = min ds.length es.length
  | [], _ => by simp [pairs]
  | _ :: _, [] => by simp [pairs]
  | d :: ds, e :: es => by simp [pairs, pairs_len ds es]
theorem pairs_get : ∀ {ds es : List PyData} {i : Nat} {d e : PyData}, ds[i]? = some d → es[i]? = some e → (pairs ds es)[i]? = some (.tuple [d, e])
  | [], _, _, _, _, h, _ => by simp at h
  | _ :: _, [], _, _, _, _, h => by simp at h
  | d :: ds, e :: es, 0, _, _, h, h' => by simp at h h'; subst h h'; rfl
  | d :: ds, e :: es, i + 1, _, _, h, h' => by
    simp only [pairs, List.getElem?_cons_succ] at h h' ⊢
    exact pairs_get h h'
theorem sqK_rp {K : PySem.W.Frag} {G : Hp} {v : V} {d : PyData} {ds : List PyData} (h : Rp K G v d) (e : itemsD d = some ds) : ∃ (k : Bool) (a : Addr) (xs : List V), v = .ref a ∧ SqK K k G a xs ∧ RpAll K G xs ds := by
  cases h with
  | lst h1 h2 => cases e; exact ⟨false, _, _, rfl, .inl h1, h2⟩
  | tup h1 h2 => cases e; exact ⟨true, _, _, rfl, h1, h2⟩
  | _ => cases e
theorem Same.sqK {K : PySem.W.Frag} {k : Bool} {H H' : Hp} {a : Addr} {xs : List V} (e : Same H H') (h : SqK K k H a xs) : SqK K k H' a xs := by
  cases k with
  | false => exact Same.seqL e h
  | true => exact Same.seqT e h
theorem walk_zip {K : PySem.W.Frag} {G : Hp} {k k' : Bool} {a b : Addr} {xs ys : List V} {ds es : List PyData} (h1 : SqK K k G a xs) (h2 : RpAll K G xs ds) (h3 : SqK K k' G b ys) (h4 : RpAll K G ys es) : WalkD K (ItzG K k k' a b) G (pairs ds es) where
  go := fun i H hi e => by
    rw [pairs_len] at hi
    obtain ⟨x, g1, _⟩ := h2.get (List.getElem?_eq_getElem (show i < ds.length by omega))
    obtain ⟨y, g2, _⟩ := h4.get (List.getElem?_eq_getElem (show i < es.length by omega))
    exact ⟨xs, ys, x, y, Same.sqK e h1, Same.sqK e h3, g1, g2⟩
  stop := fun i H hi e => by
    rw [pairs_len] at hi
    have l1 := RpAll.len h2
    have l2 := RpAll.len h4
    exact ⟨xs, ys, Same.sqK e h1, Same.sqK e h3, by omega, by omega, by omega⟩
  yld := fun i H x H' hi e y => by
    rw [pairs_len] at hi
    obtain ⟨T, u, v, rfl, hT, rfl, f1, f2⟩ := y
    obtain ⟨d, g1, r1⟩ := h2.get' (f1 xs (Same.sqK e h1))
    obtain ⟨d', g2, r2⟩ := h4.get' (f2 ys (Same.sqK e h3))
    exact ⟨_, pairs_get g1 g2, .inr ⟨T, u, v, d, d', rfl, hT, rfl, r1, r2, rfl⟩⟩
def iZipG (K : PySem.W.Frag) (ta : TA) : TI := fun σ H R => ta σ H fun vs H1 => ∃ k k' a b xs ys, vs = [.ref a, .ref b] ∧ SqK K k H1 a xs ∧ SqK K k' H1 b ys ∧ R (ItzG K k k' a b) H1
section
variable {X : Cx} {W : Wx} {ρ : En} {pos p tpos : Pos} {elts : List Expr} {kk : Nat} {a b : Expr}
theorem pi_zipG {ta : TA} (hg : Gl X "zip") (hm : X.mg "zip" = none) (ha : PA X [a, b] ta)
    (hs : starEach [a, b] X.env = (false, eval a X.env) :: starEach [b] X.env := by rfl) (hpl : (backTo pos (starEach [b] X.env)).any (·.1) = false := by rfl) :
    PI X (.Tuple elts kk tpos) (.Call (.Name "zip" p) [a, b] [] pos) (iZipG X.K ta) := by
  refine ⟨fun pins s σ H R I h => ?_⟩
  refine Call_ (ld_blt I hg hm PyProof.Rows.boot_zip (PyProof.Rows.callWith_type1 (thn (ha.run pos pins s σ H _ I h) fun us s1 ⟨vs, H1, I1, r1, q1⟩ => ?_) hs hpl))
  obtain ⟨k, k', a1, b1, xs, ys, ex, hqx, hqy, q⟩ := q1
  subst ex
  cases r1 with
  | cons r rr =>
    cases rr with
    | cons r' rr =>
      cases rr
      cases r
      cases r'
      obtain ⟨its, rv, p1, _, la⟩ := sqK_has I1 hqx
      obtain ⟨its2, rv2, p2, _, lb⟩ := sqK_has I1 hqy
      refine zip_begins2 (beginsK k a1 its.toArray) (beginsK k' b1 its2.toArray) p1 p2 fun h' hz hTI hTO h1 h2 hsz hk => wpAny_pyIter_zip hz ?_
      have I2 : Inv X pins σ H1 { s1 with heap := h' } := I1.kept (t' := s1.toks) hk
      refine ⟨s1.heap.objs.size + 4, [s1.heap.objs.size + 4, s1.heap.objs.size + 2, s1.heap.objs.size + 3, s1.heap.objs.size, s1.heap.objs.size + 1], _, _, H1, rfl, I2, turn_zipG k k' (PySem.W.ktu_apart s1.heap.objs.size a1 b1 la lb), ⟨hz, hTI, ⟨_, _, hTO⟩, iterK_of h1, iterK_of h2⟩, fun c hcm => ?_, q⟩
      have e' : c = s1.heap.objs.size + 4 ∨ c = s1.heap.objs.size + 2 ∨ c = s1.heap.objs.size + 3 ∨ c = s1.heap.objs.size ∨ c = s1.heap.objs.size + 1 := by simpa using hcm
      have hle : s1.heap.objs.size ≤ c := by
        rcases e' with z | z | z | z | z <;> rw [z]
        · exact Nat.le_add_right _ _
        · exact Nat.le_add_right _ _
        · exact Nat.le_add_right _ _
        · exact Nat.le_refl _
        · exact Nat.le_add_right _ _
      exact I1.fpOk hle (I1.hok.fresh hle)
def dZip : List PyData → Option (List PyData)
  | [x, y] => match itemsD x, itemsD y with
    | some xs, some ys => some (pairs xs ys)
    | _, _ => none
  | _ => none
theorem zip_rp {K : PySem.W.Frag} {G H : Hp} {vs : List V} {ds es : List PyData} (e : Same G H) (r : RpAll K G vs ds) (h : dZip ds = some es) (hz : ∀ k a xs, SqK K k H a xs → xs.length ≤ sizeLine) :
    ∃ k k' a b xs ys, vs = [.ref a, .ref b] ∧ SqK K k H a xs ∧ SqK K k' H b ys ∧ WalkD K (ItzG K k k' a b) G es := by
  match ds, r, h with
  | [d1, d2], .cons r1 (.cons r2 .nil), h =>
    simp only [dZip] at h
    cases e1 : itemsD d1 with
    | none => rw [e1] at h; cases h
    | some xs =>
      cases e2 : itemsD d2 with
      | none => rw [e1, e2] at h; cases h
      | some ys =>
        rw [e1, e2] at h
        cases h
        obtain ⟨k, a, us, rfl, g1, g2⟩ := sqK_rp r1 e1
        obtain ⟨k', b, ws, rfl, g3, g4⟩ := sqK_rp r2 e2
        exact ⟨k, k', a, b, us, ws, rfl, Same.sqK e g1, Same.sqK e g3, walk_zip g1 g2 g3 g4⟩
theorem seq_le {k : Bool} {a : Addr} {xs : List V} {X : Cx} {pins : List (Addr × Obj)} {σ : L2.St} {H : Hp} {s : Shared} (I : Inv X pins σ H s) (h : SqK X.K k H a xs) : xs.length ≤ sizeLine := (sqK_has I h).choose_spec.2.2.1
theorem PI.impI {X : Cx} {tg e : Expr} {t t' : TI} (h : PI X tg e t) (i : ∀ pins s σ H Q, Inv X pins σ H s → t' σ H Q → t σ H Q) : PI X tg e t' := ⟨fun pins s σ H Q I q => h.run pins s σ H Q I (i pins s σ H Q I q)⟩
/-- the pairs' number is within the line: told by dZip's own test -/
def dZipL (ds : List PyData) : Option (List PyData) := match dZip ds with
  | some es => if es.length ≤ sizeLine then some es else none
  | none => none
theorem dZipL_some {ds es : List PyData} (h : dZipL ds = some es) : dZip ds = some es ∧ es.length ≤ sizeLine := by
  unfold dZipL at h
  cases e : dZip ds with
  | none => rw [e] at h; cases h
  | some xs =>
    rw [e] at h
    by_cases hl : xs.length ≤ sizeLine
    · simp only [if_pos hl] at h
      cases h
      exact ⟨rfl, hl⟩
    · simp only [if_neg hl] at h
      cases h
theorem ei_zip {ra : R (List PyData)} (hm : X.mg "zip" = none) (ha : EvA X W ρ [a, b] ra) (hg : Gl X "zip" := by rfl)
    (hs : starEach [a, b] X.env = (false, eval a X.env) :: starEach [b] X.env := by rfl) (hpl : (backTo pos (starEach [b] X.env)).any (·.1) = false := by rfl) :
    EvI X W ρ (.Tuple elts kk tpos) (.Call (.Name "zip" p) [a, b] [] pos) (ra.bind fun ds => R.of (dZipL ds)) := by
  refine ⟨PI.imp (pi_zipG hg hm ha.pa hs hpl) fun σ H Rk h => ?_⟩
  obtain ⟨F, G, px, st, q⟩ := h
  refine ⟨F, G, px, st, Go.bind q fun ds q1 vs H1 G1 e1 st1 rv => ?_⟩
  obtain ⟨es, e2, q2⟩ := Go.of q1
  obtain ⟨e2, hl⟩ := dZipL_some e2
  match ds, rv, e2 with
  | [d1, d2], .cons r1 (.cons r2 .nil), e2 =>
    simp only [dZip] at e2
    cases e3 : itemsD d1 with
    | none => rw [e3] at e2; cases e2
    | some xs =>
      cases e4 : itemsD d2 with
      | none => rw [e3, e4] at e2; cases e2
      | some ys =>
        rw [e3, e4] at e2
        cases e2
        obtain ⟨k, a, us, rfl, g1, g2⟩ := sqK_rp r1 e3
        obtain ⟨k', b, ws, rfl, g3, g4⟩ := sqK_rp r2 e4
        exact ⟨k, k', a, b, us, ws, rfl, Same.sqK st1.gh g1, Same.sqK st1.gh g3, q2 _ H1 G1 e1 st1 (walk_zip g1 g2 g3 g4) hl⟩
theorem emi_zip {U : Type} {E' : U → En} {n : Nat} {ra : U → R (List PyData × U)} (hm : X.mg "zip" = none) (ha : EvMA X W E' n [a, b] ra) (hg : Gl X "zip" := by rfl)
    (hs : starEach [a, b] X.env = (false, eval a X.env) :: starEach [b] X.env := by rfl) (hpl : (backTo pos (starEach [b] X.env)).any (·.1) = false := by rfl) :
    EvMI X W E' (.Tuple elts kk tpos) (.Call (.Name "zip" p) [a, b] [] pos) (fun u => (ra u).bind fun q => (R.of (dZipL q.1)).bind fun ds => .ok (ds, q.2)) := by
  refine ⟨PI.imp (pi_zipG hg hm ha.pa hs hpl) fun σ H Rk h => ?_⟩
  obtain ⟨u, F, G, px, st, q⟩ := h
  refine ⟨u, F, G, px, st, Go.bind q fun q' q1 vs H1 G1 e1 st1 rv => ?_⟩
  obtain ⟨ds, u1⟩ := q'
  obtain ⟨es, e2, q2⟩ := Go.of (Go.bind (P' := fun ds => ∀ J H' G', Same G G' → StG X.K W F px (E' u1) σ H' G' → WalkD X.K J G' ds → ds.length ≤ sizeLine → Rk J H') q1 fun p q => q)
  obtain ⟨e2, hl⟩ := dZipL_some e2
  match ds, rv, e2 with
  | [d1, d2], .cons r1 (.cons r2 .nil), e2 =>
    simp only [dZip] at e2
    cases e3 : itemsD d1 with
    | none => rw [e3] at e2; cases e2
    | some xs =>
      cases e4 : itemsD d2 with
      | none => rw [e3, e4] at e2; cases e2
      | some ys =>
        rw [e3, e4] at e2
        cases e2
        obtain ⟨k, a, us, rfl, g1, g2⟩ := sqK_rp r1 e3
        obtain ⟨k', b, ws, rfl, g3, g4⟩ := sqK_rp r2 e4
        exact ⟨k, k', a, b, us, ws, rfl, Same.sqK st1.gh g1, Same.sqK st1.gh g3, q2 _ H1 G1 e1 st1 (walk_zip g1 g2 g3 g4) hl⟩
/-- 0, 1, .. beside the items -/
def numbered : Nat → List PyData → List PyData
  | _, [] => []
  | i, d :: ds => .tuple [.int (i : Nat), d] :: numbered (i + 1) ds
theorem numbered_len : ∀ (i : Nat) (ds : List PyData), (numbered i ds).length = ds.length
  | _, [] => rfl
  | i, _ :: ds => congrArg (· + 1) (numbered_len (i + 1) ds)
theorem numbered_get : ∀ {ds : List PyData} {j i : Nat} {d : PyData}, ds[i]? = some d → (numbered j ds)[i]? = some (.tuple [.int ((j + i : Nat) : Int), d])
  | [], _, _, _, h => by simp at h
  | d :: ds, j, 0, _, h => by simp at h; subst h; rfl
  | d :: ds, j, i + 1, _, h => by
    simp only [numbered, List.getElem?_cons_succ] at h ⊢
    rw [numbered_get h, show j + 1 + i = j + (i + 1) by omega]
theorem walk_enum {K : PySem.W.Frag} {G : Hp} {a : Addr} {xs : List V} {ds : List PyData} (h1 : SqL K G a xs) (h2 : RpAll K G xs ds) : WalkD K (Ite K a) G (numbered 0 ds) where
  go := fun i H hi e => by
    rw [numbered_len] at hi
    obtain ⟨x, g1, _⟩ := h2.get (List.getElem?_eq_getElem hi)
    exact ⟨xs, x, Same.seqL e h1, g1⟩
  stop := fun i H hi e => by
    rw [numbered_len] at hi
    exact ⟨xs, Same.seqL e h1, by rw [RpAll.len h2]; omega⟩
  yld := fun i H x H' hi e y => by
    obtain ⟨T, v, rfl, hT, rfl, f1⟩ := y
    obtain ⟨d, g1, r1⟩ := h2.get' (f1 xs (Same.seqL e h1))
    refine ⟨_, numbered_get g1, .inr ⟨T, _, v, .int (i : Nat), d, rfl, hT, rfl, .int _, r1, ?_⟩⟩
    rw [Nat.zero_add]
def dEnumL : PyData → Option (List PyData)
  | .list ds => if ds.length ≤ sizeLine then some (numbered 0 ds) else none
  | _ => none
/-- enumerate of a list -/
theorem ei_enumL {ra : R PyData} (hm : X.mg "enumerate" = none) (ha : EvR X W ρ a ra) (hg : Gl X "enumerate" := by rfl) (hs : starEach [a] X.env = [(false, eval a X.env)] := by rfl) (hs' : starEach (a :: []) X.env = (false, eval a X.env) :: starEach [] X.env := by rfl) :
    EvI X W ρ (.Tuple elts kk tpos) (.Call (.Name "enumerate" p) [a] [] pos) (ra.bind fun d => R.of (dEnumL d)) := by
  refine ⟨PI.imp (pi_enum hg hm (pa_cons ha.pe pa_nil hs') hs) fun σ H Rk h => ?_⟩
  obtain ⟨F, G, px, st, q⟩ := h
  refine ⟨F, G, px, st, Go.bind q fun d q1 v H1 G1 e1 st1 rv => ?_⟩
  obtain ⟨es, e2, q2⟩ := Go.of q1
  cases rv with
  | @lst a xs ds h1 h2 =>
    simp only [dEnumL] at e2
    by_cases hl : ds.length ≤ sizeLine
    · rw [if_pos hl] at e2
      cases e2
      exact ⟨a, xs, rfl, .inl (Rd.same st1.gh h1), q2 _ H1 G1 e1 st1 (walk_enum (.inl h1) h2) (by rw [numbered_len]; exact hl)⟩
    · rw [if_neg hl] at e2
      cases e2
  | _ => cases e2
end
end SE

/-! set(xs), xs a tuple of tuples of whole numbers -/
namespace SE
open PySem PySem.Spec PyProof.Rows L2 TS
/-- each once -/
def _root_.List.dedup' : List Int → List Int
  | [] => []
  | x :: l => if x ∈ l.dedup' then l.dedup' else x :: l.dedup'
theorem _root_.List.mem_dedup' : ∀ (l : List Int) (k : Int), k ∈ l.dedup' ↔ k ∈ l
  | [], k => Iff.rfl
  | x :: l, k => by
    have ih := l.mem_dedup' k
    unfold List.dedup'
    split
    · rename_i h
      rw [ih, List.mem_cons]
      constructor
      · exact .inr
      · rintro (rfl | h')
        · exact (l.mem_dedup' _).mp h
        · exact h'
    · rw [List.mem_cons, List.mem_cons, ih]
theorem _root_.List.dedup'_nodup : ∀ l : List Int, l.dedup'.Nodup
  | [] => List.nodup_nil
  | x :: l => by
    unfold List.dedup'
    split
    · exact l.dedup'_nodup
    · rename_i h
      exact List.nodup_cons.mpr ⟨h, l.dedup'_nodup⟩
theorem _root_.List.dedup'_len : ∀ l : List Int, l.dedup'.length ≤ l.length
  | [] => Nat.le_refl _
  | x :: l => by
    have := l.dedup'_len
    unfold List.dedup'
    split <;> simp only [List.length_cons] <;> omega
section
variable {P : Program} {w : World} {A : Around} {E : Value → Shared → Prop} {s : Shared}
/-- a set of nothing, just made -/
abbrev set0 (w : World) : Obj := { cls := .type "set", dict := none, data := .set #[] 0 (.fresh 0 0 (!w.params.followText "set-order")) }
abbrev heap1 (w : World) (s : Shared) : Heap := s.heap.push (set0 w)
theorem none_from {h : Heap} {b : Addr} (hb : h.objs.size ≤ b) : h.get? b = none := by
  cases q : h.get? b with
  | none => rfl
  | some o => exact absurd (Heap.lt_size q) (Nat.not_lt.mpr hb)
/-- what set.__init__ is wanted to end with -/
abbrev Inited (E : Value → Shared → Prop) (s : Shared) (N : Heap → Prop) : PySem.Result → Shared → Prop := wants (fun r s2 => r = Value.none ∧ ∃ (h' : Heap) (tk : Nat), s2 = { s with heap := h', toks := tk } ∧ N h') E
abbrev InitEnd (P : Program) (w : World) (A : Around) (E : Value → Shared → Prop) (s : Shared) (N : Heap → Prop) : PySem.Fin → Shared → Prop := fun fin s' => match fin with
  | .done f => Inited E s N (.ok f) s'
  | .again c' => c'.quiet = true ∧ codeAny (model P w) A.in1 c' (Inited E s N) s'
set_option maxHeartbeats 3200000 in
/-- set(x): what its __init__ does over a new set -/
theorem set_frame {x : Value} {N : Heap → Prop} {Q : Value → Shared → Prop} (init : wpAny (model P w) A.in1.in1 (Builtin.«set.__init__» ⟨[.ref s.heap.objs.size, x], []⟩) (InitEnd P w A E s N) (fun e s' => Inited E s N (.error e) s') { s with heap := heap1 w s })
    (goal : ∀ h' tk, N h' → Q (.ref s.heap.objs.size) { s with heap := h', toks := tk }) : wpAny (model P w) A (call (.type "set") [x]) Q E s := by
  have ⟨c, tl, mro⟩ := F.called_set.mro
  have k1 := F.called_set.made; have k2 := F.called_set.sub; have k3 := F.called_set.notType; have k4 := F.called_set.canCreate; have k5 := F.typeCall_set_1 x
  apply wpAny_call; apply codeAny_of_tree
  show wpAny _ _ (callAny (.type "set") _) _ _ _
  apply wpAny_pure; refine ⟨Code.quiet_builtin _ (by decide +kernel), codeAny_builtin F.entry_type_call ?_⟩
  rw [Around.under_plain (weight_type_call_type "set" [x] []) rfl]
  repeat (any_goals (first | wp_step | assumption))
  apply codeAny_mono (code_set_led1 x (E := E) (Q₁ := fun y s1 => y = .ref s.heap.objs.size ∧ s1 = { s with heap := heap1 w s }) ⟨rfl, rfl⟩)
  intro r s1 hr
  match r, hr with
  | .error e, hr => exact hr
  | .ok (.ret y), hr =>
    obtain ⟨rfl, rfl⟩ := hr
    have g0 : (heap1 w s).get? s.heap.objs.size = some (set0 w) := Heap.get?_push_size _ rfl
    have ty : Shared.TypeIs { s with heap := heap1 w s } (.ref s.heap.objs.size) "set" := ⟨_, g0, rfl⟩
    have k6 := F.called_set.init.lookup; have k7 := F.called_set.init.bind (.ref s.heap.objs.size)
    repeat (any_goals (first | wp_step | assumption))
    apply codeAny_mono (codeAny_call_builtin (R := Inited E s N) F.called_set.init.plain F.entry_set_init (check_set_init_1 ty init))
    intro r2 s2 h2
    match r2, h2 with
    | .error e, h2 => exact h2
    | .ok (.ret r), h2 =>
      obtain ⟨rfl, h', tk, e2, g⟩ := h2
      subst e2
      repeat (any_goals (first | wp_step | assumption))
      exact goal _ _ g
set_option maxHeartbeats 3200000 in
theorem set_tupT {l : Addr} {items : Array Value} (ks : List (Addr × List Int)) {Q : Value → Shared → Prop} (hh : A.handled = none) (hl : s.heap.IsTuple l items) (hit : items.toList = ks.map fun p => Value.ref p.1)
    (hk : ∀ p ∈ ks, IsT P w s.heap p.2 p.1) (hfew : ks.length < 64) (hu : A.units + 3 < cLine)
    (goal : ∀ h' tk, (∃ L es ep t, SetTR P w h' s.heap.objs.size L es ep t ∧ Got ks ks.length L ∧ ∀ b o, s.heap.get? b = some o → h'.get? b = some o) → Q (.ref s.heap.objs.size) { s with heap := h', toks := tk }) : wpAny (model P w) A (call (.type "set") [.ref l]) Q E s := by
  refine set_frame ?_ goal
  have sz : items.size = ks.length := by rw [← Array.length_toList, hit, List.length_map]
  have hl0 := hl
  obtain ⟨⟨oc, od, oa, os⟩, ho, hc, nl, hd⟩ := hl0
  simp only at hc hd
  subst hc; subst hd
  have g0 : (heap1 w s).get? s.heap.objs.size = some (set0 w) := Heap.get?_push_size _ rfl
  have ty : Shared.TypeIs { s with heap := heap1 w s } (.ref s.heap.objs.size) "set" := ⟨_, g0, rfl⟩
  have ho1 := Heap.get?_push_of_some (set0 w) ho
  have hl1 : (heap1 w s).IsTuple l items := ⟨_, ho1, rfl, nl, rfl⟩
  have k8 := F.sub_tuple_set; have k9 := F.sub_tuple_frozenset
  have nd : (Value.type "tuple" == Value.type "dict") = false := by decide
  unfold Builtin.«set.__init__» noKeywords Builtin.Frozenset.updateFrom
  generalize hI : pyIter = I0
  wp_walk
  subst hI
  apply wpAny_pyIter_tuple hl1
  apply wpAny_bind; apply wpAny_runValue
  have lS : l < s.heap.objs.size := Heap.lt_size ho
  have z1 : (heap1 w s).objs.size = s.heap.objs.size + 1 := Heap.size_push ..
  have hh3 : A.in1.in1.in1.handled = none := by simp [hh]
  have ne1 : l ≠ (heap1 w s).objs.size := Nat.ne_of_lt (z1 ▸ Nat.lt_succ_of_lt lS)
  have ne2 : s.heap.objs.size ∉ [(heap1 w s).objs.size, l] := by
    intro z
    rcases List.mem_cons.mp z with z | z
    · exact absurd (z.trans z1) (Nat.ne_of_lt (Nat.lt_succ_self _))
    · exact Nat.ne_of_gt lS (List.mem_singleton.mp z)
  have at_ : ∀ (i : Nat) (v : Value), items[i]? = some v → ∃ p, ks[i]? = some p ∧ v = .ref p.1 := by
    intro i v hv
    have q : (ks.map fun p => Value.ref p.1)[i]? = some v := by rw [← hit, Array.getElem?_toList]; exact hv
    rw [List.getElem?_map] at q
    obtain ⟨p, hp, e⟩ := Option.map_eq_some_iff.mp q
    exact ⟨p, hp, e.symm⟩
  refine set_update_tups ((Walks.tuple hh3 _ l ne1 items).toS) s.heap.objs.size ne2 ks sz hfew at_ s.heap hk (none_from (Nat.le_refl _)) ?_ hu (items.size - 0) 0 _ (by omega) (Nat.zero_le _) ⟨⟨_, Heap.get?_push_size _ rfl, rfl, rfl⟩, (hl1.push _)⟩
    (fun b o e => Heap.get?_push_of_some _ (Heap.get?_push_of_some _ e)) ⟨[], #[], 0, _, setTR_fresh (Heap.get?_push_of_some _ g0), Got.zero ks⟩ ?_
  · intro b hb
    rw [List.mem_singleton.mp hb]
    exact none_from (Nat.le_trans (Nat.le_succ _) (Nat.le_of_eq z1.symm))
  · intro s' L es ep t hm hS g hkp
    rw [sz] at g
    obtain ⟨h', g2, d', tk', os'⟩ := s'
    have e1 : g2 = s.gens := hm.gens
    have e2 : d' = s.drawn := hm.drawn
    have e3 : os' = s.os := hm.os
    subst e1; subst e2; subst e3
    show wpAny _ _ _ _ _ _
    apply wpAny_pure
    show wpAny _ _ (ret Value.none) _ _ _
    exact wpAny_pure ⟨rfl, h', tk', rfl, L, es, ep, t, hS, g, hkp⟩
set_option maxHeartbeats 3200000 in
theorem set_lstI {l : Addr} {items : Array Value} (ns : List Int) {Q : Value → Shared → Prop} (hh : A.handled = none) (hl : s.heap.IsList l items) (hit : PyProof.Rows.IntsAre items.toList ns) (hb : ns.length + 1 < scanBound)
    (goal : ∀ h' tk, (∃ c, SetR w h' s.heap.objs.size (fun j => decide (j ∈ ns)) c ∧ ∀ b o, s.heap.get? b = some o → h'.get? b = some o) → Q (.ref s.heap.objs.size) { s with heap := h', toks := tk }) : wpAny (model P w) A (call (.type "set") [.ref l]) Q E s := by
  refine set_frame ?_ goal
  have sz : items.size = ns.length := by rw [← Array.length_toList]; exact PyProof.Rows.IntsAre.length hit
  have hl0 := hl
  obtain ⟨⟨oc, od, oa, os⟩, ho, hc, nl, hd⟩ := hl0
  simp only at hc hd
  subst hc; subst hd
  have g0 : (heap1 w s).get? s.heap.objs.size = some (set0 w) := Heap.get?_push_size _ rfl
  have ty : Shared.TypeIs { s with heap := heap1 w s } (.ref s.heap.objs.size) "set" := ⟨_, g0, rfl⟩
  have ho1 := Heap.get?_push_of_some (set0 w) ho
  have hl1 : (heap1 w s).IsList l items := ⟨_, ho1, rfl, nl, rfl⟩
  have k8 := F.sub_list_set; have k9 := F.sub_list_frozenset
  have nd : (Value.type "list" == Value.type "dict") = false := by decide
  unfold Builtin.«set.__init__» noKeywords Builtin.Frozenset.updateFrom
  generalize hI : pyIter = I0
  wp_walk
  subst hI
  apply wpAny_pyIter_list hl1
  apply wpAny_bind; apply wpAny_runValue
  have lS : l < s.heap.objs.size := Heap.lt_size ho
  have z1 : (heap1 w s).objs.size = s.heap.objs.size + 1 := Heap.size_push ..
  have hh3 : A.in1.in1.in1.handled = none := by simp [hh]
  have ne1 : l ≠ (heap1 w s).objs.size := Nat.ne_of_lt (z1 ▸ Nat.lt_succ_of_lt lS)
  have ne2 : s.heap.objs.size ∉ [(heap1 w s).objs.size, l] := by
    intro z
    rcases List.mem_cons.mp z with z | z
    · exact absurd (z.trans z1) (Nat.ne_of_lt (Nat.lt_succ_self _))
    · exact Nat.ne_of_gt lS (List.mem_singleton.mp z)
  have at_ : ∀ (i : Nat) (v : Value), items[i]? = some v → ∃ k t, ns[i]? = some k ∧ v = .int k t := by
    intro i v hv
    have hi : i < ns.length := by rw [← sz]; exact (Array.getElem?_eq_some_iff.mp hv).1
    obtain ⟨t, e⟩ := PyProof.Rows.IntsAre.int_at hit i v (by rw [Array.getElem?_toList]; exact hv)
    exact ⟨ns[i], t, List.getElem?_eq_getElem hi, by rw [e, List.getD_eq_getElem?_getD, List.getElem?_eq_getElem hi]; rfl⟩
  refine set_update_ints ((Walks.list hh3 _ l ne1 items).toS) s.heap.objs.size ne2 ns sz hb at_ (items.size - 0) 0 _ (by omega) (Nat.zero_le _) ⟨⟨_, Heap.get?_push_size _ rfl, rfl, rfl⟩, (hl1.push _)⟩ ⟨0, Nat.le_refl 0, setR_new_at (Heap.get?_push_of_some _ g0)⟩ ?_
  intro s' c hm hc hS
  obtain ⟨h', g2, d', tk', os'⟩ := s'
  have e1 : g2 = s.gens := hm.gens
  have e2 : d' = s.drawn := hm.drawn
  have e3 : os' = s.os := hm.os
  subst e1; subst e2; subst e3
  show wpAny _ _ _ _ _ _
  apply wpAny_pure
  show wpAny _ _ (ret Value.none) _ _ _
  refine wpAny_pure ⟨rfl, h', tk', rfl, c, hS, fun b o e => hm.heap b o ?_ (Heap.get?_push_of_some _ (Heap.get?_push_of_some _ e))⟩
  have hb0 : b < s.heap.objs.size := Heap.lt_size e
  intro z
  rcases List.mem_cons.mp z with z | z
  · exact Nat.ne_of_lt hb0 z
  · exact Nat.ne_of_lt (Nat.lt_succ_of_lt hb0) ((List.mem_singleton.mp z).trans z1)
end
section
variable {X : Cx}
/-- set(xs), xs a tuple of tuples of ints -/
def rSetTT (K : PySem.W.Frag) (P : Program) (w : World) : List V → Hp → VK → Prop := fun xs H Q => ∃ (l : Addr) (ks : List (Addr × List Int)), xs = [V.ref l] ∧ SqT K H l (ks.map fun p => V.ref p.1) ∧ (∀ p ∈ ks, SqT K H p.1 (p.2.map V.int)) ∧ ks.length < 64 ∧
  ∀ a L, H a = none → (∀ p ∈ L, p ∈ ks) → (∀ p ∈ ks, p.2 ∈ L.map (·.2)) → Q (.ref a) (upd H a (SetTO P w a L))
theorem cr_setTT (hc : X.calm = true) (hu : X.A.units + 64 < cLine) : CallR X (.type "set") (rSetTT X.K X.prog X.w) := by
  intro pins s σ H xs us Q I r h
  obtain ⟨l, ks, rfl, hl, hk, hf, q⟩ := h
  rw [Vals.ref1 r]
  obtain ⟨its, rv, pl, hz⟩ := I.tuple hl
  refine set_tupT (P := X.prog) (w := X.w) ks (I.ok.hd hc) pl (by simpa using refs_of_vals rv) (fun p hp => I.isT (hk p hp)) hf (by omega) fun h' tk g => ?_
  obtain ⟨L, es, ep, t, R, g, k⟩ := g
  refine ⟨.ref s.heap.objs.size, upd H s.heap.objs.size (SetTO X.prog X.w s.heap.objs.size L), I.laid (t' := tk) k (Nat.le_refl _) (setTO_new R.t0), rfl, q _ L (I.hok.fresh (Nat.le_refl _)) (fun p hp => List.mem_of_mem_take (g.sub p hp)) fun p hp => g.all p ?_⟩
  rw [List.take_length]
  exact hp
/-- .. or a list of such -/
def rSetAny (K : PySem.W.Frag) (P : Program) (w : World) : List V → Hp → VK → Prop := fun xs H Q => ∃ (l : Addr) (ks : List (Addr × List Int)), xs = [V.ref l] ∧ (SqL K H l (ks.map fun p => V.ref p.1) ∨ SqT K H l (ks.map fun p => V.ref p.1)) ∧
  (∀ p ∈ ks, SqT K H p.1 (p.2.map V.int)) ∧ ks.length < 64 ∧ ∀ a L, H a = none → (∀ p ∈ L, p ∈ ks) → (∀ p ∈ ks, p.2 ∈ L.map (·.2)) → Q (.ref a) (upd H a (SetTO P w a L))
theorem cr_setAny (hc : X.calm = true) (hu : X.A.units + 64 < cLine) : CallR X (.type "set") (rSetAny X.K X.prog X.w) := by
  intro pins s σ H xs us Q I r h
  obtain ⟨l, ks, e, hl, q⟩ := h
  rcases hl with hl | hl
  · exact cr_setOfT hc hu pins s σ H xs us Q I r ⟨l, ks, e, hl, q⟩
  · exact cr_setTT hc hu pins s σ H xs us Q I r ⟨l, ks, e, hl, q⟩
/-- set(xs), xs a list or a tuple of ints -/
def rSetI (K : PySem.W.Frag) (w : World) : List V → Hp → VK → Prop := fun xs H Q => ∃ (l : Addr) (ns : List Int), xs = [V.ref l] ∧ (SqL K H l (ns.map V.int) ∨ SqT K H l (ns.map V.int)) ∧ ns.length < 64 ∧
  ∀ a c, H a = none → c ≤ ns.length → (∀ ms : List Int, ms.Nodup → (∀ k, k ∈ ms ↔ k ∈ ns) → ms.length = c) → Q (.ref a) (upd H a (SetO w a (fun j => decide (j ∈ ns)) c))
theorem setR_count {w : World} {h : Heap} {a : Addr} {ns : List Int} {c : Nat} (R : SetR w h a (fun j => decide (j ∈ ns)) c) (ms : List Int) (nd : ms.Nodup) (hm : ∀ k, k ∈ ms ↔ k ∈ ns) : ms.length = c := by
  obtain ⟨o, es, ep, t, ho, hex, hd, hg, hnd, hs, hb, hf, hn, _⟩ := R
  have p : ms.Perm (es.toList.map keyOf) := (List.perm_ext_iff_of_nodup nd hnd).mpr fun k => by
    rw [← hs, hm, decide_eq_true_eq]
  have := p.length_eq
  rw [List.length_map, Array.length_toList] at this
  exact this.trans hn
theorem cr_setI (hc : X.calm = true) : CallR X (.type "set") (rSetI X.K X.w) := by
  intro pins s σ H xs us Q I r h
  obtain ⟨l, ns, rfl, hl, hf, q⟩ := h
  rw [Vals.ref1 r]
  have few : ns.length + 1 < scanBound := by unfold scanBound; omega
  have fin : ∀ (h' : Heap) (tk c : Nat), SetR X.w h' s.heap.objs.size (fun j => decide (j ∈ ns)) c → (∀ b o, s.heap.get? b = some o → h'.get? b = some o) → EP X pins σ Q (.ref s.heap.objs.size) { s with heap := h', toks := tk } := fun h' tk c R k => by
    have cl : c ≤ ns.length := by
      have := setR_count R (ns.dedup') (ns.dedup'_nodup) (ns.mem_dedup')
      have := ns.dedup'_len
      omega
    exact ⟨.ref s.heap.objs.size, upd H s.heap.objs.size (SetO X.w s.heap.objs.size (fun j => decide (j ∈ ns)) c), I.laid (t' := tk) k (Nat.le_refl _) (setO_new R), rfl, q _ c (I.hok.fresh (Nat.le_refl _)) cl (setR_count R)⟩
  rcases hl with hl | hl
  · obtain ⟨its, rv, pl, hz⟩ := I.list hl
    exact set_lstI (P := X.prog) (w := X.w) ns (I.ok.hd hc) pl.isList (by simpa using intsAre_of rv) few fun h' tk ⟨c, R, k⟩ => fin h' tk c R k
  · obtain ⟨its, rv, pl, hz⟩ := I.tuple hl
    exact call_set_tupI (P := X.prog) (w := X.w) ns (I.ok.hd hc) pl (by simpa using intsAre_of rv) few fun h' tk c R _ k => fin h' tk c R k
/-- len(a set of ints) -/
def rLenSetI (w : World) : List V → Hp → VK → Prop := fun vs H Q => ∃ (a : Addr) (S : Int → Bool) (n : Nat), vs = [V.ref a] ∧ H a = some (SetO w a S n) ∧ n < 64 ∧ Q (.int (n : Nat)) H
theorem cr_lenSetI : CallR X (.builtin "len") (rLenSetI X.w) := by
  intro pins s σ H vs us Q I r h
  obtain ⟨a, S, n, rfl, ha, hn, q⟩ := h
  rw [Vals.ref1 r]
  obtain ⟨o, es, ep, t, ho, hex, hd, _, _, _, hb, hf, e, _⟩ := setO_get I ha
  exact call_len_set ho hex hd hf (by omega) ⟨.int (n : Nat), H, I.tok _, ⟨_, by rw [e]⟩, q⟩
end
end SE

set_option maxHeartbeats 4000000
/-! slices, lists made anew, sorted sets of tuples -/
namespace SE
open PySem PySem.Spec PyProof.Rows L2

/-! ### slices -/
def cutD (ds : List PyData) (lo hi : Option Int) : List PyData := (ds.drop (HT.sIx ds.length 0 lo)).take (HT.sIx ds.length ds.length hi - HT.sIx ds.length 0 lo)
def dSlice : PyData → Option Int → Option Int → Option PyData
  | .list ds, lo, hi => some (.list (cutD ds lo hi))
  | .tuple ds, lo, hi => some (.tuple (cutD ds lo hi))
  | .dict [(.none, .list ds)], lo, hi => some (.list (cutD ds lo hi))
  | _, _, _ => none
/-- a part of a slice -/
def tOI (K : PySem.W.Frag) (W : Wx) (ρ : En) (r : R (Option Int)) : TO := fun σ H Q => ∃ F G px, StG K W F px ρ σ H G ∧ Go W F r fun o => ∀ H' G', Same G G' → StG K W F px ρ σ H' G' → Q o H'
structure EvO (X : Cx) (W : Wx) (ρ : En) (e : Option Expr) (r : R (Option Int)) : Prop where
  po : PO X e (tOI X.K W ρ r)
theorem PO.imp {X : Cx} {e : Option Expr} {t t' : TO} (h : PO X e t) (i : ∀ σ H Q, t' σ H Q → t σ H Q) : PO X e t' := ⟨fun pins s σ H Q I q => h.run pins s σ H Q I (i σ H Q q)⟩
def asI : PyData → R (Option Int)
  | .int i => .ok (some i)
  | _ => .no
theorem cutD_rp {K : PySem.W.Frag} {G : Hp} {xs : List V} {ds : List PyData} (h : RpAll K G xs ds) (lo hi : Option Int) : RpAll K G (cutV xs lo hi) (cutD ds lo hi) := by
  unfold cutV cutD
  rw [RpAll.len h]
  exact (h.drop _).take _
section
variable {X : Cx} {W : Wx} {ρ : En} {pos p2 : Pos}
theorem eo_none : EvO X W ρ none (.ok none) := ⟨PO.imp po_none fun σ H Q h => by
  obtain ⟨F, G, px, st, q⟩ := h
  exact q H G (Same.refl G) st⟩
theorem eo_some {e : Expr} {r : R PyData} (h : EvR X W ρ e r) : EvO X W ρ (some e) (r.bind asI) := ⟨PO.imp (po_some h.pe) fun σ H Q h => by
  obtain ⟨F, G, px, st, q⟩ := h
  refine ⟨F, G, px, st, Go.bind q fun d q1 v H1 G1 e1 st1 dv => ?_⟩
  cases dv with
  | int i => exact ⟨i, rfl, q1 H1 G1 e1 st1⟩
  | _ => exact q1.elim⟩
theorem sl_seq : SlR X (fun x lo hi H Q => rSlL X.K x lo hi H Q ∨ rSlA X.K x lo hi H Q) := sl_list.or sl_tupA
theorem ev_sl {e : Expr} {lo hi : Option Expr} {re : R PyData} {rl rh : R (Option Int)} (he : EvR X W ρ e re) (hl : EvO X W ρ lo rl) (hh : EvO X W ρ hi rh) : EvR X W ρ (.Subscript e (.Slice lo hi none p2) pos) (re.bind fun d => rl.bind fun l => rh.bind fun h => R.of (dSlice d l h)) := by
  refine ⟨PE.imp (pe_slice sl_seq he.pe hl.po hh.po) fun σ H Q h => ?_⟩
  obtain ⟨F, G, px, st, q⟩ := h
  refine ⟨F, G, px, st, Go.bind q fun d q1 v H1 G1 e1 st1 dv => ⟨F, G1, px, st1, Go.bind q1 fun l q2 H2 G2 e2 st2 => ⟨F, G2, px, st2, Go.bind q2 fun h q3 H3 G3 e3 st3 => ?_⟩⟩⟩
  obtain ⟨d', e4, q4⟩ := Go.of q3
  have q5 := q4.grow ((e1.trans e2).trans e3)
  have dv' := dp_same (e2.trans e3) _ dv
  cases dv' with
  | @lst a xs ds h1 h2 =>
    cases e4
    exact .inl ⟨a, xs, rfl, .inl (Rd.same st3.gh h1), q5.newL st3 (cutD_rp h2 l h)⟩
  | @kl a xs ds h1 h2 =>
    cases e4
    exact .inl ⟨a, xs, rfl, Same.seqL st3.gh h1, q5.newL st3 (cutD_rp h2 l h)⟩
  | @tup a xs ds h1 h2 =>
    cases e4
    refine .inr ⟨a, xs, rfl, Same.seqT st3.gh h1, fun hw => ?_, fun _ => q5.newT st3 (cutD_rp h2 l h)⟩
    have : cutD ds l h = ds := by
      unfold cutD
      rw [← RpAll.len h2, hw.1, hw.2, List.drop_zero, Nat.sub_zero, RpAll.len h2, List.take_length]
    rw [this] at q5
    exact q5.at st3 (.tup h1 h2)
  | _ => cases e4
/-! ### lists made anew -/
theorem ef_lst {es : List Expr} {rs : List (R PyData)} (h : EvA X W ρ es (seqR rs)) (hl : decide (rs.length ≤ 100000) = true := by rfl) : EvF X W ρ (.List es pos) (seqR rs) := by
  refine ⟨PE.imp (pe_lst h.pa) fun σ H Q h => ?_⟩
  obtain ⟨F, G, px, st, q⟩ := h
  cases e : seqR rs with
  | ok ds =>
    rw [e] at q
    refine ⟨F, G, px, st, fun vs H1 G1 e1 st1 dv => ⟨?_, fun p hp => ?_⟩⟩
    · rw [RpAll.len dv, seqR_len e]
      exact sz_dec hl
    · exact q p vs _ G1 e1 (st1.newP hp) dv
  | ex _ _ => rw [e] at q; exact ⟨F, G, px, st, q⟩
  | no => rw [e] at q; exact q.elim
def repD : List PyData → PyData → Option (List PyData)
  | ds, .int k => if (-(2 ^ 63) ≤ k ∧ k < 2 ^ 63) ∧ ds.length * k.toNat ≤ sizeLine then some (List.replicate k.toNat ds).flatten else none
  | _, _ => none
theorem rp_rep {K : PySem.W.Frag} {G : Hp} {xs : List V} {ds : List PyData} (h : RpAll K G xs ds) : ∀ n : Nat, RpAll K G (List.replicate n xs).flatten (List.replicate n ds).flatten
  | 0 => .nil
  | n + 1 => by
    rw [List.replicate_succ, List.replicate_succ, List.flatten_cons, List.flatten_cons]
    exact h.app (rp_rep h n)
/-- [..] * n -/
theorem ef_rep {a b : Expr} {ra : R (List PyData)} {rb : R PyData} (ha : EvF X W ρ a ra) (hb : EvR X W ρ b rb) : EvF X W ρ (.BinOp a .Mult b pos) (ra.bind fun ds => rb.bind fun k => R.of (repD ds k)) := by
  refine ⟨PE.imp (pe_op op_rep ha.pe hb.pe) fun σ H Q h => ?_⟩
  obtain ⟨F, G, px, st, q⟩ := h
  refine ⟨F, G, px, st, Go.bind q fun ds q1 p vs H1 G1 e1 st1 rv => ⟨F, G1, _, st1, Go.bind q1 fun k q2 w H2 G2 e2 st2 rk => ?_⟩⟩
  obtain ⟨es, e3, q3⟩ := Go.of q2
  cases rk with
  | int k =>
    simp only [repD] at e3
    split at e3
    · rename_i hh
      cases e3
      have pv := st2.pv _ List.mem_cons_self
      have rv2 := dps_same e2 _ rv
      refine ⟨p, k, vs, rfl, rfl, pv.1, hh.1.1, hh.1.2, by rw [RpAll.len rv2]; exact hh.2, fun p' hp' => ?_⟩
      exact q3 p' _ _ _ ((e1.trans e2).trans (Same.new pv.2.1)) (st2.freezeP.newP hp') (rp_rep (dps_same (Same.new pv.2.1) _ rv2) _)
    · cases e3
  | _ => cases e3
/-- xs + [..]: a new list -/
theorem ef_add {a b : Expr} {ra rb : R PyData} (ha : EvR X W ρ a ra) (hb : EvR X W ρ b rb) : EvF X W ρ (.BinOp a .Add b pos) (ra.bind fun x => rb.bind fun y => R.of (match x, y with | .list ds, .list es => if ds.length + es.length ≤ sizeLine then some (ds ++ es) else none | _, _ => none)) := by
  refine ⟨PE.imp (pe_op op_catL ha.pe hb.pe) fun σ H Q h => ?_⟩
  obtain ⟨F, G, px, st, q⟩ := h
  refine ⟨F, G, px, st, Go.bind q fun d q1 v H1 G1 e1 st1 rv => ⟨F, G1, _, st1, Go.bind q1 fun d2 q2 w H2 G2 e2 st2 rw' => ?_⟩⟩
  obtain ⟨es, e3, q3⟩ := Go.of q2
  have rv2 := dp_same e2 _ rv
  cases rv2 with
  | @lst a xs ds h1 h2 =>
    cases rw' with
    | @lst b ys es g1 g2 =>
      simp only at e3
      split at e3
      · rename_i hh
        cases e3
        refine ⟨a, b, xs, ys, rfl, rfl, Rd.same st2.gh h1, Rd.same st2.gh g1, by rw [RpAll.len h2, RpAll.len g2]; exact hh, fun p' hp' => ?_⟩
        exact q3 p' _ _ G2 (e1.trans e2) (st2.newP hp') (h2.app g2)
      · cases e3
    | _ => cases e3
  | _ => cases rw' <;> cases e3
/-- list(e) -/
theorem ef_list {x : Str} {e : Expr} {p : Pos} {re : R PyData} (hm : X.mg x = none) (hv : bootBuiltins x = some (.type "list")) (he : EvR X W ρ e re) (hg : Gl X x := by rfl) (hn : x ≠ "__name__" := by decide) (hdb : (x == ("__debug__" : Str)) = false := by decide)
    (hst : starEach (e :: []) X.env = (false, eval e X.env) :: starEach [] X.env := by rfl) (hpl : (backTo pos (starEach [] X.env)).any (·.1) = false := by rfl) :
    EvF X W ρ (.Call (.Name x p) [e] [] pos) (re.bind fun d => R.of (itemsD d)) := by
  refine ⟨PE.imp (pe_callTy call_list_of hg hm hv (pa_cons he.pe pa_nil hst) hn hdb hst hpl) fun σ H Q h => ?_⟩
  obtain ⟨F, G, px, st, q⟩ := h
  refine ⟨F, G, px, st, Go.bind q fun d q1 v H1 G1 e1 st1 rv => ?_⟩
  obtain ⟨es, e3, q3⟩ := Go.of q1
  cases rv with
  | @lst a ys _ h1 h2 => cases e3; exact ⟨a, ys, rfl, .inl (.inl (Rd.same st1.gh h1)), fun p' hp' => q3 p' _ _ G1 e1 (st1.newP hp') h2⟩
  | @tup a ys _ h1 h2 => cases e3; exact ⟨a, ys, rfl, .inr (Same.seqT st1.gh h1), fun p' hp' => q3 p' _ _ G1 e1 (st1.newP hp') h2⟩
  | _ => cases e3
theorem ef_one {op} {a : Expr} {ra : R (List PyData)} (ha : EvF X W ρ a ra) : EvF X W ρ (.BoolOp op [a] pos) ra := ⟨pe_one ha.pe⟩
/-- xs or ys, both new lists -/
theorem ef_or {a b : Expr} {rest : List Expr} {ra rb : R (List PyData)} (ha : EvF X W ρ a ra) (hb : EvF X W ρ (.BoolOp .Or (b :: rest) pos) rb) : EvF X W ρ (.BoolOp .Or (a :: b :: rest) pos) (ra.bind fun ds => if ds.isEmpty = true then rb else .ok ds) := by
  refine ⟨PE.imp (pe_orT ha.pe hb.pe) fun σ H Q h => ?_⟩
  obtain ⟨F, G, px, st, q⟩ := h
  refine ⟨F, G, px, st, Go.bind q fun ds q1 p vs H1 G1 e1 st1 rv => ?_⟩
  have pv := st1.pv _ List.mem_cons_self
  refine ⟨!vs.isEmpty, .inl ⟨vs, .inl (.inl pv.1), rfl⟩, ?_⟩
  cases ds with
  | nil =>
    cases rv
    rw [if_neg (by simp)]
    exact ⟨F, _, px, st1.freezeP, (show Go W F rb _ from q1).imp fun es q2 p' ws H' G' e' st' r' => q2 p' ws H' G' (e1.trans ((Same.new pv.2.1).trans e')) st' r'⟩
  | cons d ds =>
    cases rv with
    | cons r rs =>
      rw [if_pos (by simp)]
      exact q1 p _ H1 G1 e1 st1 (.cons r rs)
end
/-! ### sorted(set(..)) of tuples of whole numbers -/
def insD (x : List Int) : List (List Int) → List (List Int)
  | [] => [x]
  | y :: t => if x = y then y :: t else if HT.lexLt x y = true then x :: y :: t else y :: insD x t
def sortDed : List (List Int) → List (List Int)
  | [] => []
  | x :: t => insD x (sortDed t)
def asTups : List PyData → Option (List (List Int))
  | [] => some []
  | .tuple ds :: r => (asInts ds).bind fun ns => (asTups r).map (ns :: ·)
  | _ :: _ => none
def tupI (ns : List Int) : PyData := .tuple (ns.map .int)
def tupsOk (d : Nat) (rows : List (List Int)) : Bool := rows.all fun r => decide (r.length = d) && r.all fun m => decide (0 ≤ m) && decide (m < 2 ^ 62)
/-- ascending, each once -/
def insI (x : Int) : List Int → List Int
  | [] => [x]
  | y :: l => if x < y then x :: y :: l else if x = y then y :: l else y :: insI x l
def sortI : List Int → List Int
  | [] => []
  | x :: l => insI x (sortI l)
theorem mem_insI {x z : Int} : ∀ {l : List Int}, z ∈ insI x l ↔ z = x ∨ z ∈ l
  | [] => by simp [insI]
  | y :: l => by
    unfold insI
    split
    · simp
    · split
      · rename_i h; subst h; simp
      · rw [List.mem_cons, mem_insI, List.mem_cons]
        constructor
        · rintro (h | h | h)
          · exact .inr (.inl h)
          · exact .inl h
          · exact .inr (.inr h)
        · rintro (h | h | h)
          · exact .inr (.inl h)
          · exact .inl h
          · exact .inr (.inr h)
theorem mem_sortI {z : Int} : ∀ {l : List Int}, z ∈ sortI l ↔ z ∈ l
  | [] => Iff.rfl
  | x :: l => by rw [sortI, mem_insI, List.mem_cons, mem_sortI]
theorem asc_insI {x : Int} : ∀ {l : List Int}, l.Pairwise (· < ·) → (insI x l).Pairwise (· < ·)
  | [], _ => by simp [insI]
  | y :: l, h => by
    have h0 := h
    obtain ⟨h1, h2⟩ := List.pairwise_cons.mp h
    unfold insI
    split
    · rename_i c
      refine List.pairwise_cons.mpr ⟨fun z hz => ?_, h0⟩
      rcases List.mem_cons.mp hz with rfl | hz
      · exact c
      · have := h1 z hz; omega
    · split
      · exact h0
      · refine List.pairwise_cons.mpr ⟨fun z hz => ?_, asc_insI h2⟩
        rcases mem_insI.mp hz with rfl | hz
        · omega
        · exact h1 z hz
theorem asc_sortI : ∀ l : List Int, (sortI l).Pairwise (· < ·)
  | [] => List.Pairwise.nil
  | x :: l => asc_insI (asc_sortI l)
theorem asc_uniq : ∀ {l m : List Int}, l.Pairwise (· < ·) → m.Pairwise (· < ·) → (∀ z, z ∈ l ↔ z ∈ m) → l = m
  | [], [], _, _, _ => rfl
  | [], y :: m, _, _, h => by have := (h y).mpr List.mem_cons_self; simp at this
  | x :: l, [], _, _, h => by have := (h x).mp List.mem_cons_self; simp at this
  | x :: l, y :: m, hl, hm, h => by
    obtain ⟨h1, h2⟩ := List.pairwise_cons.mp hl
    obtain ⟨h3, h4⟩ := List.pairwise_cons.mp hm
    have exy : x = y := by
      have a := (h x).mp List.mem_cons_self
      have b := (h y).mpr List.mem_cons_self
      rcases List.mem_cons.mp a with a | a
      · exact a
      · rcases List.mem_cons.mp b with b | b
        · exact b.symm
        · have := h1 y b; have := h3 x a; omega
    subst exy
    congr 1
    refine asc_uniq h2 h4 fun z => ?_
    have q := h z
    rw [List.mem_cons, List.mem_cons] at q
    constructor
    · intro hz
      rcases q.mp (.inr hz) with e | e
      · have := h1 z hz; omega
      · exact e
    · intro hz
      rcases q.mpr (.inr hz) with e | e
      · have := h3 z hz; omega
      · exact e
theorem asc_nodup {l : List Int} (h : l.Pairwise (· < ·)) : l.Nodup := h.imp fun h => by omega
def dSortSet (d : PyData) : Option (List PyData) :=
  (itemsD d).bind fun ds => match asInts ds with
    | some ns => if ns.length < 64 then some ((sortI ns).map .int) else none
    | none => (asTups ds).bind fun rows => if rows.length < 64 ∧ (∃ d ∈ List.range 16, 1 ≤ d ∧ tupsOk d rows = true) then some ((sortDed rows).map tupI) else none
/-- len(set(..)) of ints -/
def dLenSet (d : PyData) : Option PyData := (itemsD d).bind fun ds => (asInts ds).bind fun ns => if ns.length < 64 then some (.int (sortI ns).length) else none
theorem lx_irr : ∀ x : List Int, HT.lexLt x x = false
  | [] => rfl
  | x :: xs => by rw [HT.lexLt_cons, if_pos rfl]; exact lx_irr xs
theorem lx_tr : ∀ {x y z : List Int}, HT.lexLt x y = true → HT.lexLt y z = true → HT.lexLt x z = true
  | [], [], _, h, _ => by cases h
  | [], _ :: _, [], _, h => by cases h
  | [], _ :: _, _ :: _, _, _ => rfl
  | _ :: _, [], _, h, _ => by cases h
  | _ :: _, _ :: _, [], _, h => by cases h
  | x :: xs, y :: ys, z :: zs, h, h' => by
    rw [HT.lexLt_cons] at h h' ⊢
    by_cases e : x = y
    · rw [if_pos e] at h
      subst e
      by_cases e2 : x = z
      · rw [if_pos e2] at h' ⊢
        exact lx_tr h h'
      · rw [if_neg e2] at h' ⊢
        exact h'
    · rw [if_neg e] at h
      have h := of_decide_eq_true h
      by_cases e2 : y = z
      · subst e2
        rw [if_neg e]
        exact decide_eq_true h
      · rw [if_neg e2] at h'
        have h' := of_decide_eq_true h'
        rw [if_neg (by omega)]
        exact decide_eq_true (by omega)
theorem lx_tot : ∀ {x y : List Int}, x ≠ y → HT.lexLt x y = false → HT.lexLt y x = true
  | [], [], h, _ => absurd rfl h
  | [], _ :: _, _, h => by cases h
  | _ :: _, [], _, _ => rfl
  | x :: xs, y :: ys, h, h' => by
    rw [HT.lexLt_cons] at h' ⊢
    by_cases e : x = y
    · subst e
      rw [if_pos rfl] at h' ⊢
      exact lx_tot (fun z => h (by rw [z])) h'
    · rw [if_neg e] at h'
      rw [if_neg (fun z => e z.symm)]
      have := of_decide_eq_false h'
      exact decide_eq_true (by omega)
theorem lx_code {B : Int} : ∀ {x y : List Int}, x.length = y.length → TS.Bd B x → TS.Bd B y → HT.lexLt x y = true → TS.code B x < TS.code B y
  | [], [], _, _, _, h => by cases h
  | [], _ :: _, h, _, _, _ => by cases h
  | _ :: _, [], h, _, _, _ => by cases h
  | x :: xs, y :: ys, hl, hx, hy, h => by
    have hl' : xs.length = ys.length := Nat.succ.inj hl
    rw [HT.lexLt_cons] at h
    by_cases e : x = y
    · subst e
      rw [if_pos rfl] at h
      exact (TS.code_same hl').mpr (lx_code hl' hx.tail hy.tail h)
    · rw [if_neg e] at h
      exact TS.code_lt hl' hx.tail hy.tail (of_decide_eq_true h)
abbrev Lx (l : List (List Int)) : Prop := l.Pairwise fun a b => HT.lexLt a b = true
theorem mem_insD {x z : List Int} : ∀ {l : List (List Int)}, z ∈ insD x l ↔ z = x ∨ z ∈ l
  | [] => by simp [insD]
  | y :: t => by
    unfold insD
    by_cases e : x = y
    · subst e
      simp
    · rw [if_neg e]
      by_cases h : HT.lexLt x y = true
      · rw [if_pos h]; simp
      · rw [if_neg h, List.mem_cons, mem_insD, List.mem_cons]
        constructor
        · rintro (h | h | h) <;> simp [h]
        · rintro (h | h | h) <;> simp [h]
theorem lx_insD {x : List Int} : ∀ {l : List (List Int)}, Lx l → Lx (insD x l)
  | [], _ => by simp [insD]
  | y :: t, h => by
    unfold insD
    obtain ⟨h1, h2⟩ := List.pairwise_cons.mp h
    by_cases e : x = y
    · rw [if_pos e]; exact h
    · rw [if_neg e]
      by_cases hl : HT.lexLt x y = true
      · rw [if_pos hl]
        refine List.pairwise_cons.mpr ⟨fun z hz => ?_, h⟩
        rcases List.mem_cons.mp hz with rfl | hz
        · exact hl
        · exact lx_tr hl (h1 z hz)
      · rw [if_neg hl]
        refine List.pairwise_cons.mpr ⟨fun z hz => ?_, lx_insD h2⟩
        rcases mem_insD.mp hz with rfl | hz
        · exact lx_tot e (by simpa using hl)
        · exact h1 z hz
theorem mem_sortDed {z : List Int} : ∀ {l : List (List Int)}, z ∈ sortDed l ↔ z ∈ l
  | [] => by simp [sortDed]
  | x :: t => by rw [sortDed, mem_insD, mem_sortDed, List.mem_cons]
theorem lx_sortDed : ∀ l : List (List Int), Lx (sortDed l)
  | [] => .nil
  | x :: t => lx_insD (lx_sortDed t)
theorem lx_uniq : ∀ {l m : List (List Int)}, Lx l → Lx m → (∀ z, z ∈ l ↔ z ∈ m) → l = m
  | [], [], _, _, _ => rfl
  | [], y :: _, _, _, h => absurd ((h y).mpr List.mem_cons_self) (by simp)
  | x :: _, [], _, _, h => absurd ((h x).mp List.mem_cons_self) (by simp)
  | x :: l, y :: m, hl, hm, h => by
    obtain ⟨a1, a2⟩ := List.pairwise_cons.mp hl
    obtain ⟨b1, b2⟩ := List.pairwise_cons.mp hm
    have e : x = y := by
      rcases List.mem_cons.mp ((h x).mp List.mem_cons_self) with e | e
      · exact e
      · rcases List.mem_cons.mp ((h y).mpr List.mem_cons_self) with e' | e'
        · exact e'.symm
        · have := lx_tr (a1 y e') (b1 x e)
          rw [lx_irr] at this
          cases this
    subst e
    rw [lx_uniq a2 b2 fun z => ⟨fun hz => ?_, fun hz => ?_⟩]
    · rcases List.mem_cons.mp ((h z).mp (List.mem_cons_of_mem _ hz)) with e | e
      · have := a1 z hz
        rw [e, lx_irr] at this
        cases this
      · exact e
    · rcases List.mem_cons.mp ((h z).mpr (List.mem_cons_of_mem _ hz)) with e | e
      · have := b1 z hz
        rw [e, lx_irr] at this
        cases this
      · exact e
theorem rows_ks {K : PySem.W.Frag} {G : Hp} : ∀ {xs : List V} {ds : List PyData} {rows : List (List Int)}, RpAll K G xs ds → asTups ds = some rows → ∃ ks : List (Addr × List Int), xs = ks.map (fun p => V.ref p.1) ∧ ks.map (·.2) = rows ∧ ∀ p ∈ ks, SqT K G p.1 (p.2.map V.int)
  | _, _, _, .nil, h => by cases h; exact ⟨[], rfl, rfl, fun _ m => by cases m⟩
  | _, d :: ds, rows, .cons r rs, h => by
    cases r with
    | @tup a ys es h1 h2 =>
      simp only [asTups] at h
      cases e1 : asInts es with
      | none => rw [e1] at h; cases h
      | some ns =>
        rw [e1] at h
        cases e2 : asTups ds with
        | none => simp [e2] at h
        | some rs' =>
          simp [e2] at h
          subst h
          obtain ⟨ks, f1, f2, f3⟩ := rows_ks rs e2
          have := asInts_eq e1
          subst this
          have hv : ys = ns.map V.int := by
            clear h1 e1 rs f3
            induction ns generalizing ys with
            | nil => cases h2; rfl
            | cons n ns ih =>
              cases h2 with
              | cons a b => cases a; rw [ih b]; rfl
          subst hv
          refine ⟨(a, ns) :: ks, by rw [f1]; rfl, by rw [← f2]; rfl, fun p hp => ?_⟩
          rcases List.mem_cons.mp hp with e | e
          · rw [e]; exact h1
          · exact f3 p e
    | _ => cases h
theorem rp_ints {K : PySem.W.Frag} {G : Hp} : ∀ ns : List Int, RpAll K G (ns.map V.int) (ns.map .int)
  | [] => .nil
  | n :: ns => .cons (.int n) (rp_ints ns)
theorem rp_tups {K : PySem.W.Frag} {G : Hp} : ∀ {ks : List (Addr × List Int)}, (∀ p ∈ ks, SqT K G p.1 (p.2.map V.int)) → RpAll K G (ks.map fun p => V.ref p.1) ((ks.map (·.2)).map tupI)
  | [], _ => .nil
  | p :: ks, h => .cons (.tup (h p List.mem_cons_self) (rp_ints p.2)) (rp_tups fun q hq => h q (List.mem_cons_of_mem _ hq))
section
variable {X : Cx} {W : Wx} {ρ : En}
theorem cr_or {f : Value} {r1 r2 : List V → Hp → VK → Prop} (h1 : CallR X f r1) (h2 : CallR X f r2) : CallR X f (fun xs H Q => r1 xs H Q ∨ r2 xs H Q) := by
  intro pins s σ H xs us Q I r h
  rcases h with h | h
  · exact h1 pins s σ H xs us Q I r h
  · exact h2 pins s σ H xs us Q I r h
theorem ef_sortset {p1 p2 q1 q2 : Pos} {e : Expr} {re : R PyData} (hu : X.A.units + 64 < cLine) (hc : X.calm = true) (hm1 : X.mg "sorted" = none) (hm2 : X.mg "set" = none) (he : EvR X W ρ e re) (hg1 : Gl X "sorted" := by rfl) (hg2 : Gl X "set" := by rfl)
    (hs1 : starEach (e :: []) X.env = (false, eval e X.env) :: starEach [] X.env := by rfl) (hpl1 : (backTo q2 (starEach [] X.env)).any (·.1) = false := by rfl)
    (hs2 : starEach (.Call (.Name "set" p2) [e] [] q2 :: []) X.env = (false, eval (.Call (.Name "set" p2) [e] [] q2) X.env) :: starEach [] X.env := by rfl) (hpl2 : (backTo q1 (starEach [] X.env)).any (·.1) = false := by rfl) :
    EvF X W ρ (.Call (.Name "sorted" p1) [.Call (.Name "set" p2) [e] [] q2] [] q1) (re.bind fun d => R.of (dSortSet d)) := by
  refine ⟨PE.imp (pe_callB (cr_or (cr_sortedT hc) (cr_sortedSet hc)) hg1 hm1 (by decide +kernel) (pa_cons (pe_callTy (cr_or (cr_setAny hc hu) (cr_setI hc)) hg2 hm2 (by decide +kernel) (pa_cons he.pe pa_nil hs1) (he := hs1) (hpl := hpl1)) pa_nil hs2) (he := hs2) (hpl := hpl2)) fun σ H Q h => ?_⟩
  obtain ⟨F, G, px, st, q⟩ := h
  refine ⟨F, G, px, st, Go.bind q fun d q1 v H1 G1 e1 st1 rv => ?_⟩
  obtain ⟨es, e2, q2⟩ := Go.of q1
  have any : ∀ (l : Addr) (xs : List V) (ds : List PyData), (SqL X.K H1 l xs ∨ SqT X.K H1 l xs) → RpAll X.K G1 xs ds → v = .ref l → itemsD d = some ds →
      rSetAny X.K X.prog X.w [v] H1 (fun x H2 => rSortedT X.K X.prog X.w [x] H2 Q ∨ rSortedSet X.w [x] H2 Q) ∨ rSetI X.K X.w [v] H1 (fun x H2 => rSortedT X.K X.prog X.w [x] H2 Q ∨ rSortedSet X.w [x] H2 Q) := by
    intro l xs ds h1 h2 hv hi
    subst hv
    simp only [dSortSet, hi, Option.bind_some] at e2
    cases e0 : asInts ds with
    | some ns =>
      right
      rw [e0] at e2
      simp only at e2
      split at e2
      · rename_i hlen
        cases e2
        have := asInts_eq e0
        subst this
        have hx := rps_ints h2
        subst hx
        refine ⟨l, ns, rfl, h1, hlen, fun a c ha hcl hcc => .inr ?_⟩
        have st2 := st1.alloc (o := SetO X.w a (fun j => decide (j ∈ ns)) c) ha
        have sm := Same.new (o := SetO X.w a (fun j => decide (j ∈ ns)) c) (st1.gh.free ha)
        refine ⟨a, _, c, rfl, upd_same, by omega, fun ns' p hs hm hl' hp => ?_⟩
        have e : ns' = sortI ns := asc_uniq hs (asc_sortI ns) fun z => by rw [hm, mem_sortI, decide_eq_true_eq]
        subst e
        exact q2 p _ _ _ (e1.trans sm) (st2.newP hp) (rp_ints _)
      · cases e2
    | none =>
    left
    rw [e0] at e2
    simp only at e2
    cases e3 : asTups ds with
    | none => rw [e3] at e2; cases e2
    | some rows =>
      simp only [e3, Option.bind_some] at e2
      split at e2
      · rename_i hok
        cases e2
        obtain ⟨hl, dd, hdm, hd1, hok⟩ := hok
        obtain ⟨ks, f1, f2, f3⟩ := rows_ks h2 e3
        have rowOk : ∀ r ∈ rows, r.length = dd ∧ TS.Bd (2 ^ 62) r := fun r hr => by
          have := List.all_eq_true.mp hok r hr
          simp only [Bool.and_eq_true, decide_eq_true_eq, List.all_eq_true] at this
          exact ⟨this.1, fun m hm => this.2 m hm⟩
        refine ⟨l, ks, rfl, by rw [← f1]; exact h1, fun p hp => Same.seqT st1.gh (f3 p hp), by rw [← List.length_map (f := (·.2)), f2]; exact hl, fun a L ha hL1 hL2 => ?_⟩
        have st2 := st1.alloc (o := SetTO X.prog X.w a L) ha
        have ga := st1.gh.free ha
        have sm := Same.new (o := SetTO X.prog X.w a L) ga
        have inrows : ∀ p ∈ L, p.2 ∈ rows := fun p hp => by rw [← f2]; exact List.mem_map.mpr ⟨p, hL1 p hp, rfl⟩
        refine .inl ⟨a, L, dd, 2 ^ 62, rfl, upd_same, fun p hp => Same.seqT st2.gh (Same.seqT sm (f3 p (hL1 p hp))), hd1, fun p hp => rowOk _ (inrows p hp), fun L' p pm nd hl' pw hp => ?_⟩
        have inr' : ∀ q ∈ L', q.2 ∈ rows := fun q hq => inrows q (pm.mem_iff.mp hq)
        have strict : Lx (L'.map (·.2)) := by
          rw [Lx, List.pairwise_map]
          have nd' : L'.Pairwise fun a b => a.2 ≠ b.2 := List.pairwise_map.mp nd
          refine List.Pairwise.imp_of_mem (fun {q r} hq hr hh => ?_) (pw.and nd')
          obtain ⟨hle, hne⟩ := hh
          cases hlx : HT.lexLt q.2 r.2 with
          | true => rfl
          | false =>
            obtain ⟨g1, g2⟩ := rowOk _ (inr' q hq)
            obtain ⟨g3, g4⟩ := rowOk _ (inr' r hr)
            have := lx_code (g3.trans g1.symm) g4 g2 (lx_tot hne hlx)
            omega
        have eq : L'.map (·.2) = sortDed rows := lx_uniq strict (lx_sortDed rows) fun z => by
          rw [mem_sortDed]
          constructor
          · intro hz
            obtain ⟨q, hq, rfl⟩ := List.mem_map.mp hz
            exact inr' q hq
          · intro hz
            rw [← f2] at hz
            obtain ⟨q, hq, rfl⟩ := List.mem_map.mp hz
            obtain ⟨r, hr, e⟩ := List.mem_map.mp (hL2 q hq)
            exact List.mem_map.mpr ⟨r, pm.mem_iff.mpr hr, e⟩
        have rp : RpAll X.K (upd G1 a (SetTO X.prog X.w a L)) (L'.map fun q => V.ref q.1) ((sortDed rows).map tupI) := by
          rw [← eq]
          exact rp_tups fun q hq => Same.seqT sm (f3 q (hL1 q (pm.mem_iff.mp hq)))
        exact q2 p _ _ _ (e1.trans sm) (st2.newP hp) rp
      · cases e2
  cases rv with
  | @lst l xs ds h1 h2 => exact any l xs ds (.inl (.inl (Rd.same st1.gh h1))) h2 rfl rfl
  | @tup l xs ds h1 h2 => exact any l xs ds (.inr (Same.seqT st1.gh h1)) h2 rfl rfl
  | _ => cases e2
/-- len(set(e)) of ints -/
theorem ev_lenset {p1 p2 q1 q2 : Pos} {e : Expr} {re : R PyData} (hc : X.calm = true) (hm1 : X.mg "len" = none) (hm2 : X.mg "set" = none) (he : EvR X W ρ e re) (hg1 : Gl X "len" := by rfl) (hg2 : Gl X "set" := by rfl)
    (hs1 : starEach (e :: []) X.env = (false, eval e X.env) :: starEach [] X.env := by rfl) (hpl1 : (backTo q2 (starEach [] X.env)).any (·.1) = false := by rfl)
    (hs2 : starEach (.Call (.Name "set" p2) [e] [] q2 :: []) X.env = (false, eval (.Call (.Name "set" p2) [e] [] q2) X.env) :: starEach [] X.env := by rfl) (hpl2 : (backTo q1 (starEach [] X.env)).any (·.1) = false := by rfl) :
    EvR X W ρ (.Call (.Name "len" p1) [.Call (.Name "set" p2) [e] [] q2] [] q1) (re.bind fun d => R.of (dLenSet d)) := by
  refine ⟨PE.imp (pe_callB cr_lenSetI hg1 hm1 (by decide +kernel) (pa_cons (pe_callTy (cr_setI hc) hg2 hm2 (by decide +kernel) (pa_cons he.pe pa_nil hs1) (he := hs1) (hpl := hpl1)) pa_nil hs2) (he := hs2) (hpl := hpl2)) fun σ H Q h => ?_⟩
  obtain ⟨F, G, px, st, q⟩ := h
  refine ⟨F, G, px, st, Go.bind q fun d q1 v H1 G1 e1 st1 rv => ?_⟩
  obtain ⟨es, e2, q2⟩ := Go.of q1
  have any : ∀ (l : Addr) (xs : List V) (ds : List PyData), (SqL X.K H1 l xs ∨ SqT X.K H1 l xs) → RpAll X.K G1 xs ds → v = .ref l → itemsD d = some ds → rSetI X.K X.w [v] H1 (fun x H2 => rLenSetI X.w [x] H2 Q) := by
    intro l xs ds h1 h2 hv hi
    subst hv
    simp only [dLenSet, hi, Option.bind_some] at e2
    cases e0 : asInts ds with
    | none => rw [e0] at e2; cases e2
    | some ns =>
      rw [e0] at e2
      simp only [Option.bind_some] at e2
      split at e2
      · rename_i hlen
        cases e2
        have := asInts_eq e0
        subst this
        have hx := rps_ints h2
        subst hx
        refine ⟨l, ns, rfl, h1, hlen, fun a c ha hcl hcc => ?_⟩
        have hcn := hcc (sortI ns) (asc_nodup (asc_sortI ns)) fun k => mem_sortI
        subst hcn
        have st2 := st1.alloc (o := SetO X.w a (fun j => decide (j ∈ ns)) (sortI ns).length) ha
        have sm := Same.new (o := SetO X.w a (fun j => decide (j ∈ ns)) (sortI ns).length) (st1.gh.free ha)
        refine ⟨a, _, _, rfl, upd_same, by omega, ?_⟩
        exact q2 _ _ _ (e1.trans sm) st2 (.int _)
      · cases e2
  cases rv with
  | @lst l xs ds h1 h2 => exact any l xs ds (.inl (.inl (Rd.same st1.gh h1))) h2 rfl rfl
  | @tup l xs ds h1 h2 => exact any l xs ds (.inr (Same.seqT st1.gh h1)) h2 rfl rfl
  | _ => cases e2
end
end SE

set_option maxHeartbeats 4000000
/-! a[i], b[j], x = e1, e2, e3 -/
namespace SE
open PySem PySem.Spec PyProof.Rows L2
section
variable {T S S' B : Type} {X : Cx} {W : Wx} {sh : Sh T} {ρ : En} {E : S → En} {EB : B → En} {rest : List Stmt} {pos : Pos}
theorem own_set {i j : Nat} {s : Sl} {x : Option Sl} (h : i ≠ j) (e : ρ[j]? = some (some s)) : (ρ.set i x)[j]? = some (some s) := (set_get h).trans e
theorem eb_ssn {a b x : Str} {pa pb px' ta tb tp vp : Pos} {kt kv : Nat} {k1 k2 e1 e2 e3 : Expr} {ds fs : List PyData} {t u : Option Addr} {r1 r2 r3 rk1 rk2 : R PyData} {f : List PyData → List PyData → PyData → R (Fl T S B)} (ia ib ix : Nat) (hc : X.calm = true) (hN : X.N.Nodup)
    (pva : PE X (.Name a pa) (tVar ia)) (pvb : PE X (.Name b pb) (tVar ib)) (he : EvA X W ρ [e1, e2, e3] (seqR [r1, r2, r3])) (hk1 : EvR X W ρ k1 rk1) (hk2 : ∀ es, EvR X W (ρ.set ia (some (.own es t))) k2 rk2)
    (h : ∀ es gs d, EvB X W sh (((ρ.set ia (some (.own es t))).set ib (some (.own gs u))).set ix (some (.val d))) E EB rest (f es gs d))
    (ha : ρ[ia]? = some (some (.own ds t)) := by rfl) (hb : ρ[ib]? = some (some (.own fs u)) := by rfl) (hab : ia ≠ ib := by decide) (hx : X.N[ix]? = some x := by rfl) (hlx : Loc X.env.scope x := by first | exact Or.inl rfl | exact Or.inr rfl)
    (hfx : X.fn x = true ∨ X.env.scope.names.lookup x = some .local := by first | exact .inl rfl | exact .inr rfl)
    (ha1 : ∀ v, assign (.Subscript (.Name a pa) k1 ta) X.env v = (do
      let ov ← holding [v] (eval (.Name a pa) X.env)
      let iv ← holding [v, ov] (eval k1 X.env)
      standAt ta
      holding [v, ov, iv] (setItem ov iv v)
      release [v, ov, iv] []) := by intro _; rfl)
    (hb1 : ∀ v, assign (.Subscript (.Name b pb) k2 tb) X.env v = (do
      let ov ← holding [v] (eval (.Name b pb) X.env)
      let iv ← holding [v, ov] (eval k2 X.env)
      standAt tb
      holding [v, ov, iv] (setItem ov iv v)
      release [v, ov, iv] []) := by intro _; rfl)
    (hs : swapsWithSole [.Tuple [.Subscript (.Name a pa) k1 ta, .Subscript (.Name b pb) k2 tb, .Name x px'] kt tp] (.Tuple [e1, e2, e3] kv vp) pos.line X.env = pure false := by rfl)
    (hw : swappedStores [.Tuple [.Subscript (.Name a pa) k1 ta, .Subscript (.Name b pb) k2 tb, .Name x px'] kt tp] (.Tuple [e1, e2, e3] kv vp) X.env = pure none := by rfl)
    (h1 : (assignEach [.Tuple [.Subscript (.Name a pa) k1 ta, .Subscript (.Name b pb) k2 tb, .Name x px'] kt tp] X.env).map (·.2) = [assign (.Tuple [.Subscript (.Name a pa) k1 ta, .Subscript (.Name b pb) k2 tb, .Name x px'] kt tp) X.env] := by rfl)
    (g1 : (assignEach (.Subscript (.Name a pa) k1 ta :: [.Subscript (.Name b pb) k2 tb, .Name x px']) X.env).map (·.2) = assign (.Subscript (.Name a pa) k1 ta) X.env :: (assignEach [.Subscript (.Name b pb) k2 tb, .Name x px'] X.env).map (·.2) := by rfl)
    (g2 : (assignEach (.Subscript (.Name b pb) k2 tb :: [.Name x px']) X.env).map (·.2) = assign (.Subscript (.Name b pb) k2 tb) X.env :: (assignEach [.Name x px'] X.env).map (·.2) := by rfl)
    (g3 : (assignEach (.Name x px' :: []) X.env).map (·.2) = assign (.Name x px') X.env :: (assignEach [] X.env).map (·.2) := by rfl)
    (hn : (assignEach [.Subscript (.Name a pa) k1 ta, .Subscript (.Name b pb) k2 tb, .Name x px'] X.env).length = 3 := by rfl) (hst : (assignEach [.Subscript (.Name a pa) k1 ta, .Subscript (.Name b pb) k2 tb, .Name x px'] X.env).findIdx? (·.1) = none := by rfl) :
    EvB X W sh ρ E EB (.Assign [.Tuple [.Subscript (.Name a pa) k1 ta, .Subscript (.Name b pb) k2 tb, .Name x px'] kt tp] (.Tuple [e1, e2, e3] kv vp) pos :: rest)
      (r1.bind fun d1 => r2.bind fun d2 => r3.bind fun d3 => rk1.bind fun j1 => (R.of (putD ds j1 d1)).bind fun es => rk2.bind fun j2 => (R.of (putD fs j2 d2)).bind fun gs => f es gs d3) := by
  refine eb_step (ps_asg (pe_tup he.pa) (pg_tup hc (pgs_cons (pg_sub pva hk1.pe set_list ha1) (pgs_cons (pg_sub pvb (ti := fun σ H Q => ∃ es, tR X.K W (ρ.set ia (some (.own es t))) rk2 σ H Q) ⟨fun pins s σ H Q I q => let ⟨es, q⟩ := q; (hk2 es).pe.run pins s σ H Q I q⟩ set_list hb1) (pgs_cons (pg_name (i := ix) hN hx hlx hfx) pgs_nil g3) g2) g1) hn hst) hs hw h1)
    ⟨_, eb_all (A := List PyData × List PyData × PyData) (r := fun p => f p.1 p.2.1 p.2.2) fun p => h p.1 p.2.1 p.2.2, fun D σ H q => ?_⟩
  obtain ⟨F, G, px, st, q⟩ := q
  have key : Go W F (seqR [r1, r2, r3]) fun l => ∃ d1 d2 d3, l = [d1, d2, d3] ∧ Go W F (rk1.bind fun j1 => (R.of (putD ds j1 d1)).bind fun es => rk2.bind fun j2 => (R.of (putD fs j2 d2)).bind fun gs => f es gs d3) (Vs X.K W px sh E EB F G D) := by
    cases r1 with
    | ok d1 =>
      cases r2 with
      | ok d2 =>
        cases r3 with
        | ok d3 => exact ⟨d1, d2, d3, rfl, q⟩
        | ex _ _ => exact q
        | no => exact q
      | ex _ _ => exact q
      | no => exact q
    | ex _ _ => exact q
    | no => exact q
  refine ⟨F, G, px, st, key.imp fun l hl vs H1 G1 e1' st1 rv => ?_⟩
  obtain ⟨d1, d2, d3, rfl, q1⟩ := hl
  refine ⟨by rw [RpAll.len rv]; show 3 ≤ sizeLine; decide, fun p hp => ?_⟩
  have st2 := st1.alloc (o := .tup vs) hp
  have gp := st1.gh.free hp
  have sm := Same.new (o := .tup vs) gp
  have rv2 := dps_same sm _ rv
  match vs, rv2 with
  | [v1, v2, v3], .cons rv1 (.cons rv2 (.cons rv3 .nil)) =>
    obtain ⟨a1, w1, ea, ga, ra, _⟩ := set_set_own st2 ha
    refine ⟨p, [v1, v2, v3], rfl, SqT.of upd_same, rfl, v1, [v2, v3], rfl, .ref a1, ea, F, _, px, st2, Go.bind q1 fun j1 q2 x1 H3 G3 e3 st3 rx => ?_⟩
    obtain ⟨es, e4, q3⟩ := Go.of (Go.bind (P' := fun es => Go W F (rk2.bind fun j2 => (R.of (putD fs j2 d2)).bind fun gs => f es gs d3) (Vs X.K W px sh E EB F G D)) q2 fun p q => q)
    obtain ⟨a1', w1', ea', ga', ra', wr⟩ := set_set_own st3 ha
    rw [ea] at ea'
    cases ea'
    cases rx with
    | int m =>
      simp only [putD] at e4
      cases e5 : ixN ds.length m with
      | none => rw [e5] at e4; cases e4
      | some n =>
        rw [e5] at e4
        cases e4
        refine ⟨a1, w1', m, n, rfl, rfl, ga', by rw [RpAll.len ra']; exact e5, ?_⟩
        have st4 := wr st3 (RpAll.setAt (dp_same e3 _ rv1) n ra')
        have hb' := own_set (x := some (.own (ds.set n d1) t)) hab hb
        obtain ⟨b1, y1, eb, gb, rb, _⟩ := set_set_own st4 hb'
        refine ⟨v2, [v3], rfl, .ref b1, eb, _, F, G3, px, st4, Go.bind q3 fun j2 q4 x2 H5 G5 e6 st5 rx2 => ?_⟩
        obtain ⟨gs, e7, q5⟩ := Go.of (Go.bind (P' := fun gs => Go W F (f (ds.set n d1) gs d3) (Vs X.K W px sh E EB F G D)) q4 fun p q => q)
        obtain ⟨b1', y1', eb', gb', rb', wr2⟩ := set_set_own st5 hb'
        rw [eb] at eb'
        cases eb'
        cases rx2 with
        | int m2 =>
          simp only [putD] at e7
          cases e8 : ixN fs.length m2 with
          | none => rw [e8] at e7; cases e7
          | some n2 =>
            rw [e8] at e7
            cases e7
            refine ⟨b1, y1', m2, n2, rfl, rfl, gb', by rw [RpAll.len rb']; exact e8, v3, [], rfl, rfl, (_, _, d3), F, G5, px, (wr2 st5 (RpAll.setAt (dp_same e6 _ (dp_same e3 _ rv2)) n2 rb')).put (dp_same e6 _ (dp_same e3 _ rv3)) ix, q5.imp fun _ => Vs.grow ((e1'.trans sm).trans (e3.trans e6))⟩
        | _ => cases e7
    | _ => cases e4
end
end SE

set_option maxHeartbeats 4000000
/-! a lambda of one parameter handed to a def -/
namespace SE
open PySem PySem.Spec PyProof.Rows L2 LamX

theorem L2E0 : True := trivial
/-- the lambda's names: y its own, the others captured or global -/
structure Lam1 (sc scope : Scope) (y : Str) : Prop where
  kind : scope.kind = .function
  co : scope.isCoroutine = false
  gen : scope.isGenerator = false
  par : scope.names.lookup y = some .local
  own : ∀ z ∈ scope.names, z.2 ≠ .cell ∧ (z.2 = .local → z.1 = y)
  free : ∀ z ∈ scope.names, z.2 = .free → sc.names.lookup z.1 = some .cell ∨ sc.names.lookup z.1 = some .free
def lam1B (sc scope : Scope) (y : Str) : Bool :=
  decide (scope.kind = .function) && !scope.isCoroutine && !scope.isGenerator && decide (scope.names.lookup y = some .local) &&
    scope.names.all fun z => !decide (z.2 = .cell) && (!decide (z.2 = .local) || decide (z.1 = y)) && (!decide (z.2 = .free) || decide (sc.names.lookup z.1 = some .cell) || decide (sc.names.lookup z.1 = some .free))
theorem lam1_by {sc scope : Scope} {y : Str} (h : lam1B sc scope y = true) : Lam1 sc scope y := by
  unfold lam1B at h
  simp only [Bool.and_eq_true, Bool.or_eq_true, Bool.not_eq_true', decide_eq_true_eq, decide_eq_false_iff_not, List.all_eq_true] at h
  obtain ⟨⟨⟨⟨h1, h2⟩, h3⟩, h4⟩, h5⟩ := h
  refine ⟨h1, h2, h3, h4, fun z hz => ⟨(h5 z hz).1.1, fun e => (h5 z hz).1.2.resolve_left fun n => n e⟩, fun z hz e => ?_⟩
  rcases (h5 z hz).2 with (q | q) | q
  · exact absurd e q
  · exact .inl q
  · exact .inr q
section
variable {X : Cx} {pins : List (Addr × Obj)} {σ : L2.St} {H HZ : Hp} {s s1 : Shared} {y : Str}
theorem Lam1.has {scope : Scope} (L : Lam1 X.env.scope scope y) (ok : X.Ok) : ∀ z ∈ scope.names, z.2 = .free → ∃ c, X.env.cells.lookup z.1 = some c := fun z hz e =>
  (L.free z hz e).elim (fun k => ok.has _ (.inl k)) fun k => ok.has _ (.inr k)
theorem lam_begin {A : Around} {outer : List Env} {E : XK} {scope : Scope} {f c' : Addr} {h₁ : Heap} {tk i : Nat} {v : V} {u : Value} (I : Inv X pins σ H s) (L : Lam1 X.env.scope scope y) (nd : X.N.Nodup) (hi : X.N[i]? = some y) (rv : L2.RelV v u)
    (e0 : Env0 X.prog X.w X.K X.mg X.base A outer s1 HZ) (hd : A.handled = none)
    (un : Un (frs X.stack) [] H HZ s.heap s1.heap) (hns : h₁.Ns s1.heap.objs.size fun z => ([(y, u)] : List (Str × Value)).reverse.lookup z) (kp : ∀ b o, s1.heap.get? b = some o → h₁.get? b = some o) :
    Inv (lamCx X A outer s1 HZ E scope f c') [] (σ.set i (some v)) HZ { s1 with heap := h₁, toks := tk } := by
  have hfree := L.has I.ok
  have cm : ∀ {z c}, (cloFrom X.env.cells scope.names []).lookup z = some c → X.env.cells.lookup z = some c := fun {z c} e => by
    rcases cloFrom_mem (PySem.mem_of_lookup e) with hm | ⟨h1, h2⟩
    · exact nomatch hm
    · obtain ⟨c1, hc1⟩ := hfree _ h1 rfl
      have hc2 : X.env.cells.lookup z = some c1 := hc1
      have ec : c = c1 := by rw [h2, hc2]; rfl
      exact ec ▸ hc2
  have look : ∀ {z}, scope.names.lookup z = some .free → ∃ c, (cloFrom X.env.cells scope.names []).lookup z = some c := fun {z} hl =>
    mem_lookup (cloFrom_has (cells := X.env.cells) (acc := []) (PySem.mem_of_lookup hl))
  have cellK : ∀ {c : Addr} {x : Option Value}, H c = none → s.heap.IsCell c x → h₁.IsCell c x := fun {c x} n ⟨o, ho, hdt⟩ => by
    obtain ⟨sl, q⟩ := un.any ho n (by simp)
    exact ⟨_, kp _ _ q, hdt⟩
  have noA : ∀ b : Addr, b ∉ (lamCx X A outer s1 HZ E scope f c').ex := fun b z => nomatch (show b ∈ ([] : List Addr) from z)
  have hlen : i < σ.length := by rw [I.len]; exact (List.getElem?_eq_some_iff.mp hi).1
  refine ⟨⟨e0.mod, L.kind, rfl, rfl, Nat.le_refl _, fun a b c e1 e2 => I.ok.inj a b c (cm e1) (cm e2), fun a ha => ?_, fun a c z _ => ?_, fun _ => hd, Around.frames_deeper e0.frames, .inr ⟨rfl, rfl⟩, fun b z => absurd z (noA b), e0.bs, e0.bsz, fun b _ _ => noA b,
      fun b z => absurd z (noA b), e0.funs, e0.frf⟩,
    rfl, e0.bare, Un.kept kp, ⟨_, hns, fun j a w e1 e2 e3 => ?_⟩, fun a c e => ?_, e0.hok.fresh (Nat.le_refl _), fun a c e => ?_, fun q hq => (nomatch (show q ∈ ([] : List (Addr × Obj)) ++ [] from hq)), e0.hok.kept kp, by rw [List.length_set]; exact I.len⟩
  · have ha' : scope.names.lookup a = some .cell ∨ scope.names.lookup a = some .free := ha
    exact ha'.elim (fun k => absurd rfl (L.own _ (PySem.mem_of_lookup k)).1) look
  · exact Bool.noConfusion (show false = true from z)
  · have e1' : X.N[j]? = some a := e1
    have e3' : Vis scope a := e3
    rcases e3' with k | k | k
    · have ea : a = y := (L.own _ (PySem.mem_of_lookup k)).2 rfl
      subst ea
      have lj := (List.getElem?_eq_some_iff.mp e1').1
      have ej : i = j := by
        obtain ⟨l1, g1⟩ := List.getElem?_eq_some_iff.mp hi
        obtain ⟨l2, g2⟩ := List.getElem?_eq_some_iff.mp e1'
        exact (List.getElem_inj nd).mp (g1.trans g2.symm)
      subst ej
      rw [List.getElem?_set_self hlen] at e2
      cases e2
      exact ⟨u, rv, .inl ⟨k, by simp [List.lookup]⟩⟩
    · exact absurd rfl (L.own _ (PySem.mem_of_lookup k)).1
    · have ne : i ≠ j := fun z => by
        subst z
        rw [hi] at e1'
        cases e1'
        rw [L.par] at k
        cases k
      rw [set_get ne] at e2
      obtain ⟨m, hn, hl⟩ := I.loc
      have hvis : Vis X.env.scope a := (L.free _ (PySem.mem_of_lookup k) rfl).elim (fun k => .inr (.inl k)) (fun k => .inr (.inr k))
      obtain ⟨w', r, q⟩ := hl j a w e1' e2 hvis
      obtain ⟨c2, h2⟩ := look k
      refine ⟨w', r, .inr ⟨.inr k, c2, h2, ?_⟩⟩
      have c1 := cm h2
      rcases q with ⟨k', _⟩ | ⟨_, c3, e', z⟩
      · have k2 : X.env.scope.names.lookup a = some .local := k'
        exact ((L.free _ (PySem.mem_of_lookup k) rfl).elim (fun q => nomatch (k2.symm.trans q)) fun q => nomatch (k2.symm.trans q))
      · have ec : c2 = c3 := Option.some.inj (c1.symm.trans e')
        rw [ec]
        exact cellK (I.freeC a _ e') z
  · obtain ⟨w', z⟩ := I.cell a c (cm e)
    exact ⟨w', cellK (I.freeC a c (cm e)) z⟩
  · obtain ⟨v, o, ho, hdt⟩ := I.cell a c (cm e)
    exact un.free c o ho (I.freeC a c (cm e)) (by simp)
/-- a(e), in the def that got the lambda -/
theorem pe_act1 {Ng : List Str} {qg : Str} {sg : Scope} {g f c' : Addr} {cdg pm ctv : Value} {params : Arguments} {body : Expr} {scope : Scope} {k i ia : Nat} {a : Str} {tb te : TE} {e : Expr} {p1 p2 : Pos}
    (I : Inv X pins σ H s) (L : Lam1 X.env.scope scope y) (nd : X.N.Nodup) (hi : X.N[i]? = some y) (hf : s.heap.get? f = some (PySem.W.kla_obj "<lambda>" (X.env.qual ++ "<lambda>") params body scope (cloFrom X.env.cells scope.names []) pm c' ctv)) (hfn : H f = none) (hfr : f ∉ frs X.stack)
    (hbind : ∀ u : Value, bindArgs (PySem.W.kla_fn "<lambda>" (X.env.qual ++ "<lambda>") params body scope (cloFrom X.env.cells scope.names []) pm (.ref c') ctv) ⟨[u], []⟩ = pure [(y, u)])
    (hr : Room (k + 1) (X.A.deeper (envOfC qg sg s.heap.objs.size g cdg)))
    (hbody : ∀ (A : Around) (outer : List Env) (s : Shared) (H : Hp), Room k (A.deeper (lamEnv X scope s.heap.objs.size f c')) → PE (lamCx X A outer s H L2.E0 scope f c') body tb)
    (he : PE (cxOf L2.CX0 X.prog X.w X.K X.mg X.base Ng qg sg g cdg X.A X.stack s H L2.E0).nox e te)
    (hmono : ∀ σZ HZ (Q : VK), (te σZ HZ fun v H1 => H1 c' = some (CodeO c' (X.env.qual ++ "<lambda>")) ∧ tb (σ.set i (some v)) H1 Q) → te σZ HZ fun v H1 => ∃ v', [v] = [v'] ∧ H1 c' = some (CodeO c' (X.env.qual ++ "<lambda>")) ∧ tb (σ.set i (some v')) H1 Q)
    (hN : Ng[ia]? = some a) (hv : Vis sg a) (hd : (a == ("__debug__" : Str)) = false := by decide) (hcd : (a == ("__classdict__" : Str)) = false := by decide)
    (hs : starEach (e :: []) (cxOf L2.CX0 X.prog X.w X.K X.mg X.base Ng qg sg g cdg X.A X.stack s H L2.E0).nox.env = (false, eval e (cxOf L2.CX0 X.prog X.w X.K X.mg X.base Ng qg sg g cdg X.A X.stack s H L2.E0).nox.env) :: starEach [] (cxOf L2.CX0 X.prog X.w X.K X.mg X.base Ng qg sg g cdg X.A X.stack s H L2.E0).nox.env := by rfl) :
    PE (cxOf L2.CX0 X.prog X.w X.K X.mg X.base Ng qg sg g cdg X.A X.stack s H L2.E0).nox (.Call (.Name a p1) [e] [] p2)
      (fun σZ HZ Q => σZ[ia]? = some (some (.ref f)) ∧ te σZ HZ fun v H1 => H1 c' = some (CodeO c' (X.env.qual ++ "<lambda>")) ∧ tb (σ.set i (some v)) H1 Q) := by
  refine ⟨fun pinsZ sZ σZ HZ Q IZ h => ?_⟩
  obtain ⟨hs1, ht⟩ := h
  refine wpAny_Call_Name_kw (thn ((pe_var (pos := p1) (i := ia) hN hv hd hcd).run pinsZ sZ σZ HZ (fun v H1 => v = .ref f ∧ H1 = HZ) IZ ⟨.ref f, hs1, rfl, rfl⟩) fun uf s1 ⟨vf, H1, I1, r1, q1⟩ => ?_)
  obtain ⟨ev, eH⟩ := q1
  subst ev
  rw [eH] at I1
  cases (show uf = Value.ref f from r1)
  have at_ : ∀ {σx : L2.St} {Hx : Hp} {px : List (Addr × Obj)} {sx : Shared}, Inv (cxOf L2.CX0 X.prog X.w X.K X.mg X.base Ng qg sg g cdg X.A X.stack s H L2.E0).nox px σx Hx sx → sx.heap.get? f = some (PySem.W.kla_obj "<lambda>" (X.env.qual ++ "<lambda>") params body scope (cloFrom X.env.cells scope.names []) pm c' ctv) :=
    fun Ix => Ix.base.keep f _ hf hfn hfr (fun z => nomatch (show f ∈ ([] : List Addr) from z))
  refine PySem.W.callWith_F ⟨_, _, _, _, at_ I1⟩ (thn ((pa_cons he pa_nil hs).run p2 pinsZ s1 σZ HZ (fun vs H1 => ∃ v, vs = [v] ∧ H1 c' = some (CodeO c' (X.env.qual ++ "<lambda>")) ∧ tb (σ.set i (some v)) H1 Q) I1 (hmono _ _ _ ht)) fun us s2 ⟨vs, H2, I2, r2, v, ev, hc, q2⟩ => ?_) hs
  subst ev
  obtain ⟨u, rfl, ru⟩ := r2.one
  have of2 := at_ I2
  refine ⟨⟨_, _, _, _, of2⟩, ?_⟩
  have un : Un (frs X.stack) [] H H2 s.heap s2.heap := I2.base
  obtain ⟨⟨oc, ws, t, hoc, hdc, hvc⟩, _, _⟩ := I2.hok c' _ hc
  have rc : codeAny (model X.prog X.w) (X.A.deeper (envOfC qg sg s.heap.objs.size g cdg)) (.call (.ref f) ⟨[u], []⟩) (CR (L2.CX X.prog X.w) (envOfC qg sg s.heap.objs.size g cdg :: X.stack) X.prog X.w H2 s2 Q L2.E0) s2 := by
    refine PySem.W.kla_callFunE hr.depth of2 rfl L.co L.gen rfl ⟨c', oc, ws, t, rfl, hoc, hdc, hvc⟩ ?_
    rw [hbind u]
    refine wpAny_pure (wpAny_newFunctionEnv (fun z hz => (L.own z hz).1) (fun z hz => by rw [List.mem_singleton.mp hz]; exact L.par) (fun h₁ hns hsb => ⟨I2.nolimit.fresh _ hsb, ?_⟩) L.kind)
    show codeAny _ _ (.expr body (lamEnv X scope s2.heap.objs.size f c')) _ _
    have kp : ∀ b o, s2.heap.get? b = some o → h₁.get? b = some o := fun b o e => hsb.extBut b o (Nat.ne_of_lt (Heap.lt_size e)) (Heap.get?_push_of_some _ e)
    have J : Inv (lamCx X (X.A.deeper (envOfC qg sg s.heap.objs.size g cdg)) (envOfC qg sg s.heap.objs.size g cdg :: X.stack) s2 H2 L2.E0 scope f c') [] (σ.set i (some v)) H2 { s2 with heap := h₁, toks := s2.toks + ([(y, u)] : List (Str × Value)).length } :=
      lam_begin I L nd hi ru I2.env0 hr.hd un hns kp
    refine PySem.W.kla_codeExpr (wpAny_mono ((hbody _ _ s2 H2 (hr.deeper _)).run [] _ _ H2 Q J q2) (fun v s' hq => ?_) fun e s' hq => hq)
    obtain ⟨w', H', J', rv, q⟩ := hq
    exact ⟨w', H', J'.os, J'.bare, J'.base, J'.hok, rv, q⟩
  refine wpAny_call (codeAny_mono rc fun r s' hq => ?_)
  cases r with
  | error e => exact passL pinsZ σZ H2 s2 e s' I2 hq
  | ok fl =>
    cases fl with
    | ret u => exact I2.after hq
    | next => exact False.elim hq
    | brk => exact False.elim hq
    | cont => exact False.elim hq
end
theorem tR_mono {K : PySem.W.Frag} {W : Wx} {ρ : En} {r : R PyData} {σ : L2.St} {H : Hp} {Q Q' : VK} (h : tR K W ρ r σ H Q) (i : ∀ v H, Q v H → Q' v H) : tR K W ρ r σ H Q' := by
  obtain ⟨F, G, px, st, q⟩ := h
  exact ⟨F, G, px, st, q.imp fun d q1 v H' G' e st' rv => i _ _ (q1 v H' G' e st' rv)⟩
theorem StG.lam {K : PySem.W.Frag} {W : Wx} {F G H H' : Hp} {px : Px} {σ : L2.St} {ρ : En} {c' : Addr} {q : Str} (st : StG K W F px ρ σ H G) (eN : ExtN H H') (T2 : Tabs W.tabs H') (hco : H' c' = some (CodeO c' q)) :
    Same G (upd G c' (CodeO c' q)) ∧ StG K W F px ρ σ H' (upd G c' (CodeO c' q)) := by
  have up : ∀ b u, H b = some u → (∀ ps, u ≠ .tbl ps) → H' b = some u := fun b u e n => eN b u e n
  have sm : Same G (upd G c' (CodeO c' q)) := fun b u e => by
    by_cases hb : b = c'
    · subst hb
      have := up b u (st.gh _ _ e) fun ps z => (st.nt b ps).1 (by rw [e, z])
      rw [hco] at this
      rw [upd_same, this]
    · rw [upd_ne hb]; exact e
  have lst : ∀ {b : Addr} {xs : List V}, H' b = some (.lst xs) → b ≠ c' := fun {b xs} e z => by
    rw [z, hco] at e
    unfold CodeO at e
    cases e
  obtain ⟨cs, sl, dj⟩ := st.sl
  have cell : ∀ a ∈ cs, H' a = H a := fun a m => by
    obtain ⟨_, _, vs, e⟩ := sl.cell a m
    rw [e]; exact up a _ e fun ps z => by cases z
  refine ⟨sm, fun b u e => ?_, fun b u e => up b u (st.fh _ _ e) fun ps z => (st.nt b ps).2 (by rw [e, z]), ⟨cs, sl.grow sm (fun a m => ?_) cell, dj⟩, fun p m => ?_, st.nd, fun p m => ?_, fun b ps => ⟨fun z => ?_, (st.nt b ps).2⟩⟩
  · by_cases hb : b = c'
    · rw [hb, upd_same] at e
      rw [hb, hco]; exact e
    · rw [upd_ne hb] at e
      exact up b u (st.gh _ _ e) fun ps z => (st.nt b ps).1 (by rw [e, z])
  · obtain ⟨c1, _, vs, e⟩ := sl.cell a m
    rw [upd_ne (lst ((cell a m).trans e))]; exact c1
  · obtain ⟨h1, h2, h3⟩ := st.pv p m
    have h4 := up p.1 _ h1 fun ps z => by cases z
    exact ⟨h4, by rw [upd_ne (lst h4)]; exact h2, h3⟩
  · obtain ⟨h1, h2, h3⟩ := st.tb p m
    refine ⟨T2 p m, ?_, h3⟩
    have ne : p.1 ≠ c' := fun z => by
      obtain ⟨ps, e, _⟩ := T2 p m
      rw [z, hco] at e
      exact codeO_ne ps (Option.some.inj e)
    rw [upd_ne ne]; exact h2
  · by_cases hb : b = c'
    · rw [hb, upd_same] at z
      exact codeO_ne ps (Option.some.inj z)
    · rw [upd_ne hb] at z
      exact (st.nt b ps).1 z
theorem Slots.free {K : PySem.W.Frag} {F F' G H H' : Hp} {σ : L2.St} {ρ : En} {cs : List Addr} (h : Slots K F G H σ ρ cs) : cs = [] → Slots K F' G H' σ ρ cs := by
  induction h with
  | nil => intro _; exact .nil
  | skip _ ih => intro e; exact .skip (ih e)
  | raw hp _ ih => intro e; exact .raw hp (ih e)
  | val r _ ih => intro e; exact .val r (ih e)
  | own _ _ _ _ _ _ _ _ => intro e; cases e
/-- what a def that got a function at its slot ia may do with it: call it; wl: what it comes to -/
def LamOk (Z : Cx) (tabs : List (Addr × Str)) (ia : Nat) (a : Str) (f : Addr) (P : Hp → Prop) (wl : PyData → R PyData) : Prop :=
  ∀ (ρ : En) (p1 p2 : Pos) (e : Expr) (re : R PyData), ρ[ia]? = some (some (.raw (.ref f) P)) → EvR Z (W0 tabs) ρ e re → starEach (e :: []) Z.env = (false, eval e Z.env) :: starEach [] Z.env → EvR Z (W0 tabs) ρ (.Call (.Name a p1) [e] [] p2) (re.bind wl)
section
variable {X : Cx} {tabs : List (Addr × Str)} {ρ : En}
/-- g(e, lambda y: body); m: what g makes of e's datum and of the lambda -/
theorem ev_lamcall {y x a a0 : Str} {g c P : Addr} {k i : Nat} {pg : Arguments} {bg : List Stmt} {sg : Scope} {dV kV doc pm cdv ct oc : Value} {an od : Option Addr} {osl : Array (Option Value)} {Ng : List Str}
    {params : Arguments} {e body : Expr} {scope : Scope} {p lpos pos : Pos} {re : R PyData} {wl : PyData → R PyData} {m : (PyData → R PyData) → PyData → R (Fl PyData Empty Empty)} (hm : X.mg x = some (.ref g)) (hk : PySem.W.keepIn X.K (.ref g) = true)
    (lk : X.K.lookup g = some ⟨oc, od, .func (PySem.W.fnOf x x pg bg sg dV kV doc pm an cdv ct), osl⟩) (hcg : PySem.W.codeIn X.K cdv x = true) (hb : L2.Binds X.K (PySem.W.fnOf x x pg bg sg dV kV doc pm an cdv ct) [a0, a] []) (Sg : FnScope Ng [a0, a] sg) (hva : Vis sg a)
    (hG : ∀ (f : Addr) (Pf : Hp → Prop) (s : Shared) (H : Hp) (w : PyData), Room (k + 1) (X.A.deeper (envOfC x sg s.heap.objs.size g cdv)) → LamOk (cxOf L2.CX0 X.prog X.w X.K X.mg X.base Ng x sg g cdv X.A X.stack s H L2.E0).nox tabs 1 a f Pf wl →
      EvB (cxOf L2.CX0 X.prog X.w X.K X.mg X.base Ng x sg g cdv X.A X.stack s H L2.E0).nox (W0 tabs) (shD Ng.length) (some (.val w) :: some (.raw (.ref f) Pf) :: List.replicate (Ng.length - 2) none) eE eE bg (m wl w))
    (TB : TabB X.base X.mg c P) (hcode : X.env.code = .ref c) (hmT : (P, X.env.qual ++ "<lambda>") ∈ tabs) (hu : ∀ p ∈ tabs, p.1 = P → p.2 = X.env.qual ++ "<lambda>") (hr : Room (k + 2) X.A) (L : Lam1 X.env.scope scope y) (nd : X.N.Nodup) (hi : X.N[i]? = some y) (hdef : defaultsOf params X.env = ([], []))
    (hbind : ∀ (q : Str) (cl : List (Str × Addr)) (pm cv ctv : Value) (u : Value), bindArgs (PySem.W.kla_fn "<lambda>" q params body scope cl pm cv ctv) ⟨[u], []⟩ = pure [(y, u)])
    (he : EvR X (W0 tabs) ρ e re)
    (hbody : ∀ (A : Around) (outer : List Env) (s : Shared) (H : Hp) (f c' : Addr) (d : PyData), Room k (A.deeper (lamEnv X scope s.heap.objs.size f c')) → EvR (lamCx X A outer s H L2.E0 scope f c') (W0 tabs) ((hideE ρ).set i (some (.val d))) body (wl d))
    (hg : Gl X x := by rfl) (hdb : (x == ("__debug__" : Str)) = false := by decide) (hd : (a == ("__debug__" : Str)) = false := by decide) (hcd : (a == ("__classdict__" : Str)) = false := by decide)
    (hs1 : starEach [e, .Lambda params body scope lpos] X.env = (false, eval e X.env) :: starEach [.Lambda params body scope lpos] X.env := by rfl) (hs2 : starEach [.Lambda params body scope lpos] X.env = (false, eval (.Lambda params body scope lpos) X.env) :: starEach [] X.env := by rfl) (hpl : (backTo pos (starEach [.Lambda params body scope lpos] X.env)).any (·.1) = false := by rfl) :
    EvR X (W0 tabs) ρ (.Call (.Name x p) [e, .Lambda params body scope lpos] [] pos) (re.bind fun w => (m wl w).bind outF) := by
  refine ⟨⟨fun pins s σ H Q I h => ?_⟩⟩
  obtain ⟨F, G, px, st, q⟩ := h
  refine wpAny_Call_Name_kw (ld_glob I hg hm ?_ hdb)
  refine PySem.W.callWith_K (h₀ := X.base) I.ok.mod.kin hk ?_ hs1 hpl
  rw [hs1]
  show wpAny _ _ (spliced ((false, eval e X.env) :: backTo pos (starEach [.Lambda params body scope lpos] X.env))) _ _ s
  refine Calls.spliced_cons (thn (he.pe.run pins s σ H (fun v H1 => ∃ w G1, Same G G1 ∧ StG X.K (W0 tabs) F px ρ σ H1 G1 ∧ Rp X.K G1 v w ∧ Go (W0 tabs) F ((m wl w).bind outF) (Vl X.K (W0 tabs) px ρ F G σ Q)) I ⟨F, G, px, st, Go.bind q fun d q1 v H1 G1 e1 st1 rv => ⟨d, G1, e1, st1, rv, q1⟩⟩) fun u s1 ⟨v, H1, I1, r1, w, G1, e1, st1, rv, q1⟩ => ?_)
  rw [hs2]
  show wpAny _ _ (spliced ((false, eval (.Lambda params body scope lpos) X.env) :: backTo pos (starEach [] X.env))) _ _ s1
  refine Calls.spliced_cons (lam_make2 (T := tabs) I1 TB hcode hmT hu (fun p hp => (st1.tb p hp).1) hdef (L.has I1.ok) fun f c' pm' ctv H2 s' I2 eN T2 hf hfn hfr hco => ?_)
  refine Calls.spliced_nil ⟨I2.kIn, ?_⟩
  obtain ⟨sm, st2⟩ := st1.lam eN T2 hco
  have rv2 := dp_same sm _ rv
  have pvis : ∀ G', Same (upd G1 c' (CodeO c' (X.env.qual ++ "<lambda>"))) G' → (fun G' => G' c' = some (CodeO c' (X.env.qual ++ "<lambda>")) ∧ Slots X.K (fun _ => none) G' (fun _ => none) σ (hideE ρ) []) G' := fun G' eG => by
    obtain ⟨cs, sl, _⟩ := st2.sl
    exact ⟨eG _ _ upd_same, (sl.hide.grow eG (fun _ m => by cases m) (fun _ m => by cases m) : Slots X.K F G' H2 σ (hideE ρ) []).free rfl⟩
  obtain ⟨px', st3, back⟩ := st2.callee
  have rc : codeAny (model X.prog X.w) X.A (.call (.ref g) ⟨[u, .ref f], []⟩) (CR L2.CX0 X.stack X.prog X.w H2 s' Q L2.E0) s' := by
    refine run_ofS (N := Ng) (ps := [a0, a]) (us := [u, .ref f]) (vs := [v, .ref f]) lk hcg Sg hr I2.env0 (hb s' [u, .ref f] I2.kIn rfl) (.cons r1 (.cons rfl .nil)) rfl fun hr' => ?_
    have hNa : Ng[1]? = some a := by
      have := Sg.pre
      have h2 := congrArg (fun l => l[1]?) this
      simpa [List.getElem?_take] using h2
    have act : LamOk (cxOf L2.CX0 X.prog X.w X.K X.mg X.base Ng x sg g cdv X.A X.stack s' H2 L2.E0).nox tabs 1 a f (fun G' => G' c' = some (CodeO c' (X.env.qual ++ "<lambda>")) ∧ Slots X.K (fun _ => none) G' (fun _ => none) σ (hideE ρ) []) wl := fun ρZ p1 p2 e' re' hρ hE hst => by
      refine ⟨PE.imp (pe_act1 (tb := fun σ' H' Q' => ∃ d, tR X.K (W0 tabs) ((hideE ρ).set i (some (.val d))) (wl d) σ' H' Q') I2 L nd hi hf hfn hfr (hbind _ _ _ _ _) hr' (fun A outer s H hr2 => ⟨fun pins s' σ' H' Q' I' q' => let ⟨d, q'⟩ := q'; (hbody A outer s H f c' d hr2).pe.run pins s' σ' H' Q' I' q'⟩) hE.pe
        (fun σZ HZ Q' hq => tR_mono hq fun v H' hx => ⟨v, rfl, hx⟩) hNa hva hd hcd hst) fun σZ HZ Q' hq => ?_⟩
      obtain ⟨F', G', px2, st', q'⟩ := hq
      obtain ⟨cs, sl, _⟩ := st'.sl
      obtain ⟨e3, hp⟩ := sl.raw_at hρ
      refine ⟨e3, F', G', px2, st', Go.bind q' fun d q2 v3 H3 G3 e4 st4 rv3 => ?_⟩
      obtain ⟨hc1, hsl⟩ := hp G3 e4
      obtain ⟨px3, st5, back3⟩ := st4.callee
      refine ⟨st4.gh _ _ hc1, d, F', G3, px3, ⟨st5.gh, st5.fh, ?_, st5.pv, st5.nd, st5.tb, st5.nt⟩, (show Go (W0 tabs) F' (wl d) _ from q2).imp fun d2 q3 v4 H4 G4 e5 st6 rv4 => q3 v4 H4 G4 (e4.trans e5) (back3 H4 G4 e5 (st6.clear)) rv4⟩
      obtain ⟨cs', hcs', hh⟩ := (hsl.free (F' := F') (H' := H3) rfl).put rv3 i
      have ecs : cs' = [] := List.eq_nil_iff_forall_not_mem.mpr fun z hz => nomatch hcs' z hz
      subst ecs
      exact ⟨[], hh, fun _ _ m => by cases m⟩
    refine ⟨_, (hG f _ s' H2 w hr' act).pss.nox, F, _, px', ⟨st3.gh, st3.fh, ⟨[], ?_, fun _ _ m => by cases m⟩, st3.pv, st3.nd, st3.tb, st3.nt⟩, Go.bind q1 fun fl q2 => ?_⟩
    · unfold L2.start
      exact .val rv2 (.raw pvis (slots_none _))
    · cases fl with
      | rt t => exact fun v3 σ' H' G' e3 st' rd => q2 v3 H' G' ((e1.trans sm).trans e3) (back H' G' e3 st'.clear) rd
      | nx e => exact nomatch e
      | bk e => exact nomatch e
      | ct e => exact nomatch e
  refine wpAny_call (codeAny_mono rc fun r s2 hq => ?_)
  cases r with
  | error e => exact (show False from hq).elim
  | ok fl =>
    cases fl with
    | ret u => exact I2.after hq
    | next => exact False.elim hq
    | brk => exact False.elim hq
    | cont => exact False.elim hq
end
end SE

set_option maxHeartbeats 4000000
/-! defs that give a list of one's own; short words -/
namespace SE
open PySem PySem.Spec PyProof.Rows L2 LamX

theorem Room.hu {k : Nat} {A : Around} (r : Room k A) : A.units + 65 < cLine := by have := r.un; omega
theorem Room.hu64 {k : Nat} {A : Around} (r : Room k A) : A.units + 64 < cLine := by have := r.un; omega
theorem le_none : ∀ ρ : En, LeE ρ (List.replicate ρ.length none)
  | [] => .nil
  | _ :: r => .skip (le_none r)
/-- .. that gives a new list -/
def spO (K : PySem.W.Frag) (tabs : List (Addr × Str)) (n : Nat) (m : List PyData → R (List PyData)) : Sp := fun vs H Q _ =>
  ∃ F G px ds, vs.length = n ∧ StG K (W0 tabs) F px [] [] H G ∧ RpAll K G vs ds ∧ Go (W0 tabs) F (m ds) fun es => ∀ p us H' G', Same G G' → StG K (W0 tabs) F ((p, us) :: px) [] [] H' G' → RpAll K G' us es → Q (.ref p) H'
def tBO (K : PySem.W.Frag) (W : Wx) (ρ : En) (r : R (List PyData)) : TS := fun D σ H => ∃ F G px, StG K W F px ρ σ H G ∧ Go W F r fun es => ∀ p us H' G', Same G G' → StG K W F ((p, us) :: px) [] [] H' G' → RpAll K G' us es → D.rt (.ref p) H'
structure EvBO (X : Cx) (W : Wx) (ρ : En) (sts : List Stmt) (r : R (List PyData)) : Prop where
  pss : PSs X sts (tBO X.K W ρ r)
section
variable {X : Cx} {W : Wx} {ρ : En} {rest : List Stmt} {pos : Pos}
theorem ebo_set {x : Str} {e : Expr} {pos' : Pos} {re : R PyData} {f : PyData → R (List PyData)} (i : Nat) (hN : X.N.Nodup) (he : EvR X W ρ e re) (h : ∀ d, EvBO X W (ρ.set i (some (.val d))) rest (f d)) (hi : X.N[i]? = some x := by rfl)
    (hx : Loc X.env.scope x := by first | exact Or.inl rfl | exact Or.inr rfl) (hs : swapsWith e (some (.Name x pos')) pos.line X.env = pure false := by rfl) (hf : X.fn x = true ∨ X.env.scope.names.lookup x = some .local := by first | exact .inl rfl | exact .inr rfl) :
    EvBO X W ρ (.Assign [.Name x pos'] e pos :: rest) (re.bind f) := by
  refine ⟨PSs.imp (pss_cons (u := fun D σ H => ∃ d, tBO X.K W (ρ.set i (some (.val d))) (f d) D σ H) (ps_set hN hi hx he.pe hs hf) ⟨fun pins s σ H D I q => let ⟨d, q⟩ := q; (h d).pss.run pins s σ H D I q⟩) fun D σ H q => ?_⟩
  obtain ⟨F, G, px, st, q⟩ := q
  refine ⟨F, G, px, st, Go.bind q fun d q1 v H1 G1 e1 st1 dv => ?_⟩
  exact ⟨d, F, G1, px, st1.put dv i, q1.imp fun es q2 p us H' G' e' st' ru => q2 p us H' G' (e1.trans e') st' ru⟩
theorem ebo_ret {e : Expr} {re : R (List PyData)} (he : EvF X W ρ e re) : EvBO X W ρ [.Return (some e) pos] re := by
  refine ⟨PSs.imp (pss_one (ps_ret he.pe)) fun D σ H q => ?_⟩
  obtain ⟨F, G, px, st, q⟩ := q
  exact ⟨F, G, px, st, q.imp fun es q1 p us H1 G1 e1 st1 ru => q1 p us H1 G1 e1 st1.clear ru⟩
end
section
variable {P : Program} {w : World} {K : PySem.W.Frag} {mg : Str → Option Value} {base : Heap} {tabs : List (Addr × Str)}
theorem fn_O {x qual : Str} {st : Stmt} {f : Addr} {fd : FuncData} {N ps : List Str} {k : Nat} (F : Fun K x qual st f fd) (S : FnScope N ps (defScope st)) {m : List PyData → R (List PyData)}
    (body : ∀ ds, ds.length = ps.length → ∀ (cdv : Value) (A : Around) (outer : List Env) (s : Shared) (H : Hp) (E : XK), Room k (A.deeper (envOfC qual (defScope st) s.heap.objs.size f cdv)) →
      EvBO (cxOf CX0 P w K mg base N qual (defScope st) f cdv A outer s H E).nox (W0 tabs) (startE N.length ds) (defBody st) (m ds)) :
    FnOk P w K mg base CX0 (k + 1) f fd ps (spO K tabs ps.length m) := by
  refine F.ok S (fun vs H Q E h => ?_) (fun cdv A outer s H vs Q E hr h => ?_)
  · obtain ⟨_, _, _, _, h, _⟩ := h
    exact h
  · obtain ⟨F', G, px, ds, hl, st, rv, q⟩ := h
    have hl2 : ds.length = ps.length := (RpAll.len rv).symm.trans hl
    refine ⟨_, (body ds hl2 cdv A outer s H E hr).pss, F', G, px, ⟨st.gh, st.fh, ⟨[], ?_, fun _ _ z => by cases z⟩, st.pv, st.nd, st.tb, st.nt⟩, q⟩
    unfold L2.start startE
    rw [hl, ← hl2]
    exact slots_start rv
end
section
variable {X : Cx} {tabs : List (Addr × Str)} {ρ : En} {pos p : Pos}
theorem ef_callO {k n : Nat} {f : Addr} {fd : FuncData} {ps : List Str} {x : Str} {e : Expr} {es : List Expr} {m : List PyData → R (List PyData)} {rs : R (List PyData)} (F : FnOk X.prog X.w X.K X.mg X.base CX0 k f fd ps (spO X.K tabs n m)) (hr : Room k X.A) (hm : X.mg x = some (.ref f)) (hk : PySem.W.keepIn X.K (.ref f) = true) (hb : Binds X.K fd ps [])
    (ha : EvA X (W0 tabs) ρ (e :: es) rs) (hn : ∀ ds, rs = .ok ds → ds.length = n) (hg : Gl X x := by rfl) (hdb : (x == ("__debug__" : Str)) = false := by decide) (he : starEach (e :: es) X.env = (false, eval e X.env) :: starEach es X.env := by rfl) (hpl : (backTo pos (starEach es X.env)).any (·.1) = false := by rfl) :
    EvF X (W0 tabs) ρ (.Call (.Name x p) (e :: es) [] pos) (rs.bind m) := by
  refine ⟨PE.imp (pe_call F hr hg hm hk hb .nil pass0 ha.pa hdb he hpl) fun σ H Q h => ?_⟩
  obtain ⟨F', G, px, st, q⟩ := h
  cases e1 : rs with
  | ok ds =>
    rw [e1] at q
    have hl := hn ds e1
    refine ⟨F', G, px, st, fun vs H1 G1 e2 st1 rv => ?_⟩
    obtain ⟨cs, sl, dj⟩ := st1.sl
    obtain ⟨px', st2, back⟩ := st1.shutX
    rw [List.append_nil]
    exact ⟨F', G1, px', ds, by rw [RpAll.len rv]; exact hl, st2.w rfl, rv, (show Go (W0 tabs) F' (m ds) _ from q).imp fun es q1 a us H' G' e' st' ru => q1 a us H' G' (e2.trans e') (back a us H' G' e' (st'.w rfl)) ru⟩
  | ex _ _ => rw [e1] at q; exact ⟨F', G, px, st, q⟩
  | no => rw [e1] at q; exact q.elim
end
/-- a def whose code object stands at c -/
structure FunC (K : PySem.W.Frag) (x qual : Str) (st : Stmt) (f : Addr) (fd : FuncData) (c : Addr) : Prop where
  ex : ∃ (oc : Value) (od : Option Addr) (kV doc pm : Value) (an : Option Addr) (ct : Value) (osl : Array (Option Value)),
    fd = PySem.W.fnOf x qual (defArgs st) (defBody st) (defScope st) .none kV doc pm an (.ref c) ct ∧ K.lookup f = some ⟨oc, od, .func fd, osl⟩ ∧ PySem.W.codeIn K (.ref c) qual = true
  kp : PySem.W.keepIn K (.ref f) = true
theorem FunC.fun {K : PySem.W.Frag} {x qual : Str} {st : Stmt} {f : Addr} {fd : FuncData} {c : Addr} (F : FunC K x qual st f fd c) : Fun K x qual st f fd := by
  obtain ⟨oc, od, kV, doc, pm, an, ct, osl, e, lk, hc⟩ := F.ex
  exact ⟨⟨oc, od, kV, doc, pm, an, _, ct, osl, e, lk, hc⟩, F.kp⟩
section
variable {P : Program} {w : World} {K : PySem.W.Frag} {mg : Str → Option Value} {base : Heap} {tabs : List (Addr × Str)}
theorem fn_FC {x qual : Str} {st : Stmt} {f c : Addr} {fd : FuncData} {N ps : List Str} {k : Nat} (F : FunC K x qual st f fd c) (S : FnScope N ps (defScope st)) {m : List PyData → R PyData} (r : List PyData → R (Fl PyData Empty Empty))
    (hm : ∀ ds, m ds = (r ds).bind outF)
    (body : ∀ ds, ds.length = ps.length → ∀ (A : Around) (outer : List Env) (s : Shared) (H : Hp) (E : XK), Room k (A.deeper (envOfC qual (defScope st) s.heap.objs.size f (.ref c))) →
      EvB (cxOf CX0 P w K mg base N qual (defScope st) f (.ref c) A outer s H E).nox (W0 tabs) (shD N.length) (startE N.length ds) eE eE (defBody st) (r ds)) :
    FnOk P w K mg base CX0 (k + 1) f fd ps (spF K tabs ps.length m) := by
  obtain ⟨oc, od, kV, doc, pm, an, ct, osl, rfl, lk, hcd⟩ := F.ex
  refine fn_of lk hcd S (fun vs H Q E h => ?_) fun A outer s H vs Q E hr h => ?_
  · obtain ⟨_, _, _, _, h, _⟩ := h
    exact h
  · obtain ⟨F', G, px, ds, hl, st, rv, q⟩ := h
    have hl2 : ds.length = ps.length := (RpAll.len rv).symm.trans hl
    refine ⟨_, (body ds hl2 A outer s H E hr).pss.nox, F', G, px, ⟨st.gh, st.fh, ⟨[], ?_, fun _ _ z => by cases z⟩, st.pv, st.nd, st.tb, st.nt⟩, ?_⟩
    · unfold L2.start startE
      rw [hl, ← hl2]
      exact slots_start rv
    · rw [hm] at q
      refine Go.bind q fun fl q1 => ?_
      cases fl with
      | rt t => exact fun v σ' H' G' e st' rd => q1 v H' G' e st'.clear rd
      | nx e => exact nomatch e
      | bk e => exact nomatch e
      | ct e => exact nomatch e
end
section
variable {X : Cx} {tabs : List (Addr × Str)} {ρ : En}
theorem ev_lam {y x a a0 : Str} {g c P : Addr} {k : Nat} {st : Stmt} {fd : FuncData} {Ng : List Str} {params : Arguments} {e body : Expr} {scope : Scope} {p lpos pos : Pos} {re : R PyData} {wl : PyData → R PyData} {m : (PyData → R PyData) → PyData → R (Fl PyData Empty Empty)} (i : Nat) (Fg : Fun X.K x x st g fd) (hm : X.mg x = some (.ref g))
    (hb : L2.Binds X.K fd [a0, a] []) (Sg : FnScope Ng [a0, a] (defScope st)) (hva : Vis (defScope st) a)
    (hG : ∀ (cdv : Value) (f : Addr) (Pf : Hp → Prop) (s : Shared) (H : Hp) (w : PyData), Room (k + 1) (X.A.deeper (envOfC x (defScope st) s.heap.objs.size g cdv)) → LamOk (cxOf L2.CX0 X.prog X.w X.K X.mg X.base Ng x (defScope st) g cdv X.A X.stack s H L2.E0).nox tabs 1 a f Pf wl →
      EvB (cxOf L2.CX0 X.prog X.w X.K X.mg X.base Ng x (defScope st) g cdv X.A X.stack s H L2.E0).nox (W0 tabs) (shD Ng.length) (some (.val w) :: some (.raw (.ref f) Pf) :: List.replicate (Ng.length - 2) none) eE eE (defBody st) (m wl w))
    (TB : TabB X.base X.mg c P) (hcode : X.env.code = .ref c) (hmT : (P, X.env.qual ++ "<lambda>") ∈ tabs) (hu : ∀ p ∈ tabs, p.1 = P → p.2 = X.env.qual ++ "<lambda>") (hr : Room (k + 2) X.A) (L : Lam1 X.env.scope scope y) (nd : X.N.Nodup) (hi : X.N[i]? = some y) (hdef : defaultsOf params X.env = ([], []))
    (hbind : ∀ (q : Str) (cl : List (Str × Addr)) (pm cv ctv : Value) (u : Value), bindArgs (PySem.W.kla_fn "<lambda>" q params body scope cl pm cv ctv) ⟨[u], []⟩ = pure [(y, u)])
    (he : EvR X (W0 tabs) ρ e re)
    (hbody : ∀ (A : Around) (outer : List Env) (s : Shared) (H : Hp) (f c' : Addr) (d : PyData), Room k (A.deeper (lamEnv X scope s.heap.objs.size f c')) → EvR (lamCx X A outer s H L2.E0 scope f c') (W0 tabs) ((hideE ρ).set i (some (.val d))) body (wl d))
    (hg : Gl X x := by rfl) (hdb : (x == ("__debug__" : Str)) = false := by decide) (hd : (a == ("__debug__" : Str)) = false := by decide) (hcd : (a == ("__classdict__" : Str)) = false := by decide)
    (hs1 : starEach [e, .Lambda params body scope lpos] X.env = (false, eval e X.env) :: starEach [.Lambda params body scope lpos] X.env := by rfl) (hs2 : starEach [.Lambda params body scope lpos] X.env = (false, eval (.Lambda params body scope lpos) X.env) :: starEach [] X.env := by rfl) (hpl : (backTo pos (starEach [.Lambda params body scope lpos] X.env)).any (·.1) = false := by rfl) :
    EvR X (W0 tabs) ρ (.Call (.Name x p) [e, .Lambda params body scope lpos] [] pos) (re.bind fun w => (m wl w).bind outF) := by
  obtain ⟨oc, od, kV, doc, pm, an, cdv, ct, osl, rfl, lk, hcg⟩ := Fg.ex
  exact ev_lamcall hm Fg.kp lk hcg hb Sg hva (fun f Pf s H w => hG cdv f Pf s H w) TB hcode hmT hu hr L nd hi hdef hbind he hbody hg hdb hd hcd hs1 hs2 hpl
end
end SE

set_option maxHeartbeats 4000000
/-! more rules -/
namespace SE
open PySem PySem.Spec PyProof.Rows L2
theorem EvB.cast {T S B : Type} {X : Cx} {W : Wx} {sh : Sh T} {ρ : En} {E : S → En} {EB : B → En} {sts : List Stmt} {r r' : R (Fl T S B)} (h : EvB X W sh ρ E EB sts r) (e : r = r') : EvB X W sh ρ E EB sts r' := e ▸ h
theorem EvBO.cast {X : Cx} {W : Wx} {ρ : En} {sts : List Stmt} {r r' : R (List PyData)} (h : EvBO X W ρ sts r) (e : r = r') : EvBO X W ρ sts r' := e ▸ h
section
variable {X : Cx} {W : Wx} {ρ : En} {pos : Pos} {a b c : Expr}
theorem et_chain {op op' : CmpOp} {r r' : R2} {f f' : PyData → PyData → Option PyData} {ra rb rc : R PyData} (ho : OpR X (compareOp op) r) (hd : OpD X.K r f) (ho' : OpR X (compareOp op') r') (hd' : OpD X.K r' f')
    (ha : EvR X W ρ a ra) (hb : EvR X W ρ b rb) (hc : EvR X W ρ c rc) (hm : lastMarks [op, op'] [b, c] = false := by rfl) :
    EvT X W ρ (.Compare a [op, op'] [b, c] pos) (ra.bind fun x => rb.bind fun y => (R.of (f x y)).bind fun k => (chainR rc f' y k).bind asB) := by
  refine ⟨PT.imp (pt_chain ho ho' ha.pe hb.pe hc.pe (hm := hm)) fun σ H Q h => ?_⟩
  obtain ⟨F, G, px, st, q⟩ := h
  refine ⟨F, G, px, st, Go.bind q fun d q1 v H1 G1 e1 st1 dv => ?_⟩
  refine ⟨F, G1, px, st1, Go.bind q1 fun d2 q2 v2 H2 G2 e2 st2 dv2 => ?_⟩
  obtain ⟨d3, e3, q3⟩ := Go.of (Go.bind (P' := fun k => Go W F ((chainR rc f' d2 k).bind asB) (VlB X.K W px ρ F G σ Q)) q2 fun k q3 => q3)
  refine hd W F G2 H2 px ρ σ v v2 d d2 d3 _ st2 (dp_same e2 _ dv) dv2 e3 fun z H3 G3 g3 st3 dz => ?_
  cases dz with
  | bl k =>
    refine ⟨k, rfl, ?_⟩
    cases k with
    | true =>
      rw [if_pos rfl]
      replace q3 : Go W F ((rc.bind fun z => R.of (f' d2 z)).bind asB) (VlB X.K W px ρ F G σ Q) := q3
      rw [R.bind_assoc] at q3
      refine ⟨F, G3, px, st3, Go.bind q3 fun d3 q4 v3 H4 G4 e4 st4 dv3 => ?_⟩
      obtain ⟨d5, e5, q5⟩ := Go.of (Go.bind (P' := fun k => Go W F (asB k) (VlB X.K W px ρ F G σ Q)) q4 fun k q => q)
      refine hd' W F G4 H4 px ρ σ v2 v3 d2 d3 d5 _ st4 (dp_same (g3.trans e4) _ dv2) dv3 e5 fun z H5 G5 g5 st5 dz => ?_
      cases dz with
      | bl b => exact ⟨b, rfl, q5 H5 G5 ((((e1.trans e2).trans g3).trans e4).trans g5) st5⟩
      | non => exact q5.elim
      | int _ => exact q5.elim
      | str _ => exact q5.elim
      | lst _ _ => exact q5.elim
      | tup _ _ => exact q5.elim
      | kl _ _ => exact q5.elim
    | false =>
      rw [if_neg Bool.false_ne_true]
      exact ⟨false, rfl, (show VlB X.K W px ρ F G σ Q false from q3) H3 G3 ((e1.trans e2).trans g3) st3⟩
  | non => exact q3.elim
  | int _ => exact q3.elim
  | str _ => exact q3.elim
  | lst _ _ => exact q3.elim
  | tup _ _ => exact q3.elim
  | kl _ _ => exact q3.elim
end
end SE

set_option maxHeartbeats 4000000
/-! the end -/
namespace SE
open PySem PySem.Spec PyProof.Rows L2 LamX
/-- the def x of the text, written out at f -/
def FunAt (K : PySem.W.Frag) (x : Str) (st : Stmt) (f : Addr) : Prop := ∃ (oc kV dc pm cd ct : Value) (od an : Option Addr) (sl : Array (Option Value)), PySem.W.nsIn K mainGlobals x = some (some (.ref f)) ∧
  K.lookup f = some ⟨oc, od, .func (PySem.W.fnOf x x (defArgs st) (defBody st) (defScope st) .none kV dc pm an cd ct), sl⟩ ∧ PySem.W.codeIn K cd x = true ∧ PySem.W.keepIn K (.ref f) = true
def FunAtC (K : PySem.W.Frag) (x : Str) (st : Stmt) (f c : Addr) : Prop := ∃ (oc kV dc pm ct : Value) (od an : Option Addr) (sl : Array (Option Value)), PySem.W.nsIn K mainGlobals x = some (some (.ref f)) ∧
  K.lookup f = some ⟨oc, od, .func (PySem.W.fnOf x x (defArgs st) (defBody st) (defScope st) .none kV dc pm an (.ref c) ct), sl⟩ ∧ PySem.W.codeIn K (.ref c) x = true ∧ PySem.W.keepIn K (.ref f) = true
theorem FunAt.get {K : PySem.W.Frag} {h : Heap} {mg : Str → Option Value} {x : Str} {st : Stmt} {f : Addr} (e : FunAt K x st f) (X : K.In h) (G : h.Ns mainGlobals mg) : ∃ fd, Fun K x x st f fd ∧ mg x = some (.ref f) := by
  obtain ⟨oc, kV, dc, pm, cd, ct, od, an, sl, a, l, c, k⟩ := e
  exact ⟨_, fun_mk l c k, PySem.W.mg_of X G a⟩
theorem FunAtC.get {K : PySem.W.Frag} {h : Heap} {mg : Str → Option Value} {x : Str} {st : Stmt} {f c : Addr} (e : FunAtC K x st f c) (X : K.In h) (G : h.Ns mainGlobals mg) : ∃ fd, FunC K x x st f fd c ∧ mg x = some (.ref f) := by
  obtain ⟨oc, kV, dc, pm, ct, od, an, sl, a, l, c, k⟩ := e
  exact ⟨_, ⟨⟨oc, od, kV, dc, pm, an, ct, sl, rfl, l, c⟩, k⟩, PySem.W.mg_of X G a⟩
/-- the abstract heap without the tables -/
def noTbl (H : Hp) : Hp := fun b => match H b with
  | some (.tbl _) => none
  | o => o
theorem noTbl_of {H : Hp} {b : Addr} {u : HO} (e : H b = some u) (n : ∀ ps, u ≠ .tbl ps) : noTbl H b = some u := by
  unfold noTbl
  rw [e]
  cases u <;> first | rfl | exact absurd rfl (n _)
theorem noTbl_same {H : Hp} : Same (noTbl H) H := fun b u e => by
  unfold noTbl at e
  split at e
  · cases e
  · exact e
theorem noTbl_nt {H : Hp} (b : Addr) (ps : Array Value) : noTbl H b ≠ some (.tbl ps) := fun e => by
  unfold noTbl at e
  split at e
  · cases e
  · rename_i h
    exact h _ e
theorem law_sp {K : PySem.W.Frag} {tabs : List (Addr × Str)} {m : List PyData → R PyData} {H : Hp} {a : Addr} {ns : List Int} {E : XK} (hT : ∀ p ∈ tabs, H p.1 = some (.tbl #[])) (hS : SqL K H a (ns.map V.int)) (hm : m [.dict [(.none, .list (ns.map .int))]] = .ok (.bool true)) :
    spF K tabs 1 m [.ref a] H (fun v _ => v = .bl true) E := by
  refine ⟨noTbl H, noTbl H, [], [.dict [(.none, .list (ns.map .int))]], rfl, ⟨noTbl_same, noTbl_same, ⟨[], .nil, fun _ m => (nomatch m)⟩, fun _ m => (nomatch m), List.nodup_nil, fun p hp => ?_, fun b ps => ⟨noTbl_nt b ps, noTbl_nt b ps⟩⟩, .cons (.kl ?_ (rp_ints ns)) .nil, ?_⟩
  · have e := hT p hp
    have n : noTbl H p.1 = none := by unfold noTbl; rw [e]
    exact ⟨TabS.nil e, n, n⟩
  · rcases hS with (hS | ⟨o, hS⟩) | hS
    · exact .inl (.inl (noTbl_of hS fun _ z => by cases z))
    · exact .inl (.inr ⟨o, noTbl_of hS fun _ z => by cases z⟩)
    · exact .inr hS
  · rw [hm]
    intro v H' G' _ _ r
    cases r
    rfl
def codeChk (vs : Array Value) (c P : Addr) : Bool := (match (vs[11]? : Option Value) with | some (.ref P') => P' == P | _ => false) &&
  (match vs.getD 18 .none with | .str _ _ => true | _ => false) && (match vs.getD 7 .none with | .int _ _ => true | _ => false) &&
  (match vs.getD 9 .none with | .bool _ => true | _ => false) && (match vs.getD 10 .none with | .int _ _ => true | _ => false) && c != P
theorem hd_of {K : PySem.W.Frag} {c P : Addr} {vs : Array Value} {od : Option Addr} {sl : Array (Option Value)} (lc : K.lookup c = some ⟨.type "code", od, .fields vs, sl⟩) (h : codeChk vs c P = true) : PySem.W.codeHdIn K c P = true := by
  unfold PySem.W.codeHdIn
  rw [lc]
  exact h
end SE

set_option maxHeartbeats 4000000
/-! displays with a star, `<` of tuples, t[::-1] -/
namespace SE
open PySem PySem.Spec PyProof.Rows L2
section
variable {X : Cx} {W : Wx} {ρ : En} {pos : Pos}
theorem ea_star {e : Expr} {es : List Expr} {p : Pos} {re : R PyData} {rs : R (List PyData)} (he : EvR X W ρ e re) (hs : EvA X W ρ es rs) (hst : starEach (.Starred e p :: es) X.env = (true, eval e X.env) :: starEach es X.env := by rfl) :
    EvA X W ρ (.Starred e p :: es) (re.bind fun d => (R.of (itemsD d)).bind fun xs => rs.bind fun ys => .ok (xs ++ ys)) := by
  refine ⟨PA.imp (StX.pa_star he.pe hs.pa hst) fun σ H Q h => ?_⟩
  obtain ⟨F, G, px, st, q⟩ := h
  refine ⟨F, G, px, st, Go.bind q fun d q1 v H1 G1 e1 st1 dv => ?_⟩
  have q1' := Go.bind (P' := fun xs => Go W F (rs.bind fun ys => .ok (xs ++ ys)) (VlA X.K W px ρ F G σ Q)) q1 fun k q3 => q3
  obtain ⟨xs, e2, q2⟩ := Go.of q1'
  have seq : ∃ a us, v = V.ref a ∧ (SqT X.K H1 a us ∨ SqL X.K H1 a us) ∧ RpAll X.K G1 us xs := by
    cases dv with
    | @lst a us ds h1 h2 => cases e2; exact ⟨a, us, rfl, .inr (.inl (Rd.same st1.gh h1)), h2⟩
    | @tup a us ds h1 h2 => cases e2; exact ⟨a, us, rfl, .inl (Same.seqT st1.gh h1), h2⟩
    | _ => cases e2
  obtain ⟨a, us, rfl, hx, hr⟩ := seq
  exact ⟨a, us, rfl, hx, F, G1, px, st1, Go.bind q2 fun ys q3 vs H2 G2 e3 st2 rv => q3 _ H2 G2 (e1.trans e3) st2 ((dps_same e3 _ hr).app rv)⟩
theorem ea_consG {e : Expr} {es : List Expr} {re : R PyData} {rs : R (List PyData)} (he : EvR X W ρ e re) (hs : EvA X W ρ es rs) (hst : starEach (e :: es) X.env = (false, eval e X.env) :: starEach es X.env := by rfl) :
    EvA X W ρ (e :: es) (re.bind fun d => rs.bind fun ds => .ok (d :: ds)) := by
  refine ⟨PA.imp (pa_cons he.pe hs.pa hst) fun σ H Q h => ?_⟩
  obtain ⟨F, G, px, st, q⟩ := h
  refine ⟨F, G, px, st, Go.bind q fun d q1 v H1 G1 e1 st1 dv => ?_⟩
  refine ⟨F, G1, px, st1, Go.bind q1 fun ds q2 vs H2 G2 e2 st2 dvs => ?_⟩
  exact q2 (v :: vs) H2 G2 (e1.trans e2) st2 (.cons (dp_same e2 _ dv) dvs)
def tupD (ds : List PyData) : Option PyData := if ds.length ≤ sizeLine then some (.tuple ds) else none
/-- a tuple's display, however long -/
theorem ev_tupG {es : List Expr} {x1} {r : R (List PyData)} (h : EvA X W ρ es r) : EvR X W ρ (.Tuple es x1 pos) (r.bind fun ds => R.of (tupD ds)) := by
  refine ⟨PE.imp (pe_tup h.pa) fun σ H Q h => ?_⟩
  obtain ⟨F, G, px, st, q⟩ := h
  refine ⟨F, G, px, st, Go.bind q fun ds q1 vs H1 G1 e1 st1 dv => ?_⟩
  obtain ⟨d, e2, q2⟩ := Go.of q1
  unfold tupD at e2
  split at e2
  · rename_i hl
    cases e2
    refine ⟨by rw [RpAll.len dv]; exact hl, fun p hp => ?_⟩
    have gp := st1.gh.free hp
    exact q2 _ _ _ (e1.trans (Same.new gp)) (st1.alloc (o := .tup vs) hp) (.tup (SqT.of upd_same) (dps_same (Same.new gp) _ dv))
  · cases e2
/-- x < y, ints or tuples of ints -/
def dLtX : PyData → PyData → Option PyData
  | .int i, .int j => some (.bool (decide (i < j)))
  | .tuple xs, .tuple ys => (asInts xs).bind fun ns => (asInts ys).map fun ms => .bool (HT.lexLt ns ms)
  | _, _ => none
theorem op_ltX (hu : X.A.units < cLine) : OpR X (compareOp .Lt) (r2D X.K dLtX) := by
  intro pins s σ H x y v u Q I rx ry h
  obtain ⟨W, F, G, px, ρ, σ', dx, dy, d, st, hx, hy, e, q⟩ := h
  cases hx with
  | int i =>
    cases hy with
    | int j =>
      cases e
      exact op_lt pins s σ H _ _ v u Q I rx ry ⟨i, j, rfl, rfl, q.at st (.bl _)⟩
    | _ => cases e
  | @tup a xs ds h1 h2 =>
    cases hy with
    | @tup b ys es h3 h4 =>
      simp only [dLtX] at e
      cases e1 : asInts ds with
      | none => rw [e1] at e; cases e
      | some ns =>
        cases e2 : asInts es with
        | none => rw [e1, e2] at e; cases e
        | some ms =>
          rw [e1, e2] at e
          cases e
          have := asInts_eq e1
          subst this
          have := asInts_eq e2
          subst this
          have hx := rps_ints h2
          subst hx
          have hy := rps_ints h4
          subst hy
          exact op_ltT hu pins s σ H _ _ v u Q I rx ry ⟨a, b, ns, ms, rfl, rfl, Same.seqT st.gh h1, Same.seqT st.gh h3, q.at st (.bl _)⟩
    | _ => cases e
  | _ => cases e
end
section
variable {prog : Program} {w : World} {A : Around} {E : Value → Shared → Prop} {s : Shared}
theorem applied_rev {sl : Addr} {vs : Value} {n : Nat} {Q : Int × Int × Nat → Shared → Prop} (hs : s.heap.IsSliceOf sl .none .none vs) (ps : IsPart vs (some (-1))) (h : Q ((n : Int) - 1, -1, n) s) :
    wpAny (model prog w) A (Builtin.Slice.sliceApplied (.ref sl) (pure (n : Int))) Q E s := by
  obtain ⟨os, hos, hcs, hds⟩ := id hs
  unfold Builtin.Slice.sliceApplied Builtin.Slice.sliceFields
  refine wpAny_bind (wpAny_bind (wpAny_field hos hds (x := .none) rfl (wpAny_bind (wpAny_field hos hds (x := .none) rfl (wpAny_bind (wpAny_field hos hds (x := vs) rfl (wpAny_pure ?_)))))))
  refine wpAny_bind (HT.slicePart_ ps ?_)
  show wpAny _ _ (if ((-1 : Int) == 0) = true then _ else _) _ _ s
  rw [if_neg (by decide)]
  refine wpAny_bind (HT.slicePart_ .none (wpAny_bind (HT.slicePart_ .none (wpAny_bind (wpAny_pure ?_)))))
  have e1 : Builtin.Slice.sliceAdjust none none (-1) (n : Int) = ((n : Int) - 1, -1) := rfl
  have e2 : Builtin.Slice.slicePlaces ((n : Int) - 1) (-1) (-1) = n := by
    unfold Builtin.Slice.slicePlaces
    rw [if_neg (by decide)]
    split
    · rw [show (-(-1 : Int)) = 1 from rfl, Int.ediv_one]; omega
    · omega
  show wpAny _ _ (match Builtin.Slice.sliceAdjust none none (-1) (n : Int) with | (lo, hi) => pure (lo, (-1 : Int), Builtin.Slice.slicePlaces lo hi (-1))) _ _ s
  rw [e1]
  show wpAny _ _ (pure ((n : Int) - 1, (-1 : Int), Builtin.Slice.slicePlaces ((n : Int) - 1) (-1) (-1))) _ _ s
  rw [e2]
  exact wpAny_pure h
theorem filterMap_map {α β : Type} {f : α → Option β} {g : α → β} : ∀ l : List α, (∀ k ∈ l, f k = some (g k)) → l.filterMap f = l.map g
  | [], _ => rfl
  | x :: l, h => by rw [List.filterMap_cons, h x List.mem_cons_self, List.map_cons, filterMap_map l fun k hk => h k (List.mem_cons_of_mem _ hk)]
theorem pick_rev (xs : List Value) : (List.range xs.length).filterMap (fun (k : Nat) => xs[((xs.length : Int) - 1 + (k : Int) * (-1)).toNat]?) = xs.reverse := by
  refine List.ext_getElem? fun i => ?_
  have key : (List.range xs.length).filterMap (fun (k : Nat) => xs[((xs.length : Int) - 1 + (k : Int) * (-1)).toNat]?) = (List.range xs.length).map fun k => xs.reverse.getD k .none := by
    refine filterMap_map _ fun k hk => ?_
    have hk := List.mem_range.mp hk
    have h1 : ((xs.length : Int) - 1 + (k : Int) * (-1)).toNat = xs.length - 1 - k := by omega
    have h2 : xs.length - 1 - k < xs.length := by omega
    rw [h1, List.getElem?_eq_getElem h2]
    rw [List.getD_eq_getElem?_getD, List.getElem?_reverse hk, List.getElem?_eq_getElem h2]
    rfl
  rw [key]
  by_cases hi : i < xs.length
  · simp [hi, List.getElem?_reverse, List.getD_eq_getElem?_getD]
  · rw [List.getElem?_eq_none (by simp; omega), List.getElem?_eq_none (by simp; omega)]
theorem getItem_tuple_rev {t sl : Addr} {items : Array Value} {vs : Value} {Q : Value → Shared → Prop} (ht : IsTup s.heap t items) (hs : s.heap.IsSliceOf sl .none .none vs) (ps : IsPart vs (some (-1)))
    (h : Q (.ref s.heap.objs.size) { s with heap := s.heap.push { cls := .type "tuple", data := .seq items.toList.reverse.toArray } }) (hsz : items.size ≤ sizeLine) : wpAny (model prog w) A (getItem (.ref t) (.ref sl)) Q E s := by
  have fits : sizeOk (.seq items.toList.reverse.toArray) := by
    show items.toList.reverse.toArray.size ≤ sizeLine
    rw [List.size_toArray, List.length_reverse, Array.length_toList]
    exact hsz
  obtain ⟨os, hos, hcs, hds⟩ := id hs
  have ts : s.TypeIs (.ref sl) "slice" := ⟨os, hos, hcs⟩
  unfold getItem
  try with_reducible refine wpAny_holding ?_
  first | refine wpAny_bind (wpAny_pure ?_) | skip
  apply wpAny_bind (wpAny_sequenceKey ht.typeIs (by decide) ?_)
  apply wpAny_bind (wpAny_callSpecial?_slot (name := Str.ofString "__getitem__") ht.typeIs PyProof.Rows.slot_tuple_getitem (wpAny_call_entry PyProof.Rows.slot_tuple_getitem ht.typeIs entry_tuple_getitem ?_ (args_tuple_getitem _ _)))
  show wpAny _ _ (Builtin.Tuple.tupleItemsOf (.ref t) >>= _) _ _ s
  apply wpAny_bind (tupleItemsOf_ ht ?_)
  apply wpAny_bind (wpAny_typeOf ts ?_)
  rw [if_pos (by decide)]
  apply wpAny_bind (applied_rev hs ps ?_)
  have no : ¬ ((((items.size : Int) - 1) == 0 && (-1 : Int) == 1 && items.size == items.size) = true) := by simp
  show wpAny _ _ (if ((((items.size : Int) - 1) == 0 && (-1 : Int) == 1 && items.size == items.size) = true) then _ else _) _ _ s
  have pk : ((List.range items.size).filterMap fun (k : Nat) => items[((items.size : Int) - 1 + (k : Int) * (-1)).toNat]?).toArray = items.toList.reverse.toArray := by
    have := pick_rev items.toList
    rw [Array.length_toList] at this
    simp only [Array.getElem?_toList] at this
    rw [this]
  rw [if_neg no, pk]
  first
    | exact wpAny_bind (m := Builtin.Tuple.tupleExact _) (wpAny_newObj_type (wpAny_pure ⟨_, rfl, wpAny_pure h⟩) fits)
    | exact wpAny_bind (m := Builtin.Tuple.tupleExact _) (wpAny_newObj_type (wpAny_bind (wpAny_pure (wpAny_pure ⟨_, rfl, wpAny_pure h⟩))) fits)
    | exact wpAny_bind (wpAny_bind (m := Builtin.Tuple.tupleExact _) (wpAny_newObj_type (wpAny_pure (wpAny_pure ⟨_, rfl, wpAny_pure h⟩)) fits))
    | exact wpAny_bind (wpAny_bind (m := Builtin.Tuple.tupleExact _) (wpAny_newObj_type (wpAny_pure ⟨_, rfl, wpAny_pure h⟩) fits))
end
section
variable {X : Cx} {W : Wx} {ρ : En} {pos : Pos}
def tRevT (K : PySem.W.Frag) (te : TE) : TE := fun σ H Q => te σ H fun x H1 => ∃ a xs, x = .ref a ∧ SqT K H1 a xs ∧ ∀ p, H1 p = none → Q (.ref p) (upd H1 p (.tup xs.reverse))
theorem pe_revT {e : Expr} {te : TE} {k : Nat} {p1 p2 p3 : Pos} (he : PE X e te) : PE X (.Subscript e (.Slice none none (some (.UnaryOp .USub (.Constant (.int 1) k p1) p2)) p3) pos) (tRevT X.K te) := by
  refine ⟨fun pins s σ H Q I h => Subscript_ (thn (he.run pins s σ H _ I h) fun v s1 q => ?_)⟩
  obtain ⟨x, H1, I1, r1, a, xs, ex, hx, q⟩ := q
  subst ex
  cases r1
  have step : PO X (some (.UnaryOp .USub (.Constant (.int 1) k p1) p2)) (tPart (tUn (rU fun i => .int (-i)) (tC (.int 1)))) := po_some (pe_un un_neg pe_int)
  refine wpAny_Slice (thn (po_none.run pins s1 σ H1 (fun o H2 => o = none ∧ H2 = H1) I1 ⟨rfl, rfl⟩) fun vl s2 q2 => ?_)
  obtain ⟨l, H2, I2, pl, el, e2⟩ := q2
  subst el e2
  refine thn (po_none.run pins s2 σ H2 (fun o H3 => o = none ∧ H3 = H2) I2 ⟨rfl, rfl⟩) fun vu s3 q3 => ?_
  obtain ⟨u, H3, I3, pu, eu, e3⟩ := q3
  subst eu e3
  refine thn (step.run pins s3 σ H3 (fun o H4 => o = some (-1) ∧ H4 = H3) I3 ⟨1, rfl, -1, rfl, rfl, rfl⟩) fun vs s4 q4 => ?_
  obtain ⟨o, H4, I4, ps, eo, e4⟩ := q4
  subst eo e4
  cases pl
  cases pu
  have I5 : Inv X pins σ H4 { s4 with heap := s4.heap.push { cls := .type "slice", data := .fields #[.none, .none, vs] } } := I4.kept (t' := s4.toks) fun b ob q => Heap.get?_push_of_some _ q
  obtain ⟨its, r, ht, hz⟩ := I5.tuple hx
  have hlen := r.length
  show wpAny (model X.prog X.w) X.A (subscriptTail e (.Slice none none (some (.UnaryOp .USub (.Constant (.int 1) k p1) p2)) p3) (.ref a) (.ref s4.heap.objs.size)) (EP X pins σ Q) X.xe { s4 with heap := s4.heap.push { cls := .type "slice", data := .fields #[.none, .none, vs] } }
  refine tail_any (ops := [.ref a, .ref s4.heap.objs.size]) ht.typeIs PyProof.Rows.slot_tuple_getitem.lookup ?_ (by with_unfolding_all rfl)
  refine getItem_tuple_rev ht (Heap.IsSliceOf.new _ .none .none vs) ps ?_ (by rw [List.size_toArray]; omega)
  refine ⟨.ref _, _, I5.laid (t' := s4.toks) (o := .tup xs.reverse) (fun b ob q => Heap.get?_push_of_some _ q) (Nat.le_refl _) ?_, rfl, q _ (I5.hok.fresh (Nat.le_refl _))⟩
  exact ⟨by rw [List.length_reverse]; exact hz, _, r.reverse, IsTup.new _ _⟩
theorem RpAll.rev {K : PySem.W.Frag} {H : Hp} : ∀ {vs : List V} {ds : List PyData}, RpAll K H vs ds → RpAll K H vs.reverse ds.reverse
  | _, _, .nil => .nil
  | _, _, .cons h t => by rw [List.reverse_cons, List.reverse_cons]; exact (RpAll.rev t).app (.one h)
/-- t[::-1] -/
def dRevT : PyData → Option PyData
  | .tuple ds => some (.tuple ds.reverse)
  | _ => none
theorem ev_revT {e : Expr} {re : R PyData} {k : Nat} {p1 p2 p3 : Pos} (he : EvR X W ρ e re) : EvR X W ρ (.Subscript e (.Slice none none (some (.UnaryOp .USub (.Constant (.int 1) k p1) p2)) p3) pos) (re.bind fun d => R.of (dRevT d)) := by
  refine ⟨PE.imp (pe_revT he.pe) fun σ H Q h => ?_⟩
  obtain ⟨F, G, px, st, q⟩ := h
  refine ⟨F, G, px, st, Go.bind q fun d q1 v H1 G1 e1 st1 dv => ?_⟩
  obtain ⟨d', e2, q2⟩ := Go.of q1
  cases dv with
  | @tup a xs ds h1 h2 =>
    cases e2
    exact ⟨a, xs, rfl, Same.seqT st1.gh h1, (q2.grow e1).newT st1 h2.rev⟩
  | _ => cases e2
/-- x * y, ints; a tuple some times -/
def dMulX : PyData → PyData → Option PyData
  | .int i, .int j => dMul (.int i) (.int j)
  | .tuple ds, .int k => if ds ≠ [] ∧ 2 ≤ k ∧ k ≤ 1000 ∧ ds.length ≤ 1000 then some (.tuple (List.replicate k.toNat ds).flatten) else none
  | _, _ => none
theorem op_mulX : OpR X (binaryOp .Mult) (r2D X.K dMulX) := by
  intro pins s σ H x y v u Q I rx ry h
  obtain ⟨W, F, G, px, ρ, σ', dx, dy, d, st, hx, hy, e, q⟩ := h
  cases hx with
  | int i =>
    cases hy with
    | int j => exact op_mul pins s σ H _ _ v u Q I rx ry (od_mul W F G H px ρ σ' _ _ _ _ d Q st (.int i) (.int j) e q)
    | _ => cases e
  | @tup a xs ds h1 h2 =>
    cases hy with
    | int k =>
      simp only [dMulX] at e
      split at e
      · rename_i hc
        cases e
        have hl := RpAll.len h2
        refine op_repT pins s σ H _ _ v u Q I rx ry ⟨a, k, xs, rfl, rfl, Same.seqT st.gh h1, fun z => ?_, hc.2.1, hc.2.2.1, by rw [hl]; exact hc.2.2.2, q.newT st (rp_rep h2 _)⟩
        rw [z] at hl
        exact hc.1 (List.length_eq_zero_iff.mp hl.symm)
      · cases e
    | _ => cases e
  | _ => cases e
end
end SE

set_option maxHeartbeats 4000000
/-! own exceptions without fields: raised, let out, heard -/
namespace SE
open PySem PySem.Spec PyProof.Rows L2 LamX
/-- the wish of what is let out: classes of the program, by name -/
abbrev Wc (cls : Str → Option Addr) (E : XK) (tabs : List (Addr × Str)) : Wx := ⟨fun c ds H' => ∃ C, cls c = some C ∧ ds = [] ∧ E (.ref C) none H', tabs⟩
theorem Go.wish {α : Type} {W W' : Wx} {F : Hp} {r : R α} {P : α → Prop} (h : Go W F r P) (e : ∀ c ds H', W.ex c ds H' → W'.ex c ds H') (t : W.tabs = W'.tabs) : Go W' F r P := by
  cases r with
  | ok a => exact h
  | ex c ds => exact fun H' s1 s2 => e c ds H' (h H' s1 (t ▸ s2))
  | no => exact h
theorem StG.wt {K : PySem.W.Frag} {W W' : Wx} {F G H : Hp} {px : Px} {ρ : En} {σ : List (Option V)} (st : StG K W F px ρ σ H G) (e : W'.tabs = W.tabs) : StG K W' F px ρ σ H G := st.w e
theorem EvR.weaken {X : Cx} {W W' : Wx} {ρ : En} {e : Expr} {r : R PyData} (h : EvR X W' ρ e r) (i : ∀ c ds H', W.ex c ds H' → W'.ex c ds H') (t : W.tabs = W'.tabs) : EvR X W ρ e r := by
  refine ⟨PE.imp h.pe fun σ H Q q => ?_⟩
  obtain ⟨F, G, px, st, q⟩ := q
  exact ⟨F, G, px, st.wt t.symm, (q.imp fun d q1 v H' G' e' st' rv => q1 v H' G' e' (st'.wt t) rv).wish i t⟩
/-- what stands of a class of the program that is over a built-in error, without an __init__ of its own -/
structure ExcF (K : PySem.W.Frag) (mg : Str → Option Value) (x : Str) (C : Addr) : Prop where
  g : mg x = some (.ref C)
  q : PySem.W.excIn K C [.type "ValueError", .type "Exception", .type "BaseException", .type "object"] "ValueError.__new__" = true
  k : PySem.W.keepIn K (.ref C) = true
  b : PySem.W.subIn K (.ref C) (.type "BaseException") = some true
  t : PySem.W.typeIn K (.ref C) = some (.type "type")
  m : PySem.W.exmOne K (.ref C) (.ref C) = some true
section
variable {X : Cx} {C : Addr} {x : Str} {p pos pos2 : Pos}
theorem pmk_own0 (F : ExcF X.K X.mg x C) (hg : Gl X x) (hdb : (x == ("__debug__" : Str)) = false := by decide) : PMk X (.Call (.Name x p) [] [] pos) (fun _ H Q => Q (.ref C) none H) := by
  intro pins s σ H Q I h
  refine wpAny_Call_Name_kw (ld_glob I hg F.g ?_ hdb)
  refine PySem.W.callWith_K0 I.kIn F.k ?_
  show wpAny _ _ (call (.ref C) []) _ _ _
  obtain ⟨bm, N, nm, qn, bs, hdct, sn, sub, ab, col, dd, k0, k1, k2, k3, k5, mN, hC, hN, hni, T⟩ := exc_obj I.kIn F.q
  refine wpAny_call_exc_subT PySem.F.excBase_ValueError T hC hN hni (fun h' e hm => ?_) (Nat.zero_le _)
  exact mk_of I hm (raises_own F.b F.t) h (I.hok.gone hm.new)
theorem eb_raise0 {T S B : Type} {sh : Sh T} {ρ : En} {E : S → En} {EB : B → En} {cls : Str → Option Addr} {E0 : XK} {tabs : List (Addr × Str)} (tk : Takes X (fun c d _ H => E0 c d H)) (F : ExcF X.K X.mg x C) (hcl : cls x = some C) (hc : X.calm = true := by rfl) (hg : Gl X x := by rfl) (hdb : (x == ("__debug__" : Str)) = false := by decide) :
    EvB X (Wc cls E0 tabs) sh ρ E EB [.Raise (some (.Call (.Name x p) [] [] pos)) none pos2] (.ex x [] : R (Fl T S B)) := by
  refine ⟨PSs.imp (pss_one (ps_raise hc tk (pmk_own0 F hg hdb))) fun D σ H q => ?_⟩
  obtain ⟨F', G, px, st, q⟩ := q
  obtain ⟨C', e1, _, e2⟩ := q H st.fh fun p hp => (st.tb p hp).1
  rw [hcl] at e1
  cases e1
  exact e2
end
/-- a def that may let such out -/
def spX (K : PySem.W.Frag) (tabs : List (Addr × Str)) (cls : Str → Option Addr) (n : Nat) (m : List PyData → R PyData) : Sp := fun vs H Q E =>
  ∃ F G px ds, vs.length = n ∧ StG K (W0 tabs) F px [] [] H G ∧ RpAll K G vs ds ∧ Go (Wc cls E tabs) F (m ds) fun d => ∀ v H' G', Same G G' → StG K (W0 tabs) F px [] [] H' G' → Rp K G' v d → Q v H'
section
variable {P : Program} {w : World} {K : PySem.W.Frag} {mg : Str → Option Value} {base : Heap} {tabs : List (Addr × Str)}
theorem fn_X {x qual : Str} {st : Stmt} {f : Addr} {fd : FuncData} {N ps : List Str} {k : Nat} {cls : Str → Option Addr} (F : Fun K x qual st f fd) (S : FnScope N ps (defScope st)) {m : List PyData → R PyData} (r : List PyData → R (Fl PyData Empty Empty))
    (hm : ∀ ds, m ds = (r ds).bind outF)
    (body : ∀ ds, ds.length = ps.length → ∀ (cdv : Value) (A : Around) (outer : List Env) (s : Shared) (H : Hp) (E : XK), Room k (A.deeper (envOfC qual (defScope st) s.heap.objs.size f cdv)) →
      EvB (cxOf (L2.CX P w) P w K mg base N qual (defScope st) f cdv A outer s H E) (Wc cls E tabs) (shD N.length) (startE N.length ds) eE eE (defBody st) (r ds)) :
    FnOk P w K mg base (L2.CX P w) (k + 1) f fd ps (spX K tabs cls ps.length m) := by
  refine F.okX S (fun vs H Q E h => ?_) (fun cdv A outer s H vs Q E hr h => ?_)
  · obtain ⟨_, _, _, _, h, _⟩ := h
    exact h
  · obtain ⟨F', G, px, ds, hl, st, rv, q⟩ := h
    have hl2 : ds.length = ps.length := (RpAll.len rv).symm.trans hl
    refine ⟨_, (body ds hl2 cdv A outer s H E hr).pss, F', G, px, ⟨st.gh, st.fh, ⟨[], ?_, fun _ _ z => by cases z⟩, st.pv, st.nd, st.tb, st.nt⟩, ?_⟩
    · unfold L2.start startE
      rw [hl, ← hl2]
      exact slots_start rv
    · rw [hm] at q
      refine Go.bind q fun fl q1 => ?_
      cases fl with
      | rt t => exact fun v σ' H' G' e st' rd => q1 v H' G' e (st'.clear.wt rfl) rd
      | nx e => exact nomatch e
      | bk e => exact nomatch e
      | ct e => exact nomatch e
end
section
variable {X : Cx} {tabs : List (Addr × Str)} {ρ : En} {pos p : Pos}
/-- a call of such a def -/
theorem ev_callX {k n : Nat} {f : Addr} {fd : FuncData} {ps : List Str} {x : Str} {e : Expr} {es : List Expr} {m : List PyData → R PyData} {rs : R (List PyData)} {cls : Str → Option Addr} {E' : XK} (F : FnOk X.prog X.w X.K X.mg X.base (L2.CX X.prog X.w) k f fd ps (spX X.K tabs cls n m)) (hx : Passes (L2.CX X.prog X.w) X E') (hr : Room k X.A) (hm : X.mg x = some (.ref f)) (hk : PySem.W.keepIn X.K (.ref f) = true) (hb : Binds X.K fd ps [])
    (ha : EvA X (Wc cls E' tabs) ρ (e :: es) (rs)) (hn : ∀ ds, rs = .ok ds → ds.length = n) (hg : Gl X x := by rfl) (hdb : (x == ("__debug__" : Str)) = false := by decide) (he : starEach (e :: es) X.env = (false, eval e X.env) :: starEach es X.env := by rfl) (hpl : (backTo pos (starEach es X.env)).any (·.1) = false := by rfl) :
    EvR X (Wc cls E' tabs) ρ (.Call (.Name x p) (e :: es) [] pos) (rs.bind m) := by
  refine ⟨PE.imp (pe_call F hr hg hm hk hb .nil hx ha.pa hdb he hpl) fun σ H Q h => ?_⟩
  obtain ⟨F', G, px, st, q⟩ := h
  cases e1 : rs with
  | ok ds =>
    rw [e1] at q
    have hl := hn ds e1
    refine ⟨F', G, px, st, fun vs H1 G1 e2 st1 rv => ?_⟩
    obtain ⟨px', st2, back⟩ := st1.callee
    rw [List.append_nil]
    exact ⟨F', G1, px', ds, by rw [RpAll.len rv]; exact hl, st2, rv, (show Go (Wc cls E' tabs) F' (m ds) _ from q).imp fun d q1 v H' G' e' st' rd => q1 v H' G' (e2.trans e') (back H' G' e' st') rd⟩
  | ex _ _ => rw [e1] at q; exact ⟨F', G, px, st, q⟩
  | no => rw [e1] at q; exact q.elim
/-- a call of a def that lets nothing out, where something may be let out -/
theorem ev_callC {W : Wx} {k n : Nat} {f : Addr} {fd : FuncData} {ps : List Str} {x : Str} {e : Expr} {es : List Expr} {m : List PyData → R PyData} {rs : R (List PyData)} (F : FnOk X.prog X.w X.K X.mg X.base CX0 k f fd ps (spF X.K W.tabs n m)) (hr : Room k X.A) (hm : X.mg x = some (.ref f)) (hk : PySem.W.keepIn X.K (.ref f) = true) (hb : Binds X.K fd ps [])
    (ha : EvA X W ρ (e :: es) (rs)) (hn : ∀ ds, rs = .ok ds → ds.length = n) (hg : Gl X x := by rfl) (hdb : (x == ("__debug__" : Str)) = false := by decide) (he : starEach (e :: es) X.env = (false, eval e X.env) :: starEach es X.env := by rfl) (hpl : (backTo pos (starEach es X.env)).any (·.1) = false := by rfl) :
    EvR X W ρ (.Call (.Name x p) (e :: es) [] pos) (rs.bind fun ds => (m ds).calm) := by
  refine ⟨PE.imp (pe_call F hr hg hm hk hb .nil pass0 ha.pa hdb he hpl) fun σ H Q h => ?_⟩
  obtain ⟨F', G, px, st, q⟩ := h
  cases e1 : rs with
  | ok ds =>
    rw [e1] at q
    have hl := hn ds e1
    refine ⟨F', G, px, st, fun vs H1 G1 e2 st1 rv => ?_⟩
    obtain ⟨px', st2, back⟩ := st1.callee
    rw [List.append_nil]
    refine ⟨F', G1, px', ds, by rw [RpAll.len rv]; exact hl, st2, rv, ?_⟩
    have q' : Go W F' ((m ds).calm) (VlA X.K W px ρ F' G σ (fun _ _ => True) |> fun _ => Vl X.K W px ρ F' G σ Q) := q
    cases hm2 : m ds with
    | ok d =>
      rw [hm2] at q'
      exact fun v H' G' e' st' rd => q' v H' G' (e2.trans e') (back H' G' e' st') rd
    | ex _ _ => rw [hm2] at q'; exact q'.elim
    | no => rw [hm2] at q'; exact q'.elim
  | ex _ _ => rw [e1] at q; exact ⟨F', G, px, st, q⟩
  | no => rw [e1] at q; exact q.elim
/-- what may be let out is heard as a text -/
def R.heard (e0 ret : Str) : R PyData → R PyData
  | .ok d => .ok d
  | .ex c [] => if c = e0 then .ok (.str ret) else .no
  | _ => .no
theorem takes_len {W : WX} (t : Takes X W) : Takes X (fun c d σ H => σ.length = X.N.length → W c d σ H) := fun u s' ⟨a, B, sI, pins, σ, H, cls, d, e, I, nb, up, sky, na, os, ag, w⟩ =>
  t u s' ⟨a, B, sI, pins, σ, H, cls, d, e, I, nb, up, sky, na, os, ag, w I.len⟩
/-- what hearing makes of the lambda's reading -/
def THeard (K : PySem.W.Frag) (CS : Addr) (ret : Str) : (XK → Hp → VK → Prop) → Hp → VK → Prop := fun tl H Q =>
  tl (fun cls _ H' => ∃ b, PySem.W.exmOne K cls (.ref CS) = some b ∧ (b = true → Q (.str ret) H') ∧ (b = false → False)) H fun v H1 => ∃ v', (some (some v) : Option (Option V)) = some (some v') ∧ Q v' H1
/-- found = None; try: found = a() / except e: found = ret; return found -/
theorem heard_gives {x a e q ret y : Str} {sg : Scope} {g CS : Addr} {cdg : Value} {j j1 : Nat} {p0 p1 p2 p3 p4 p5 p6 p7 p8 p9 p10 p11 p12 p13 p14 : Pos} (Sg : FnScope [a, y] [a] sg) (hge : sg.names.lookup e = some .globalImplicit) (hme : X.mg e = some (.ref CS)) (hde : (e == ("__debug__" : Str)) = false) (hy : sg.names.lookup y = some .local) (hyd : (y == ("__debug__" : Str)) = false) (hyc : (y == ("__classdict__" : Str)) = false)
    (hs1 : ∀ X' : Cx, swapsWith (.Constant .none j1 p1) (some (.Name y p0)) p2.line X'.env = pure false := by intro _; rfl) (hs2 : ∀ X' : Cx, swapsWith (.Call (.Name a p4) [] [] p5) (some (.Name y p3)) p6.line X'.env = pure false := by intro _; rfl) (hs3 : ∀ X' : Cx, swapsWith (.Constant (.str ret) j p9) (some (.Name y p8)) p10.line X'.env = pure false := by intro _; rfl) :
    GivesTo X [a, y] x sg g cdg [.Assign [.Name y p0] (.Constant .none j1 p1) p2, .Try [.Assign [.Name y p3] (.Call (.Name a p4) [] [] p5) p6] [.ExceptHandler (some (.Name e p7)) none [.Assign [.Name y p8] (.Constant (.str ret) j p9) p10] p11] [] [] p12, .Return (some (.Name y p13)) p14] a q (THeard X.K CS ret) := by
  intro f c' s H Q tl act hc h
  have hgl : Gl (cxOf C8.CX0 X.prog X.w X.K X.mg X.base [a, y] x sg g cdg X.A X.stack s H C8.E0).nox e := hge
  have nd : ([a, y] : List Str).Nodup := Sg.nd
  refine ⟨_, pss_cons (ps_set (i := 1) nd rfl (.inl hy) pe_non (hs1 _) (.inr hy)) (pss_cons (ps_try_only (X := (cxOf C8.CX0 X.prog X.w X.K X.mg X.base [a, y] x sg g cdg X.A X.stack s H C8.E0).nox) (c := .ref CS)
      (tb := fun W D σ H => ∃ Ech : XK, (∀ cls d σ' H', Ech cls d H' → σ'.length = 2 → W cls d σ' H') ∧ σ[0]? = some (some (.ref f)) ∧ H c' = some (CodeO c' q) ∧ tl Ech H fun v H1 => D.nx (σ.set 1 (some v)) H1)
      rfl rfl ⟨hgl, hde, .inl hme⟩ L2.takes0 (fun W pn xe tk _ => ?_) (fun a' oe cls d pn _ _ => pss_one (ps_set (i := 1) nd rfl (.inl hy) pe_str (hs3 _) (.inr hy))))
      (pss_one (ps_ret (pe_var (i := 1) rfl (.inl hy) hyd hyc)))), ?_⟩
  · refine ⟨fun pins s' σ H' D I h' => ?_⟩
    obtain ⟨Ech, hW, h1, h2, h3⟩ := h'
    have hp := act _ pn xe Ech p4 p5 (takes_len tk) (fun cls d σ' H' h hl => hW cls d σ' H' h hl)
    have hq := pss_one (ps_set (i := 1) (pos := p6) (pos' := p3) nd rfl (.inl hy) hp (hs2 _) (.inr hy))
    exact hq.run pins s' σ H' D I ⟨h1, h2, h3⟩
  · refine ⟨fun cls _ H' => ∃ b, PySem.W.exmOne X.K cls (.ref CS) = some b ∧ (b = true → Q (.str ret) H') ∧ (b = false → False), fun cls d σ' H' ⟨b, e1, e2, e3⟩ hl => ⟨b, e1, fun hb a _ => ?_, fun hb => e3 hb⟩, rfl, hc, ?_⟩
    · have hl : 1 < σ'.length := by omega
      exact ⟨.str ret, List.getElem?_set_self hl, e2 hb⟩
    · exact h
mutual
theorem rp_flat {K : PySem.W.Frag} {G G' : Hp} (h : ∀ b u, G b = some u → (∀ ws, u ≠ .lst ws) → G' b = some u) : ∀ (d : PyData) {v : V}, flatD d = true → Rp K G v d → Rp K G' v d
  | .none, _, _, r => by cases r; exact .non
  | .bool b, _, _, r => by cases r; exact .bl b
  | .int i, _, _, r => by cases r; exact .int i
  | .str x, _, _, r => by cases r; exact .str x
  | .list ds, _, f, _ => by simp at f
  | .tuple ds, _, f, r => by
    simp at f
    cases r with
    | @tup b xs _ hs ha =>
      refine .tup ?_ (rps_flat h ds f ha)
      rcases hs with (hs | ⟨o, hs⟩) | hs
      · exact .inl (.inl (h _ _ hs fun ws z => by cases z))
      · exact .inl (.inr ⟨o, h _ _ hs fun ws z => by cases z⟩)
      · exact .inr hs
  | .dict kv, _, f, _ => by rw [flatD] at f; cases f
theorem rps_flat {K : PySem.W.Frag} {G G' : Hp} (h : ∀ b u, G b = some u → (∀ ws, u ≠ .lst ws) → G' b = some u) : ∀ (ds : List PyData) {vs : List V}, flatL ds = true → RpAll K G vs ds → RpAll K G' vs ds
  | [], _, _, r => by cases r; exact .nil
  | d :: ds, _, f, r => by
    simp at f
    cases r with
    | cons h1 h2 => exact .cons (rp_flat h d f.1 h1) (rps_flat h ds f.2 h2)
end
theorem ev_heard {x a y e0 ret : Str} {g c P CS : Addr} {k : Nat} {st : Stmt} {fd : FuncData} {params : Arguments} {body : Expr} {scope : Scope} {lpos : Pos} {r : R PyData} {cls : Str → Option Addr} (Fg : Fun X.K x x st g fd) (hm : X.mg x = some (.ref g)) (hb : L2.Binds X.K fd [a] []) (Sg : FnScope [a, y] [a] (defScope st)) (hva : Vis (defScope st) a)
    (hG : ∀ cdv, GivesTo X [a, y] x (defScope st) g cdv (defBody st) a (X.env.qual ++ "<lambda>") (THeard X.K CS ret)) (Fx : ExcF X.K X.mg e0 CS) (hcl : cls e0 = some CS)
    (TB : TabB X.base X.mg c P) (hcode : X.env.code = .ref c) (hmT : (P, X.env.qual ++ "<lambda>") ∈ tabs) (hu : ∀ p ∈ tabs, p.1 = P → p.2 = X.env.qual ++ "<lambda>") (hr : Room (k + 2) X.A) (L : LamS X.env.scope scope) (hdef : defaultsOf params X.env = ([], []))
    (hbind : ∀ (q : Str) (cl : List (Str × Addr)) (pm cv ctv : Value), bindArgs (PySem.W.kla_fn "<lambda>" q params body scope cl pm cv ctv) ⟨[], []⟩ = pure [])
    (hbody : ∀ (A : Around) (outer : List Env) (s : Shared) (H : Hp) (E : XK) (f c' : Addr), Room k (A.deeper (lamEnv X scope s.heap.objs.size f c')) → EvR (lamCx X A outer s H E scope f c') (Wc cls E tabs) (hideE ρ) body r)
    (hg : Gl X x := by rfl) (hdb : (x == ("__debug__" : Str)) = false := by decide) (hd : (a == ("__debug__" : Str)) = false := by decide) (hcd : (a == ("__classdict__" : Str)) = false := by decide) :
    EvR X (W0 tabs) ρ (.Call (.Name x p) [.Lambda params body scope lpos] [] pos) ((R.heard e0 ret r).bind flatR) := by
  obtain ⟨oc, od, kV, doc, pm, an, cdv, ct, osl, rfl, lk, hcg⟩ := Fg.ex
  refine ⟨PE.imp (pe_lamcall (T := tabs) (t := fun E => tR X.K (Wc cls E tabs) (hideE ρ) r) hg hm Fg.kp lk hcg hb Sg rfl hva (hG cdv) TB hcode hmT hu hr L hdef hbind (fun A outer s H E f c' hr2 => (hbody A outer s H E f c' hr2).pe) hdb hd hcd) fun σ H Q q => ?_⟩
  obtain ⟨F, G, px, st, q⟩ := q
  obtain ⟨px', st1, back⟩ := st.hideAll
  refine ⟨fun p hp => (st.tb p hp).1, fun H1 eN T1 => ?_⟩
  have lst : ∀ b, b ∈ px'.map (·.1) → (∃ vs, H b = some (.lst vs)) ∧ G b = none ∧ F b = none := fun b hb => by
    obtain ⟨q, hq, rfl⟩ := List.mem_map.mp hb
    exact ⟨⟨_, (st1.pv q hq).1⟩, (st1.pv q hq).2⟩
  obtain ⟨cs, sl0, _⟩ := st.sl
  have sl : Slots X.K F G H σ (hideE ρ) [] := sl0.hide
  have up : ∀ b u, H b = some u → (∀ ps, u ≠ .tbl ps) → H1 b = some u := eN
  let Gp : Hp := fun b => if b ∈ px'.map (·.1) then H b else G b
  let Fp : Hp := fun b => if b ∈ px'.map (·.1) then H b else match G b with
    | some u => some u
    | none => F b
  have gp1 : ∀ {b}, b ∈ px'.map (·.1) → Gp b = H b := fun h => if_pos h
  have gp2 : ∀ {b}, b ∉ px'.map (·.1) → Gp b = G b := fun h => if_neg h
  have fp1 : ∀ {b}, b ∈ px'.map (·.1) → Fp b = H b := fun h => if_pos h
  have fp2 : ∀ {b}, b ∉ px'.map (·.1) → Fp b = match G b with
    | some u => some u
    | none => F b := fun h => if_neg h
  have sGp : Same G Gp := fun b u e => by
    rw [gp2 fun hb => by rw [(lst b hb).2.1] at e; cases e]
    exact e
  have GF : ∀ b u, G b = some u → Fp b = some u := fun b u e => by
    have hb : b ∉ px'.map (·.1) := fun hb => by rw [(lst b hb).2.1] at e; cases e
    rw [fp2 hb, e]
  have FF : ∀ b u, F b = some u → Fp b = some u := fun b u e => by
    have hb : b ∉ px'.map (·.1) := fun hb => by rw [(lst b hb).2.2] at e; cases e
    rw [fp2 hb]
    cases hG : G b with
    | none => exact e
    | some w =>
      have a1 := st.gh b w hG
      have a2 := st.fh b u e
      rw [a1] at a2
      exact a2
  have ntb : ∀ p ∈ tabs, p.1 ∉ px'.map (·.1) := fun p hp hb => by
    obtain ⟨⟨vs, e⟩, _⟩ := lst p.1 hb
    obtain ⟨ps, e2, _⟩ := (st.tb p hp).1
    rw [e] at e2
    cases e2
  have stp : StG X.K (W0 tabs) Fp [] (hideE ρ) σ H1 Gp := by
    refine ⟨fun b u e => ?_, fun b u e => ?_, ⟨[], (sl.grow sGp (fun _ m => by cases m) (fun _ m => by cases m) : Slots X.K F Gp H σ (hideE ρ) []).free rfl, (fun _ h => nomatch h)⟩, (fun _ h => nomatch h), List.nodup_nil, fun p hp => ⟨T1 p hp, ?_, ?_⟩, fun b ps => ⟨fun e => ?_, fun e => ?_⟩⟩
    · by_cases hb : b ∈ px'.map (·.1)
      · rw [gp1 hb] at e
        obtain ⟨⟨vs, e2⟩, _⟩ := lst b hb
        exact up b u e fun ps z => by rw [e, z] at e2; cases e2
      · rw [gp2 hb] at e
        exact up b u (st.gh b u e) fun ps z => (st.nt b ps).1 (by rw [e, z])
    · by_cases hb : b ∈ px'.map (·.1)
      · rw [fp1 hb] at e
        obtain ⟨⟨vs, e2⟩, _⟩ := lst b hb
        exact up b u e fun ps z => by rw [e, z] at e2; cases e2
      · rw [fp2 hb] at e
        cases hG : G b with
        | some w =>
          rw [hG] at e
          have e : some w = some u := e
          have ew : w = u := Option.some.inj e
          rw [ew] at hG
          exact up b u (st.gh b u hG) fun ps z => (st.nt b ps).1 (by rw [hG, z])
        | none =>
          rw [hG] at e
          exact up b u (st.fh b u e) fun ps z => (st.nt b ps).2 (by rw [show F b = some u from e, z])
    · rw [gp2 (ntb p hp)]; exact (st.tb p hp).2.1
    · rw [fp2 (ntb p hp), (st.tb p hp).2.1]; exact (st.tb p hp).2.2
    · by_cases hb : b ∈ px'.map (·.1)
      · rw [gp1 hb] at e
        obtain ⟨⟨vs, e2⟩, _⟩ := lst b hb
        rw [e] at e2; cases e2
      · rw [gp2 hb] at e
        exact (st.nt b ps).1 e
    · by_cases hb : b ∈ px'.map (·.1)
      · rw [fp1 hb] at e
        obtain ⟨⟨vs, e2⟩, _⟩ := lst b hb
        rw [e] at e2; cases e2
      · rw [fp2 hb] at e
        cases hG : G b with
        | some w =>
          rw [hG] at e
          exact (st.nt b ps).1 (hG.trans e)
        | none =>
          rw [hG] at e
          exact (st.nt b ps).2 e
  refine ⟨Fp, Gp, [], stp.wt rfl, ?_⟩
  cases r with
  | ok d =>
    have q : Go (W0 tabs) F (flatR d) (Vl X.K (W0 tabs) px ρ F G σ Q) := q
    unfold flatR at q
    by_cases f : flatD d = true
    · rw [if_pos f] at q
      refine fun v H' G' e' st' rv => ⟨v, rfl, ?_⟩
      let Gc : Hp := fun b => if b ∈ px'.map (·.1) then none else G' b
      have gc1 : ∀ {b}, b ∈ px'.map (·.1) → Gc b = none := fun h => if_pos h
      have gc2 : ∀ {b}, b ∉ px'.map (·.1) → Gc b = G' b := fun h => if_neg h
      have sGc : Same G Gc := fun b u e => by
        have hb : b ∉ px'.map (·.1) := fun hb => by rw [(lst b hb).2.1] at e; cases e
        rw [gc2 hb]
        exact e' b u (sGp b u e)
      have st2 : StG X.K (W0 tabs) F px' (hideE ρ) σ H' Gc := by
        refine ⟨fun b u e => ?_, fun b u e => st'.fh b u (FF b u e), ⟨[], (sl.grow sGc (fun _ m => by cases m) (fun _ m => by cases m) : Slots X.K F Gc H σ (hideE ρ) []).free rfl, fun p hp => by simp⟩, fun p hp => ?_, st1.nd, fun p hp => ⟨(st'.tb p hp).1, ?_, (st.tb p hp).2.2⟩, fun b ps => ⟨fun e => ?_, (st.nt b ps).2⟩⟩
        · by_cases hb : b ∈ px'.map (·.1)
          · rw [gc1 hb] at e; cases e
          · rw [gc2 hb] at e; exact st'.gh b u e
        · have hb : p.1 ∈ px'.map (·.1) := List.mem_map.mpr ⟨p, hp, rfl⟩
          exact ⟨st'.gh _ _ (e' _ _ ((gp1 hb).trans (st1.pv p hp).1)), gc1 hb, (st1.pv p hp).2.2⟩
        · rw [gc2 (ntb p hp)]; exact (st'.tb p hp).2.1
        · by_cases hb : b ∈ px'.map (·.1)
          · rw [gc1 hb] at e; cases e
          · rw [gc2 hb] at e; exact (st'.nt b ps).1 e
      refine q v H' Gc sGc (back H' Gc sGc st2) (rp_flat (fun b u e n => ?_) d f rv)
      have hb : b ∉ px'.map (·.1) := fun hb => by
        obtain ⟨⟨vs, e2⟩, _⟩ := lst b hb
        have := e' b _ ((gp1 hb).trans e2)
        rw [e] at this
        exact n vs (Option.some.inj this)
      rw [gc2 hb]; exact e
    · rw [if_neg f] at q; exact q.elim
  | ex c ds =>
    cases ds with
    | nil =>
      have q : Go (W0 tabs) F ((if c = e0 then R.ok (PyData.str ret) else .no).bind flatR) (Vl X.K (W0 tabs) px ρ F G σ Q) := q
      by_cases hc : c = e0
      · subst hc
        rw [if_pos rfl] at q
        have q : Go (W0 tabs) F (flatR (.str ret)) (Vl X.K (W0 tabs) px ρ F G σ Q) := q
        unfold flatR at q
        rw [if_pos (flatD_str ret)] at q
        refine fun H' sF tT => ⟨CS, hcl, rfl, true, Fx.m, fun _ => ?_, fun z => nomatch z⟩
        refine q (.str ret) H' G (Same.refl G) (back H' G (Same.refl G) ?_) (.str ret)
        refine ⟨fun b u e => sF b u (GF b u e), fun b u e => sF b u (FF b u e), ⟨[], sl.free rfl, fun p hp => by simp⟩, fun p hp => ?_, st1.nd, fun p hp => ⟨tT p hp, (st.tb p hp).2⟩, st.nt⟩
        have hb : p.1 ∈ px'.map (·.1) := List.mem_map.mpr ⟨p, hp, rfl⟩
        exact ⟨sF _ _ ((fp1 hb).trans (st1.pv p hp).1), (st1.pv p hp).2⟩
      · rw [if_neg hc] at q; exact q.elim
    | cons _ _ => exact q.elim
  | no => exact q.elim
/-- math.gcd by its name -/
def dGcd : List PyData → Option PyData
  | [.int a, .int b] => some (.int ((Nat.gcd a.natAbs b.natAbs : Nat) : Int))
  | _ => none
theorem ev_gcd {W : Wx} {x : Str} {e : Expr} {es : List Expr} {rs : R (List PyData)} (hm : X.mg x = some (.builtin "math.gcd")) (ha : EvA X W ρ (e :: es) rs) (hg : Gl X x := by rfl) (hdb : (x == ("__debug__" : Str)) = false := by decide) (he : starEach (e :: es) X.env = (false, eval e X.env) :: starEach es X.env := by rfl) (hpl : (backTo pos (starEach es X.env)).any (·.1) = false := by rfl) :
    EvR X W ρ (.Call (.Name x p) (e :: es) [] pos) (rs.bind fun ds => R.of (dGcd ds)) := by
  refine ⟨PE.imp (pe_callBfun cr_gcd hg hm ha.pa hdb he hpl) fun σ H Q h => ?_⟩
  obtain ⟨F, G, px, st, q⟩ := h
  refine ⟨F, G, px, st, Go.bind q fun ds q1 vs H1 G1 e1 st1 rv => ?_⟩
  obtain ⟨d, e2, q2⟩ := Go.of q1
  match ds, rv, e2 with
  | [.int i, .int j], .cons (.int _) (.cons (.int _) .nil), e2 =>
    cases e2
    exact ⟨i, j, rfl, q2 _ H1 G1 e1 st1 (.int _)⟩
end
end SE

set_option maxHeartbeats 4000000
/-! calls of raising defs where nothing is let out; list(range(a, b, c)); sorted(list of tuples of whole numbers) -/
namespace SE
open PySem PySem.Spec PyProof.Rows L2 LamX
theorem exm_self {K : PySem.W.Frag} {S : Addr} (h1 : PySem.W.subIn K (.ref S) (.type "BaseException") = some true) (h2 : PySem.W.isClsIn K S = true) (h3 : PySem.W.typeIn K (.ref S) = some (.type "type")) (h4 : PySem.W.subIn K (.ref S) (.ref S) = some true) :
    PySem.W.exmOne K (.ref S) (.ref S) = some true := by
  have e1 : (PySem.W.subIn K (.ref S) (.type "BaseException") == some true) = true := by rw [h1] <;> rfl
  have e2 : ((PySem.W.clsIn K S).isSome && PySem.W.typeIn K (.ref S) == some (.type "type")) = true := by
    rw [Bool.and_eq_true]
    exact ⟨h2, by rw [h3] <;> rfl⟩
  show (if (PySem.W.subIn K (.ref S) (.type "BaseException") == some true) = true then (if ((PySem.W.clsIn K S).isSome && PySem.W.typeIn K (.ref S) == some (.type "type")) = true then PySem.W.subIn K (.ref S) (.ref S) else none) else none) = some true
  rw [if_pos e1, if_pos e2, h4]
/-- ascending by the order of tuples, each as often as it stands -/
def insA (x : List Int) : List (List Int) → List (List Int)
  | [] => [x]
  | y :: t => if HT.lexLt y x = true then y :: insA x t else x :: y :: t
def sortA : List (List Int) → List (List Int)
  | [] => []
  | x :: t => insA x (sortA t)
abbrev Lw (l : List (List Int)) : Prop := l.Pairwise fun a b => HT.lexLt b a = false
theorem perm_insA (x : List Int) : ∀ l, (insA x l).Perm (x :: l)
  | [] => .refl _
  | y :: t => by
    unfold insA
    split
    · exact ((perm_insA x t).cons y).trans (.swap x y t)
    · exact .refl _
theorem perm_sortA : ∀ l, (sortA l).Perm l
  | [] => .refl _
  | x :: t => (perm_insA x (sortA t)).trans ((perm_sortA t).cons x)
theorem lx_asym {x y : List Int} (h : HT.lexLt x y = true) : HT.lexLt y x = false := by
  cases e : HT.lexLt y x with
  | false => rfl
  | true => have := lx_tr h e; rw [lx_irr] at this; cases this
theorem lx_le_tr {x y z : List Int} (h1 : HT.lexLt y x = false) (h2 : HT.lexLt z y = false) : HT.lexLt z x = false := by
  cases e : HT.lexLt z x with
  | false => rfl
  | true =>
    by_cases exy : x = y
    · subst exy; rw [e] at h2; cases h2
    · have := lx_tr e (lx_tot (fun z => exy z.symm) h1)
      rw [this] at h2; cases h2
theorem lw_insA {x : List Int} : ∀ {l : List (List Int)}, Lw l → Lw (insA x l)
  | [], _ => by simp [insA]
  | y :: t, h => by
    unfold insA
    obtain ⟨h1, h2⟩ := List.pairwise_cons.mp h
    by_cases e : HT.lexLt y x = true
    · rw [if_pos e]
      refine List.pairwise_cons.mpr ⟨fun z hz => ?_, lw_insA h2⟩
      rcases List.mem_cons.mp ((perm_insA x t).mem_iff.mp hz) with rfl | hz
      · exact lx_asym e
      · exact h1 z hz
    · rw [if_neg e]
      have e : HT.lexLt y x = false := by simpa using e
      refine List.pairwise_cons.mpr ⟨fun z hz => ?_, h⟩
      rcases List.mem_cons.mp hz with rfl | hz
      · exact e
      · exact lx_le_tr e (h1 z hz)
theorem lw_sortA : ∀ l, Lw (sortA l)
  | [] => .nil
  | x :: t => lw_insA (lw_sortA t)
theorem lw_uniq {l m : List (List Int)} (hl : Lw l) (hm : Lw m) (h : l.Perm m) : l = m := by
  refine List.Perm.eq_of_pairwise (le := fun a b => HT.lexLt b a = false) (fun a b _ _ h1 h2 => ?_) hl hm h
  by_cases e : a = b
  · exact e
  · have := lx_tot (fun z => e z.symm) h1
    rw [h2] at this; cases this
def dSortTups (d : PyData) : Option (List PyData) := match d with
  | .list ds => (asTups ds).bind fun rows => if rows.length < 64 ∧ (∃ d ∈ List.range 16, 1 ≤ d ∧ tupsOk d rows = true) then some ((sortA rows).map tupI) else none
  | _ => none
theorem perm_lift {α β : Type} (f : α → β) : ∀ (ks : List α) (ys : List β), ys.Perm (ks.map f) → ∃ ks' : List α, ys = ks'.map f ∧ ks'.Perm ks := by
  intro ks ys h
  generalize hm : ks.map f = ms at h
  induction h generalizing ks with
  | nil =>
    cases ks with
    | nil => exact ⟨[], rfl, .refl _⟩
    | cons => cases hm
  | @cons x l1 l2 _ ih =>
    cases ks with
    | nil => cases hm
    | cons k ks =>
      rw [List.map_cons] at hm
      cases hm
      obtain ⟨ks', e1, e2⟩ := ih ks rfl
      exact ⟨k :: ks', by rw [List.map_cons, e1], e2.cons k⟩
  | swap x y l =>
    cases ks with
    | nil => cases hm
    | cons k ks =>
      cases ks with
      | nil => cases hm
      | cons k' ks =>
        rw [List.map_cons, List.map_cons] at hm
        cases hm
        exact ⟨k' :: k :: ks, rfl, .swap k k' ks⟩
  | trans _ _ ih1 ih2 =>
    obtain ⟨k2, e1, e2⟩ := ih2 ks hm
    obtain ⟨k1, e3, e4⟩ := ih1 k2 e1.symm
    exact ⟨k1, e3, e4.trans e2⟩
theorem cr_sortTs {X : Cx} : CallR X (.builtin "sorted") (fun vs H Q => ∃ d, 1 ≤ d ∧ rSortU X.K d (2 ^ 62) vs H Q) := by
  intro pins s σ H xs us Q I r h
  obtain ⟨d, hd, h⟩ := h
  exact cr_sortT hd pins s σ H xs us Q I r h
section
variable {X : Cx} {W : Wx} {ρ : En} {tabs : List (Addr × Str)} {pos p : Pos}
/-- a call of a def that may raise, where nothing is let out -/
theorem ev_callX0 {k n : Nat} {f : Addr} {fd : FuncData} {ps : List Str} {x : Str} {e : Expr} {es : List Expr} {m : List PyData → R PyData} {rs : R (List PyData)} {cls : Str → Option Addr} (F : FnOk X.prog X.w X.K X.mg X.base (L2.CX X.prog X.w) k f fd ps (spX X.K tabs cls n m)) (hx : Passes (L2.CX X.prog X.w) X C8.E0) (hr : Room k X.A) (hm : X.mg x = some (.ref f)) (hk : PySem.W.keepIn X.K (.ref f) = true) (hb : Binds X.K fd ps [])
    (ha : EvA X (W0 tabs) ρ (e :: es) (rs)) (hn : ∀ ds, rs = .ok ds → ds.length = n) (hg : Gl X x := by rfl) (hdb : (x == ("__debug__" : Str)) = false := by decide) (he : starEach (e :: es) X.env = (false, eval e X.env) :: starEach es X.env := by rfl) (hpl : (backTo pos (starEach es X.env)).any (·.1) = false := by rfl) :
    EvR X (W0 tabs) ρ (.Call (.Name x p) (e :: es) [] pos) (rs.bind m) := by
  refine ⟨PE.imp (pe_call F hr hg hm hk hb .nil hx ha.pa hdb he hpl) fun σ H Q h => ?_⟩
  obtain ⟨F', G, px, st, q⟩ := h
  cases e1 : rs with
  | ok ds =>
    rw [e1] at q
    have hl := hn ds e1
    refine ⟨F', G, px, st, fun vs H1 G1 e2 st1 rv => ?_⟩
    obtain ⟨px', st2, back⟩ := st1.callee
    rw [List.append_nil]
    refine ⟨F', G1, px', ds, by rw [RpAll.len rv]; exact hl, st2, rv, Go.wish (W := W0 tabs) ((show Go (W0 tabs) F' (m ds) _ from q).imp fun d q1 v H' G' e' st' rd => q1 v H' G' (e2.trans e') (back H' G' e' st') rd) (fun _ _ _ z => z.elim) rfl⟩
  | ex _ _ => rw [e1] at q; exact ⟨F', G, px, st, q⟩
  | no => rw [e1] at q; exact q.elim
/-! ### list(range(a, b, c)) -/
def rgC (a c : Int) (n : Nat) : List V := (List.range n).map fun i => V.int (a + (i : Nat) * c)
theorem vals_rgC {a c : Int} {n : Nat} {acc : Array Value} (h : ItemsOf (fun i v => ∃ t, v = .int (a + i * c) t) acc n) : Vals (rgC a c n) acc.toList := by
  have e : acc.toList.length = n := by rw [Array.length_toList]; exact h.1
  unfold rgC
  rw [← e]
  refine L2.vals_of_get acc.toList _ fun j u hj => ?_
  obtain ⟨t, rfl⟩ := h.2 j u (by rw [← hj, Array.getElem?_toList])
  exact ⟨t, rfl⟩
def tLstRg3 (ta : TA) : TE := fun σ H Q => ta σ H fun vs H1 => ∃ (i j c : Int) (n : Nat), vs = [.int i, .int j, .int c] ∧ RgC i j c n ∧ n ≤ 2 ^ 24 ∧ ∀ q, H1 q = none → Q (.ref q) (upd H1 q (.lst (rgC i c n)))
theorem pe_listRg3 {a b c : Expr} {ta : TA} {p1 p2 q1 q2 : Pos} (hcm : X.calm = true) (hg : Gl X "list") (hm : X.mg "list" = none) (hg2 : Gl X "range") (hm2 : X.mg "range" = none) (ha : PA X [a, b, c] ta)
    (hs : starEach [a, b, c] X.env = (false, eval a X.env) :: starEach [b, c] X.env) (hpl : (backTo q2 (starEach [b, c] X.env)).any (·.1) = false)
    (na : starEach [.Call (.Name "range" p2) [a, b, c] [] q2] X.env = (false, eval (.Call (.Name "range" p2) [a, b, c] [] q2) X.env) :: starEach [] X.env) (hpl1 : (backTo q1 (starEach [] X.env)).any (·.1) = false) :
    PE X (.Call (.Name "list" p1) [.Call (.Name "range" p2) [a, b, c] [] q2] [] q1) (tLstRg3 ta) := by
  refine ⟨fun pins s σ H Q I h => ?_⟩
  refine Call_ (ld_blt I hg hm boot_list (PyProof.Rows.callWith_type1 (args_cons ?_ na) na hpl1))
  refine Call_ (ld_blt I hg2 hm2 boot_range (PyProof.Rows.callWith_type1 (thn (ha.run q2 pins s σ H _ I h) fun us s1 ⟨vs, H1, I1, r1, q1⟩ => ?_) hs hpl))
  obtain ⟨i, j, k, n, e, ⟨c0, c1, c2, c3⟩, c4, q⟩ := q1
  subst e
  cases r1 with
  | cons r rr =>
    cases rr with
    | cons r' rr =>
      cases rr with
      | cons r'' rr =>
        cases rr
        obtain ⟨t, rfl⟩ := r
        obtain ⟨t', rfl⟩ := r'
        obtain ⟨t'', rfl⟩ := r''
        refine call_range_3 c0 ?_ (.inl (PyProof.noPylong_small c1))
        have I2 : Inv X pins σ H1 { s1 with heap := s1.heap.push { cls := .type "range", data := .fields #[.int i t, .int j t', .int k t''] } } := I1.kept (t' := s1.toks) fun b o e => Heap.get?_push_of_some _ e
        refine args_nil ?_
        refine call_list_range (n := n) (I2.ok.hd hcm) (IsRange.new ..) c2 c3 c4 fun h' tk acc c' hk e' hi => ?_
        refine ⟨.ref _, upd H1 _ (.lst (rgC i k n)), I2.laid hk (Nat.le_refl _) (show ObjOk X.prog X.w _ _ _ (.lst (rgC i k n)) from ⟨?_, acc.toList, c', vals_rgC hi, ?_⟩), rfl, q _ (I2.hok.fresh (Nat.le_refl _))⟩
        · rw [rgC, List.length_map, List.length_range, sizeLine_eq]; omega
        · rw [Array.toArray_toList]; exact e'
/-- range(a, b, c) with c > 0 -/
def dRange3 : List PyData → Option (List PyData)
  | [.int a, .int b, .int c] => if (0 ≤ a ∧ a < 2 ^ 20 ∧ 0 ≤ b ∧ b < 2 ^ 20) ∧ 0 < c ∧ c < 2 ^ 20 then some ((List.range (if a < b then (b - a - 1) / c + 1 else 0).toNat).map fun (i : Nat) => .int (a + i * c)) else none
  | _ => none
theorem rp_rgC {K : PySem.W.Frag} {G : Hp} (a c : Int) (n : Nat) : RpAll K G (rgC a c n) ((List.range n).map fun (i : Nat) => .int (a + i * c)) := by
  unfold rgC
  generalize List.range n = l
  induction l with
  | nil => exact .nil
  | cons i l ih => exact .cons (.int _) ih
theorem range3_small {a b c : Int} (h1 : 0 ≤ a) (h2 : a < 2 ^ 20) (h3 : 0 ≤ b) (h4 : b < 2 ^ 20) (h5 : 0 < c) (h6 : c < 2 ^ 20) : RgC a b c (if a < b then (b - a - 1) / c + 1 else 0).toNat ∧ (if a < b then (b - a - 1) / c + 1 else 0).toNat ≤ 2 ^ 24 := by
  have hd : 0 ≤ (b - a - 1) / c ∨ ¬ a < b := by
    by_cases h : a < b
    · exact .inl (Int.ediv_nonneg (by omega) (by omega))
    · exact .inr h
  have hd2 : (b - a - 1) / c ≤ 2 ^ 20 := by
    refine Int.ediv_le_of_le_mul h5 ?_
    have : (2 : Int) ^ 20 * 1 ≤ 2 ^ 20 * c := Int.mul_le_mul_of_nonneg_left (by omega) (by omega)
    omega
  have hn : (0 : Int) ≤ (if a < b then (b - a - 1) / c + 1 else 0) := by split <;> omega
  refine ⟨⟨by omega, by omega, ?_, ?_⟩, ?_⟩
  · unfold Builtin.Range.small
    have hrs : Builtin.Range.rangeSize a b c = if a < b then (b - a - 1) / c + 1 else 0 := by
      unfold Builtin.Range.rangeSize
      rw [if_pos (show c > 0 by omega)]
    rw [hrs]
    generalize (b - a - 1) / c = z at *
    have hz : z * c < 2 ^ 40 + 2 ^ 40 ∨ True := .inr trivial
    simp only [Builtin.Range.rangeFitsLong, Bool.and_eq_true, Bool.or_eq_true, decide_eq_true_eq, beq_iff_eq, show c > 0 by omega, if_true]
    split <;> omega
  · unfold Builtin.Range.rangeSize
    rw [if_pos (by omega)]
    omega
  · split <;> omega
theorem ef_listrange {a b c : Expr} {p1 p2 q1 q2 : Pos} {rs : R (List PyData)} (hcm : X.calm = true) (hm : X.mg "list" = none) (hm2 : X.mg "range" = none) (ha : EvA X W ρ [a, b, c] rs) (hg : Gl X "list" := by rfl) (hg2 : Gl X "range" := by rfl)
    (hs : starEach [a, b, c] X.env = (false, eval a X.env) :: starEach [b, c] X.env := by rfl) (hpl : (backTo q2 (starEach [b, c] X.env)).any (·.1) = false := by rfl)
    (na : starEach [.Call (.Name "range" p2) [a, b, c] [] q2] X.env = (false, eval (.Call (.Name "range" p2) [a, b, c] [] q2) X.env) :: starEach [] X.env := by rfl) (hpl1 : (backTo q1 (starEach [] X.env)).any (·.1) = false := by rfl) :
    EvF X W ρ (.Call (.Name "list" p1) [.Call (.Name "range" p2) [a, b, c] [] q2] [] q1) (rs.bind fun ds => R.of (dRange3 ds)) := by
  refine ⟨PE.imp (pe_listRg3 hcm hg hm hg2 hm2 ha.pa hs hpl na hpl1) fun σ H Q h => ?_⟩
  obtain ⟨F, G, px, st, q⟩ := h
  refine ⟨F, G, px, st, Go.bind q fun ds q1 vs H1 G1 e1 st1 rv => ?_⟩
  obtain ⟨es, e2, q2⟩ := Go.of q1
  match ds, rv, e2 with
  | [.int i, .int j, .int k], .cons (.int _) (.cons (.int _) (.cons (.int _) .nil)), e2 =>
    simp only [dRange3] at e2
    split at e2
    · rename_i h
      cases e2
      obtain ⟨r1, r2⟩ := range3_small h.1.1 h.1.2.1 h.1.2.2.1 h.1.2.2.2 h.2.1 h.2.2
      exact ⟨i, j, k, _, rfl, r1, r2, fun p' hp' => q2 p' _ _ G1 e1 (st1.newP hp') (rp_rgC _ _ _)⟩
    · cases e2
/-! ### sorted(xs), a list of tuples of whole numbers -/
theorem ef_sorttups {p1 q1 : Pos} {e : Expr} {re : R PyData} (hm1 : X.mg "sorted" = none) (he : EvR X W ρ e re) (hg1 : Gl X "sorted" := by rfl)
    (hs1 : starEach (e :: []) X.env = (false, eval e X.env) :: starEach [] X.env := by rfl) (hpl1 : (backTo q1 (starEach [] X.env)).any (·.1) = false := by rfl) :
    EvF X W ρ (.Call (.Name "sorted" p1) [e] [] q1) (re.bind fun d => R.of (dSortTups d)) := by
  refine ⟨PE.imp (pe_callB cr_sortTs hg1 hm1 (by decide +kernel) (pa_cons he.pe pa_nil hs1) (he := hs1) (hpl := hpl1)) fun σ H Q h => ?_⟩
  obtain ⟨F, G, px, st, q⟩ := h
  refine ⟨F, G, px, st, Go.bind q fun d q1 v H1 G1 e1 st1 rv => ?_⟩
  obtain ⟨es, e2, q2⟩ := Go.of q1
  cases rv with
  | @lst l xs ds h1 h2 =>
    simp only [dSortTups] at e2
    cases e3 : asTups ds with
    | none => rw [e3] at e2; cases e2
    | some rows =>
      simp only [e3, Option.bind_some] at e2
      split at e2
      · rename_i hok
        cases e2
        obtain ⟨hl, dd, hdm, hd1, hok⟩ := hok
        obtain ⟨ks, f1, f2, f3⟩ := rows_ks h2 e3
        have rowOk : ∀ r ∈ rows, r.length = dd ∧ TS.Bd (2 ^ 62) r := fun r hr => by
          have := List.all_eq_true.mp hok r hr
          simp only [Bool.and_eq_true, decide_eq_true_eq, List.all_eq_true] at this
          exact ⟨this.1, fun m hm => this.2 m hm⟩
        have hT : ∀ p ∈ ks, TupI X.K H1 (.ref p.1) p.2 := fun p hp => ⟨p.1, rfl, Same.seqT st1.gh (f3 p hp)⟩
        have inr : ∀ p ∈ ks, p.2 ∈ rows := fun p hp => by rw [← f2]; exact List.mem_map.mpr ⟨p, hp, rfl⟩
        refine ⟨dd, hd1, l, xs, rfl, .inl (Rd.same st1.gh h1), by rw [f1, List.length_map, ← List.length_map (f := (·.2)), f2]; exact hl, fun x hx => ?_, fun ys p pm pw hp => ?_⟩
        · rw [f1] at hx
          obtain ⟨p, hp, rfl⟩ := List.mem_map.mp hx
          exact ⟨p.2, hT p hp, (rowOk _ (inr p hp)).1, (rowOk _ (inr p hp)).2⟩
        · rw [f1] at pm
          obtain ⟨ks', g1, g2⟩ := perm_lift (fun p : Addr × List Int => V.ref p.1) ks ys pm
          have inks : ∀ p ∈ ks', p ∈ ks := fun p hp => g2.mem_iff.mp hp
          have srt : Lw (ks'.map (·.2)) := by
            rw [Lw, List.pairwise_map]
            rw [g1, List.pairwise_map] at pw
            refine List.Pairwise.imp_of_mem (fun {q r} hq hr hh => ?_) pw
            have hh := hh q.2 r.2 (hT q (inks q hq)) (hT r (inks r hr))
            cases hlx : HT.lexLt r.2 q.2 with
            | false => rfl
            | true =>
              obtain ⟨a1, a2⟩ := rowOk _ (inr q (inks q hq))
              obtain ⟨a3, a4⟩ := rowOk _ (inr r (inks r hr))
              have := lx_code (a3.trans a1.symm) a4 a2 hlx
              omega
          have eq : ks'.map (·.2) = sortA rows := lw_uniq srt (lw_sortA rows) ((g2.map (·.2)).trans (by rw [f2]; exact (perm_sortA rows).symm))
          have rp : RpAll X.K G1 (ks'.map fun q => V.ref q.1) ((sortA rows).map tupI) := by
            rw [← eq]
            exact rp_tups fun q hq => f3 q (inks q hq)
          rw [g1]
          exact q2 p _ _ _ e1 (st1.newP hp) rp
      · cases e2
  | _ => cases e2
end
end SE

namespace BF
/-- a need: one, other, delay, rounds -/
structure Nd where
  a : Nat
  b : Nat
  d : Int
  r : Int
deriving DecidableEq
def gt (t : List Int) (i : Nat) : Int := t.getD i 0
theorem gt_set {t : List Int} {b : Nat} {x : Int} (h : b < t.length) (i : Nat) : gt (t.set b x) i = if i = b then x else gt t i := by
  simp only [gt, List.getD, List.getElem?_set]
  by_cases e : b = i
  · subst e; simp [h]
  · have : ¬ i = b := fun z => e z.symm
    simp [e, this]
def gl (l : List (Option Nd)) (i : Nat) : Option Nd := l.getD i none
theorem gl_set {t : List (Option Nd)} {b : Nat} {x : Option Nd} (h : b < t.length) (i : Nat) : gl (t.set b x) i = if i = b then x else gl t i := by
  simp only [gl, List.getD, List.getElem?_set]
  by_cases e : b = i
  · subst e; simp [h]
  · have : ¬ i = b := fun z => e z.symm
    simp [e, this]
abbrev St := List Int × List (Option Nd)
def hits (w : Nd → Int) (t : List Int) (e : Nd) : Bool := decide (gt t e.b < gt t e.a + w e)
def push (w : Nd → Int) (s : St) (e : Nd) : St := if hits w s.1 e = true then (s.1.set e.b (gt s.1 e.a + w e), s.2.set e.b (some e)) else s
def lap (w : Nd → Int) : List Nd → St → Bool → St × Bool
  | [], s, m => (s, m)
  | e :: es, s, m => lap w es (push w s e) (hits w s.1 e || m)
/-- laps until nothing moves, at most k -/
def laps (w : Nd → Int) (es : List Nd) : Nat → St → Option (List Int) × List (Option Nd)
  | 0, s => (none, s.2)
  | k + 1, s => if (lap w es s false).2 = true then laps w es k (lap w es s false).1 else (some (lap w es s false).1.1, (lap w es s false).1.2)
def start0 (n : Nat) : St := (List.replicate n 0, List.replicate n none)
/-- what holds all the while -/
structure Inv (w : Nd → Int) (es : List Nd) (n : Nat) (s : St) : Prop where
  lt : s.1.length = n
  ll : s.2.length = n
  pos : ∀ v, 0 ≤ gt s.1 v
  non : ∀ v, v < n → gl s.2 v = none → gt s.1 v = 0
  som : ∀ v e, v < n → gl s.2 v = some e → e.b = v ∧ e.a < n ∧ e ∈ es ∧ gt s.1 v ≤ gt s.1 e.a + w e
  rk : ∃ ρ : Nat → Nat, ∀ v e, v < n → gl s.2 v = some e → gt s.1 v = gt s.1 e.a + w e → ρ e.a < ρ v
theorem inv_start (w : Nd → Int) (es : List Nd) (n : Nat) : Inv w es n (start0 n) := by
  have h1 : ∀ v, gt (start0 n).1 v = 0 := fun v => by
    simp only [gt, start0, List.getD, List.getElem?_replicate]
    split <;> rfl
  have h2 : ∀ v, gl (start0 n).2 v = none := fun v => by
    simp only [gl, start0, List.getD, List.getElem?_replicate]
    split <;> rfl
  refine ⟨by simp [start0], by simp [start0], fun v => by rw [h1]; exact Int.le_refl _, fun v _ _ => h1 v, fun v e _ h => ?_, fun _ => 0, fun v e _ h => ?_⟩
  · rw [h2] at h; cases h
  · rw [h2] at h; cases h
variable {w : Nd → Int} {es : List Nd} {n : Nat}
abbrev EOk (n : Nat) (e : Nd) : Prop := e.a < n ∧ e.b < n
theorem push_len (s : St) (e : Nd) : (push w s e).1.length = s.1.length ∧ (push w s e).2.length = s.2.length := by
  unfold push
  split
  · exact ⟨List.length_set, List.length_set⟩
  · exact ⟨rfl, rfl⟩
theorem push_gt {s : St} {e : Nd} (hl : s.1.length = n) (he : EOk n e) (v : Nat) : gt (push w s e).1 v = if v = e.b ∧ gt s.1 e.b < gt s.1 e.a + w e then gt s.1 e.a + w e else gt s.1 v := by
  unfold push hits
  by_cases h : gt s.1 e.b < gt s.1 e.a + w e
  · simp only [h, decide_true, if_true, and_true]
    exact gt_set (by rw [hl]; exact he.2) v
  · simp [h]
theorem push_gl {s : St} {e : Nd} (hl : s.2.length = n) (he : EOk n e) (v : Nat) : gl (push w s e).2 v = if v = e.b ∧ gt s.1 e.b < gt s.1 e.a + w e then some e else gl s.2 v := by
  unfold push hits
  by_cases h : gt s.1 e.b < gt s.1 e.a + w e
  · simp only [h, decide_true, if_true, and_true]
    exact gl_set (by rw [hl]; exact he.2) v
  · simp [h]
theorem push_mono {s : St} {e : Nd} (hl : s.1.length = n) (he : EOk n e) (v : Nat) : gt s.1 v ≤ gt (push w s e).1 v := by
  rw [push_gt hl he]
  split
  · rename_i h; rw [h.1]; omega
  · exact Int.le_refl _
theorem inv_push {s : St} {e : Nd} (h : Inv w es n s) (he : EOk n e) (hm : e ∈ es) : Inv w es n (push w s e) := by
  obtain ⟨ρ, hρ⟩ := h.rk
  have G := push_gt (w := w) h.lt he
  have L := push_gl (w := w) h.ll he
  refine ⟨(push_len s e).1.trans h.lt, (push_len s e).2.trans h.ll, fun v => Int.le_trans (h.pos v) (push_mono h.lt he v), fun v hv e1 => ?_, fun v f hv e1 => ?_, ?_⟩
  · rw [L] at e1
    rw [G]
    split at e1
    · cases e1
    · rename_i c
      rw [if_neg c]
      exact h.non v hv e1
  · have m := push_mono (w := w) h.lt he f.a
    rw [L] at e1
    split at e1
    · rename_i c
      cases e1
      refine ⟨c.1.symm, he.1, hm, ?_⟩
      rw [G, if_pos c]
      omega
    · rename_i c
      obtain ⟨h1, h2, h3, h4⟩ := h.som v f hv e1
      refine ⟨h1, h2, h3, ?_⟩
      rw [G v, if_neg c]
      omega
  · by_cases hit : gt s.1 e.b < gt s.1 e.a + w e
    · refine ⟨fun v => if v = e.b then ρ e.a + 1 else ρ v, fun v f hv e1 => ?_⟩
      rw [L] at e1
      rw [G v, G f.a]
      by_cases hb : v = e.b
      · rw [if_pos ⟨hb, hit⟩] at e1
        cases e1
        rw [if_pos ⟨hb, hit⟩]
        by_cases ha : e.a = e.b
        · rw [if_pos ⟨ha, hit⟩]
          intro z
          rw [ha] at hit z
          omega
        · rw [if_neg (fun z => ha z.1)]
          intro _
          simp only [ha, if_false, hb, if_true]
          omega
      · have nb : ¬ (v = e.b ∧ gt s.1 e.b < gt s.1 e.a + w e) := fun z => hb z.1
        rw [if_neg nb] at e1
        rw [if_neg nb]
        obtain ⟨h1, h2, h3, h4⟩ := h.som v f hv e1
        by_cases fa : f.a = e.b
        · rw [if_pos ⟨fa, hit⟩]
          intro z
          rw [fa] at h4
          omega
        · rw [if_neg fun z => fa z.1]
          intro z
          simp only [fa, hb, if_false]
          exact hρ v f hv e1 z
    · have : push w s e = s := by simp [push, hits, hit]
      rw [this]
      exact ⟨ρ, hρ⟩
theorem inv_lap : ∀ (fs : List Nd) (s : St) (m : Bool), Inv w es n s → (∀ e ∈ fs, EOk n e ∧ e ∈ es) → Inv w es n (lap w fs s m).1
  | [], _, _, h, _ => h
  | e :: fs, s, m, h, hf => inv_lap fs _ _ (inv_push h (hf e List.mem_cons_self).1 (hf e List.mem_cons_self).2) fun x hx => hf x (List.mem_cons_of_mem _ hx)
theorem lap_mono : ∀ (fs : List Nd) (s : St) (m : Bool), s.1.length = n → (∀ e ∈ fs, EOk n e) → ∀ v, gt s.1 v ≤ gt (lap w fs s m).1.1 v
  | [], _, _, _, _, _ => Int.le_refl _
  | e :: fs, s, m, h, hf, v => Int.le_trans (push_mono h (hf e List.mem_cons_self) v) (lap_mono fs _ _ ((push_len s e).1.trans h) (fun x hx => hf x (List.mem_cons_of_mem _ hx)) v)
/-- behind a lap each need is as far as it was ahead of it -/
theorem lap_far : ∀ (fs : List Nd) (s : St) (m : Bool), s.1.length = n → (∀ e ∈ fs, EOk n e) → ∀ e ∈ fs, gt s.1 e.a + w e ≤ gt (lap w fs s m).1.1 e.b
  | [], _, _, _, _, _, h => nomatch h
  | f :: fs, s, m, h, hf, e, he => by
    have l := (push_len (w := w) s f).1.trans h
    have tl : ∀ x ∈ fs, EOk n x := fun x hx => hf x (List.mem_cons_of_mem _ hx)
    rcases List.mem_cons.mp he with rfl | he
    · have a := lap_mono (w := w) fs (push w s e) (hits w s.1 e || m) l tl e.b
      have g := push_gt (w := w) h (hf e List.mem_cons_self) e.b
      refine Int.le_trans ?_ a
      rw [g]
      split
      · exact Int.le_refl _
      · rename_i c; simp at c; omega
    · have a := lap_far fs (push w s f) (hits w s.1 f || m) l tl e he
      have b := push_mono (w := w) h (hf f List.mem_cons_self) e.a
      exact Int.le_trans (by omega) a
/-- a lap that moves nothing leaves all as it was, and each need has its delay -/
theorem lap_still : ∀ (fs : List Nd) (s : St) (m : Bool), (lap w fs s m).2 = false → (lap w fs s m).1 = s ∧ m = false ∧ ∀ e ∈ fs, gt s.1 e.a + w e ≤ gt s.1 e.b
  | [], _, _, h => ⟨rfl, h, fun _ z => nomatch z⟩
  | e :: fs, s, m, h => by
    obtain ⟨h1, h2, h3⟩ := lap_still fs _ _ h
    have hh : hits w s.1 e = false := by
      cases hz : hits w s.1 e
      · rfl
      · rw [hz] at h2; cases h2
    have hp : push w s e = s := by simp [push, hh]
    rw [hp] at h1 h3
    refine ⟨by rw [lap, hp]; exact h1, by rw [hh] at h2; simpa using h2, fun x hx => ?_⟩
    rcases List.mem_cons.mp hx with rfl | hx
    · simp [hits] at hh; omega
    · exact h3 x hx
/-- one that moves something moves some task -/
theorem lap_moved : ∀ (fs : List Nd) (s : St) (m : Bool), s.1.length = n → (∀ e ∈ fs, EOk n e) → (lap w fs s m).2 = true → m = true ∨ ∃ v, v < n ∧ gt s.1 v < gt (lap w fs s m).1.1 v
  | [], _, _, _, _, h => .inl h
  | e :: fs, s, m, hl, hf, h => by
    have l := (push_len (w := w) s e).1.trans hl
    have tl : ∀ x ∈ fs, EOk n x := fun x hx => hf x (List.mem_cons_of_mem _ hx)
    rcases lap_moved fs _ _ l tl h with c | ⟨v, hv, c⟩
    · cases hz : hits w s.1 e
      · rw [hz] at c; exact .inl (by simpa using c)
      · right
        refine ⟨e.b, (hf e List.mem_cons_self).2, ?_⟩
        have g := push_gt (w := w) hl (hf e List.mem_cons_self) e.b
        have a := lap_mono (w := w) fs (push w s e) (hits w s.1 e || m) l tl e.b
        simp [hits] at hz
        rw [if_pos ⟨rfl, hz⟩] at g
        rw [lap]
        omega
    · exact .inr ⟨v, hv, by
        have b := push_mono (w := w) hl (hf e List.mem_cons_self) v
        rw [lap]; omega⟩
/-- numbers that keep all needs are never passed -/
theorem push_below {s : St} {e : Nd} {x : Nat → Int} (hl : s.1.length = n) (he : EOk n e) (hx : x e.a + w e ≤ x e.b) (h : ∀ v, v < n → gt s.1 v ≤ x v) : ∀ v, v < n → gt (push w s e).1 v ≤ x v := fun v hv => by
  rw [push_gt hl he]
  split
  · rename_i c
    have := h e.a he.1
    rw [c.1]; omega
  · exact h v hv
theorem lap_below {x : Nat → Int} : ∀ (fs : List Nd) (s : St) (m : Bool), s.1.length = n → (∀ e ∈ fs, EOk n e) → (∀ e ∈ fs, x e.a + w e ≤ x e.b) → (∀ v, v < n → gt s.1 v ≤ x v) → ∀ v, v < n → gt (lap w fs s m).1.1 v ≤ x v
  | [], _, _, _, _, _, h => h
  | e :: fs, s, m, hl, hf, hx, h => lap_below fs _ _ ((push_len s e).1.trans hl) (fun y hy => hf y (List.mem_cons_of_mem _ hy)) (fun y hy => hx y (List.mem_cons_of_mem _ hy)) (push_below hl (hf e List.mem_cons_self) (hx e List.mem_cons_self) h)
/-! ways along the last needs -/
def wt (w : Nd → Int) (p : List Nd) : Int := (p.map w).sum
@[simp] theorem wt_nil : wt w [] = 0 := rfl
@[simp] theorem wt_cons (e : Nd) (p : List Nd) : wt w (e :: p) = w e + wt w p := by simp [wt]
theorem wt_app (p q : List Nd) : wt w (p ++ q) = wt w p + wt w q := by simp [wt]
/-- p leads from u to v along the last needs -/
inductive Back (l : List (Option Nd)) : Nat → List Nd → Nat → Prop
  | nil (v : Nat) : Back l v [] v
  | step {v : Nat} {e : Nd} {p : List Nd} {u : Nat} : gl l v = some e → Back l e.a p u → Back l v (p ++ [e]) u
/-- p leads from x to v -/
inductive Walk (es : List Nd) : Nat → List Nd → Nat → Prop
  | nil (v : Nat) : Walk es v [] v
  | step {x : Nat} {p : List Nd} {e : Nd} : Walk es x p e.a → e ∈ es → Walk es x (p ++ [e]) e.b
theorem Back.walk {s : St} (h : Inv w es n s) {v u : Nat} {p : List Nd} (b : Back s.2 v p u) : v < n → Walk es u p v := by
  induction b with
  | nil v => exact fun _ => .nil v
  | step g b ih =>
    intro hv
    obtain ⟨h1, h2, h3, h4⟩ := h.som _ _ hv g
    rw [← h1]
    exact .step (ih h2) h3
theorem Back.lt {s : St} (h : Inv w es n s) {v u : Nat} {p : List Nd} (b : Back s.2 v p u) : v < n → u < n := by
  induction b with
  | nil v => exact id
  | step g b ih => exact fun hv => ih (h.som _ _ hv g).2.1
theorem Back.le {s : St} (h : Inv w es n s) {v u : Nat} {p : List Nd} (b : Back s.2 v p u) : v < n → gt s.1 v ≤ gt s.1 u + wt w p := by
  induction b with
  | nil v => intro _; simp
  | step g b ih =>
    intro hv
    obtain ⟨h1, h2, h3, h4⟩ := h.som _ _ hv g
    have := ih h2
    rw [wt_app, wt_cons, wt_nil]
    omega
theorem Back.tight {s : St} (h : Inv w es n s) {ρ : Nat → Nat} (hρ : ∀ v e, v < n → gl s.2 v = some e → gt s.1 v = gt s.1 e.a + w e → ρ e.a < ρ v) {v u : Nat} {p : List Nd} (b : Back s.2 v p u) : v < n → gt s.1 v = gt s.1 u + wt w p → p = [] ∨ ρ u < ρ v := by
  induction b with
  | nil v => exact fun _ _ => .inl rfl
  | @step v e p u g b ih =>
    intro hv z
    right
    obtain ⟨h1, h2, h3, h4⟩ := h.som _ _ hv g
    have b2 := b.le h h2
    rw [wt_app, wt_cons, wt_nil] at z
    have r := hρ v e hv g (by omega)
    rcases ih h2 (by omega) with c | c
    · subst c
      generalize hq : ([] : List Nd) = q at b
      cases b with
      | nil => exact r
      | step g' b' => simp at hq
    · omega
/-- a way along the last needs that comes back is pushed on -/
theorem Back.pos {s : St} (h : Inv w es n s) {v : Nat} {p : List Nd} (b : Back s.2 v p v) (hv : v < n) (hp : p ≠ []) : 0 < wt w p := by
  obtain ⟨ρ, hρ⟩ := h.rk
  have l := b.le h hv
  have t := b.tight h hρ hv
  by_cases e : wt w p = 0
  · rcases t (by omega) with c | c
    · exact absurd c hp
    · exact absurd c (Nat.lt_irrefl _)
  · omega
/-- so many needs back -/
def back (l : List (Option Nd)) : Nat → Nat → Option Nat
  | 0, v => some v
  | k + 1, v => match gl l v with
    | none => none
    | some e => back l k e.a
theorem back_some {l : List (Option Nd)} : ∀ {k v u : Nat}, back l k v = some u → ∃ p, Back l v p u ∧ p.length = k
  | 0, v, u, h => by cases h; exact ⟨[], .nil v, rfl⟩
  | k + 1, v, u, h => by
    unfold back at h
    split at h
    · cases h
    · rename_i e g
      obtain ⟨p, b, hl⟩ := back_some h
      exact ⟨p ++ [e], .step g b, by simp [hl]⟩
theorem back_none {l : List (Option Nd)} : ∀ {k v : Nat}, back l k v = none → ∃ p u, Back l v p u ∧ p.length < k ∧ gl l u = none
  | 0, v, h => by cases h
  | k + 1, v, h => by
    unfold back at h
    split at h
    · rename_i g
      exact ⟨[], v, .nil v, by simp, g⟩
    · rename_i e g
      obtain ⟨p, u, b, hl, hn⟩ := back_none h
      exact ⟨p ++ [e], u, .step g b, by simp; omega, hn⟩
theorem Walk.ge {k : Nat} {t : Nat → List Int} (h0 : ∀ v, 0 ≤ gt (t 0) v) (hm : ∀ j, j < k → ∀ v, gt (t j) v ≤ gt (t (j + 1)) v) (hf : ∀ j, j < k → ∀ e ∈ es, gt (t j) e.a + w e ≤ gt (t (j + 1)) e.b) {x v : Nat} {p : List Nd} (b : Walk es x p v) : p.length ≤ k → ∀ j, p.length ≤ j → j ≤ k → wt w p ≤ gt (t j) v := by
  have mono : ∀ j i, i ≤ j → j ≤ k → ∀ v, gt (t i) v ≤ gt (t j) v := fun j => by
    induction j with
    | zero => intro i hi _ v; have : i = 0 := by omega
              rw [this]; exact Int.le_refl _
    | succ j ih =>
      intro i hi hj v
      by_cases e : i = j + 1
      · rw [e]; exact Int.le_refl _
      · exact Int.le_trans (ih i (by omega) (by omega) v) (hm j (by omega) v)
  induction b with
  | nil => intro _ j _ hj; rw [wt_nil]; exact Int.le_trans (h0 _) (mono j 0 (by omega) hj _)
  | @step p e b he ih =>
    intro hl j hj hk
    rw [List.length_append] at hl hj
    simp only [List.length_cons, List.length_nil] at hl hj
    have a := ih (by omega) (j - 1) (by omega) (by omega)
    have f := hf (j - 1) (by omega) e he
    rw [show j - 1 + 1 = j by omega] at f
    rw [wt_app, wt_cons, wt_nil]
    omega
/-- the state behind so many laps -/
def after (w : Nd → Int) (es : List Nd) (s : St) : Nat → St
  | 0 => s
  | k + 1 => (lap w es (after w es s k) false).1
theorem inv_after {s : St} (h : Inv w es n s) (hf : ∀ e ∈ es, EOk n e) : ∀ k, Inv w es n (after w es s k)
  | 0 => h
  | k + 1 => inv_lap es _ _ (inv_after h hf k) fun e he => ⟨hf e he, he⟩
theorem after_succ (s : St) : ∀ k, after w es s (k + 1) = after w es (lap w es s false).1 k
  | 0 => rfl
  | k + 1 => by
    show (lap w es (after w es s (k + 1)) false).1 = _
    rw [after_succ s k]; rfl
/-- laps that never rest -/
theorem laps_none : ∀ {k : Nat} {s : St}, (laps w es k s).1 = none → (laps w es k s).2 = (after w es s k).2 ∧ ∀ j, j < k → (lap w es (after w es s j) false).2 = true
  | 0, s, _ => ⟨rfl, fun j h => absurd h (Nat.not_lt_zero _)⟩
  | k + 1, s, h => by
    rw [laps] at h ⊢
    split at h
    · rename_i m
      rw [if_pos m]
      obtain ⟨h1, h2⟩ := laps_none h
      refine ⟨by rw [after_succ]; exact h1, fun j hj => ?_⟩
      cases j with
      | zero => exact m
      | succ j => rw [after_succ]; exact h2 j (by omega)
    · cases h
/-- laps that rest -/
theorem laps_some : ∀ {k : Nat} {s : St} {t : List Int}, (laps w es k s).1 = some t → ∃ j, j < k ∧ (after w es s j).1 = t ∧ (laps w es k s).2 = (after w es s j).2 ∧ (lap w es (after w es s j) false).2 = false
  | 0, s, t, h => by cases h
  | k + 1, s, t, h => by
    rw [laps] at h ⊢
    split at h
    · rename_i m
      rw [if_pos m]
      obtain ⟨j, h1, h2, h3, h4⟩ := laps_some h
      exact ⟨j + 1, by omega, by rw [after_succ]; exact h2, by rw [after_succ]; exact h3, by rw [after_succ]; exact h4⟩
    · rename_i m
      rw [if_neg m]
      cases h
      have m : (lap w es s false).2 = false := by simpa using m
      have e := (lap_still es s false m).1
      exact ⟨0, by omega, by simp only [after]; rw [e], by simp only [after]; rw [e], m⟩
theorem after_still {s : St} {j : Nat} (h : (lap w es (after w es s j) false).2 = false) : ∀ i, j ≤ i → after w es s i = after w es s j := fun i => by
  induction i with
  | zero => intro h0; have : j = 0 := by omega
            rw [this]
  | succ i ih =>
    intro hi
    by_cases e : j = i + 1
    · rw [e]
    · have := ih (by omega)
      show (lap w es (after w es s i) false).1 = _
      rw [this]
      exact (lap_still es _ false h).1
/-- behind as many laps as there are tasks, one that moved: some task has as many needs back as there are tasks -/
theorem long_back {s : St} (h : Inv w es n s) (hf : ∀ e ∈ es, EOk n e) {k : Nat} (hk : n ≤ k) (hm : (lap w es (after w es s (k - 1)) false).2 = true) (h1 : 1 ≤ k) : ∃ v, v < n ∧ back (after w es s k).2 n v ≠ none := by
  have ia := fun j => inv_after h hf j
  rcases lap_moved es (after w es s (k - 1)) false (ia _).lt hf hm with c | ⟨v, hv, c⟩
  · cases c
  · refine ⟨v, hv, fun z => ?_⟩
    obtain ⟨p, u, b, hp, hn⟩ := back_none z
    have le := b.le (ia k) hv
    have u0 := (ia k).non u (b.lt (ia k) hv) hn
    have ge := Walk.ge (w := w) (k := k) (t := fun j => (after w es s j).1) (fun v => (ia 0).pos v) (fun j _ v => lap_mono es (after w es s j) false (ia j).lt hf v) (fun j _ e he => lap_far es (after w es s j) false (ia j).lt hf e he) (b.walk (ia k) hv) (by omega) (k - 1) (by omega) (by omega)
    have e : after w es s k = (lap w es (after w es s (k - 1)) false).1 := by
      rw [show k = (k - 1) + 1 by omega]; rfl
    rw [← e] at c
    have ge : wt w p ≤ gt (after w es s (k - 1)).1 v := ge
    omega
/-! a list of small numbers longer than there are has one twice -/
theorem pigeon : ∀ (n : Nat) (l : List Nat), (∀ x ∈ l, x < n) → n < l.length → ¬ l.Nodup
  | 0, l, h, hl, _ => by
    cases l with
    | nil => simp at hl
    | cons x t => exact absurd (h x List.mem_cons_self) (Nat.not_lt_zero _)
  | n + 1, l, h, hl, nd => by
    have nd2 : (l.erase n).Nodup := nd.erase n
    refine pigeon n (l.erase n) (fun x hx => ?_) ?_ nd2
    · have h1 := h x (List.mem_of_mem_erase hx)
      have h2 : x ≠ n := fun z => by
        subst z
        exact (nd.not_mem_erase) hx
      omega
    · have := List.length_erase_le (a := n) (l := l)
      have : l.length - 1 ≤ (l.erase n).length := by
        rw [List.length_erase]; split <;> omega
      omega
theorem back_add {l : List (Option Nd)} : ∀ {k v u j : Nat}, back l k v = some u → back l (k + j) v = back l j u
  | 0, v, u, j, h => by cases h; rw [Nat.zero_add]
  | k + 1, v, u, j, h => by
    rw [show k + 1 + j = (k + j) + 1 by omega]
    simp only [back] at h ⊢
    split at h
    · cases h
    · exact back_add h
theorem back_le {l : List (Option Nd)} {k v j : Nat} (h : back l k v ≠ none) (hj : j ≤ k) : ∃ u, back l j v = some u := by
  cases e : back l j v with
  | some u => exact ⟨u, rfl⟩
  | none =>
    exfalso
    apply h
    clear h
    induction j generalizing k v with
    | zero => cases e
    | succ j ih =>
      cases k with
      | zero => omega
      | succ k =>
        unfold back at e ⊢
        split at e
        · rfl
        · exact ih (by omega) e
theorem back_lt {s : St} (h : Inv w es n s) {k v u : Nat} (hv : v < n) (e : back s.2 k v = some u) : u < n := by
  obtain ⟨p, b, _⟩ := back_some e
  exact b.lt h hv
/-- as many needs back as there are tasks: a task that comes back to itself -/
theorem back_circle {s : St} (h : Inv w es n s) {v x : Nat} (hv : v < n) (e : back s.2 n v = some x) : x < n ∧ ∃ m, 1 ≤ m ∧ m ≤ n ∧ back s.2 m x = some x := by
  refine ⟨back_lt h hv e, ?_⟩
  have hs : ∀ j, j ≤ n → ∃ u, back s.2 j v = some u := fun j hj => back_le (by rw [e]; simp) hj
  have nd : ¬ ((List.range (n + 1)).map fun j => (back s.2 j v).getD 0).Nodup := pigeon n _ (fun x hx => by
    obtain ⟨j, hj, rfl⟩ := List.mem_map.mp hx
    obtain ⟨u, hu⟩ := hs j (by have := List.mem_range.mp hj; omega)
    rw [hu]
    exact back_lt h hv hu) (by simp)
  have : ∃ i j, i < j ∧ j ≤ n ∧ back s.2 i v = back s.2 j v := by
    apply Classical.byContradiction
    intro no
    apply nd
    rw [List.Nodup, List.pairwise_map]
    refine List.Pairwise.imp_of_mem (R := fun a b => a < b) (fun {i j} hi hj hij z => ?_) List.pairwise_lt_range
    have hi := List.mem_range.mp hi
    have hj := List.mem_range.mp hj
    obtain ⟨a, ha⟩ := hs i (by omega)
    obtain ⟨b, hb⟩ := hs j (by omega)
    rw [ha, hb] at z
    exact no ⟨i, j, hij, by omega, by rw [ha, hb]; exact congrArg some z⟩
  obtain ⟨i, j, hij, hj, heq⟩ := this
  obtain ⟨y, hy⟩ := hs i (by omega)
  refine ⟨j - i, by omega, by omega, ?_⟩
  have e1 : back s.2 (n - i) y = some x := by
    have := back_add (j := n - i) hy
    rw [show i + (n - i) = n by omega, e] at this
    exact this.symm
  have e2 : back s.2 (j - i) y = some y := by
    have := back_add (j := j - i) hy
    rw [show i + (j - i) = j by omega, ← heq, hy] at this
    exact this.symm
  have e3 := back_add (j := j - i) e1
  have e4 := back_add (j := n - i) e2
  rw [Nat.add_comm] at e3
  rw [← e3, e4, e1]
/-! ### circles -/
theorem Walk.app {x u v : Nat} {p q : List Nd} (a : Walk es x p u) (b : Walk es u q v) : Walk es x (p ++ q) v := by
  induction b with
  | nil => rw [List.append_nil]; exact a
  | step b hf ih => rw [← List.append_assoc]; exact .step ih hf
theorem Walk.split {x v : Nat} {r : List Nd} (b : Walk es x r v) : ∀ p q, r = p ++ q → ∃ u, Walk es x p u ∧ Walk es u q v := by
  induction b with
  | nil => intro p q h; obtain ⟨rfl, rfl⟩ := List.append_eq_nil_iff.mp h.symm; exact ⟨_, .nil _, .nil _⟩
  | @step r e b hf ih =>
    intro p q h
    rcases List.eq_nil_or_concat q with rfl | ⟨q', f, rfl⟩
    · rw [List.append_nil] at h
      subst h
      exact ⟨_, .step b hf, .nil _⟩
    · rw [List.concat_eq_append, ← List.append_assoc] at h
      obtain ⟨h1, h2⟩ := List.append_inj' h rfl
      cases h2
      obtain ⟨u, h3, h4⟩ := ih p q' h1
      exact ⟨u, h3, by rw [List.concat_eq_append]; exact .step h4 hf⟩
theorem Walk.nil_eq {x v : Nat} {p : List Nd} (b : Walk es x p v) : p = [] → x = v := by
  cases b with
  | nil => exact fun _ => rfl
  | step => intro h; simp at h
theorem Walk.snoc {x v : Nat} {q : List Nd} (b : Walk es x q v) : ∀ {p e}, q = p ++ [e] → e.b = v ∧ Walk es x p e.a ∧ e ∈ es := by
  cases b with
  | nil => intro p e h; simp at h
  | step b hf =>
    intro p e h
    obtain ⟨h1, h2⟩ := List.append_inj' h rfl
    cases h2
    subst h1
    exact ⟨rfl, b, hf⟩
theorem Walk.head {x v : Nat} {e : Nd} {p : List Nd} (b : Walk es x (e :: p) v) : e.a = x ∧ e ∈ es ∧ Walk es e.b p v := by
  obtain ⟨u, h1, h2⟩ := b.split [e] p rfl
  obtain ⟨h3, h4, h5⟩ := h1.snoc (p := []) rfl
  subst h3
  exact ⟨(h4.nil_eq rfl).symm, h5, h2⟩
theorem Walk.mem {x v : Nat} {p : List Nd} (b : Walk es x p v) : ∀ e ∈ p, e ∈ es := by
  induction b with
  | nil => exact fun e h => nomatch h
  | step b hf ih =>
    intro e h
    rcases List.mem_append.mp h with h | h
    · exact ih e h
    · rw [List.mem_singleton.mp h]; exact hf
theorem Walk.last {x v : Nat} {e : Nd} {p : List Nd} (b : Walk es x (p ++ [e]) v) : e.b = v ∧ Walk es x p e.a ∧ e ∈ es := b.snoc rfl
/-- a circle: no task twice -/
structure Circ (es : List Nd) (x : Nat) (p : List Nd) : Prop where
  walk : Walk es x p x
  ne : p ≠ []
  nd : (p.map (·.a)).Nodup
theorem Circ.len {x : Nat} {p : List Nd} (c : Circ es x p) (hf : ∀ e ∈ es, EOk n e) : p.length ≤ n := by
  apply Classical.byContradiction
  intro h
  refine pigeon n (p.map (·.a)) (fun y hy => ?_) (by rw [List.length_map]; omega) c.nd
  obtain ⟨e, he, rfl⟩ := List.mem_map.mp hy
  exact (hf e (c.walk.mem e he)).1
/-- the same circle, begun elsewhere -/
theorem Circ.turn {x : Nat} {p q : List Nd} {e : Nd} (c : Circ es x (p ++ e :: q)) : Circ es e.a (e :: q ++ p) := by
  obtain ⟨u, h1, h2⟩ := c.walk.split p (e :: q) rfl
  have hu := h2.head.1
  subst hu
  refine ⟨h2.app h1, by simp, ?_⟩
  exact (List.Perm.map _ List.perm_append_comm).nodup_iff.mp c.nd
theorem wt_turn (p q : List Nd) (e : Nd) : wt w (e :: q ++ p) = wt w (p ++ e :: q) := by
  rw [wt_app, wt_app]; omega
theorem least_mem (f : Nd → Nat) : ∀ p : List Nd, p ≠ [] → ∃ e ∈ p, ∀ g ∈ p, f e ≤ f g
  | [], h => absurd rfl h
  | [e], _ => ⟨e, List.mem_cons_self, fun g hg => by rw [List.mem_singleton.mp hg]; exact Nat.le_refl _⟩
  | e :: e' :: p, _ => by
    obtain ⟨m, h1, h2⟩ := least_mem f (e' :: p) (by simp)
    by_cases h : f e ≤ f m
    · refine ⟨e, List.mem_cons_self, fun g hg => ?_⟩
      rcases List.mem_cons.mp hg with rfl | hg
      · exact Nat.le_refl _
      · exact Nat.le_trans h (h2 g hg)
    · refine ⟨m, List.mem_cons_of_mem _ h1, fun g hg => ?_⟩
      rcases List.mem_cons.mp hg with rfl | hg
      · omega
      · exact h2 g hg
/-- begun at its least task -/
theorem Circ.least {x : Nat} {r : List Nd} (c : Circ es x r) : ∃ p e q, r = p ++ e :: q ∧ Circ es e.a (e :: (q ++ p)) ∧ (∀ g ∈ q ++ p, e.a < g.a) := by
  obtain ⟨e, he, hl⟩ := least_mem (·.a) r c.ne
  obtain ⟨p, q, rfl⟩ := List.append_of_mem he
  have t := c.turn
  refine ⟨p, e, q, rfl, t, fun g hg => ?_⟩
  have h1 := hl g (by
    rcases List.mem_append.mp hg with h | h
    · exact List.mem_append_right _ (List.mem_cons_of_mem _ h)
    · exact List.mem_append_left _ h)
  have nd := t.nd
  simp only [List.cons_append, List.map_cons, List.nodup_cons] at nd
  have : e.a ≠ g.a := fun z => nd.1 (by rw [z]; exact List.mem_map.mpr ⟨g, hg, rfl⟩)
  omega
/-! all circles, each begun at its least task -/
def endsAt (p : List Nd) : Nat := match p.getLast? with | some e => e.b | none => 0
def startsAt (p : List Nd) : Nat := match p.head? with | some e => e.a | none => 0
def closed (p : List Nd) : Bool := endsAt p == startsAt p
def goesOn (p : List Nd) (e : Nd) : Bool := e.a == endsAt p && (decide (startsAt p < e.a) && !((p.map (·.a)).contains e.a))
def ext (es : List Nd) (p : List Nd) : List (List Nd) := (es.filter (goesOn p)).map fun e => p ++ [e]
def longer (es : List Nd) (line : List (List Nd)) : List (List Nd) := (line.filter fun p => !closed p).flatMap (ext es)
def rings (es : List Nd) : Nat → List (List Nd) → List (List Nd)
  | 0, _ => []
  | k + 1, line => line.filter closed ++ rings es k (longer es line)
def ringsOf (n : Nat) (es : List Nd) : List (List Nd) := rings es n (es.map fun e => [e])
def lineAt (es : List Nd) : Nat → List (List Nd)
  | 0 => es.map fun e => [e]
  | k + 1 => longer es (lineAt es k)
theorem mem_rings {p : List Nd} : ∀ (k : Nat) (j : Nat), p ∈ rings es k (lineAt es j) ↔ ∃ i, i < k ∧ p ∈ lineAt es (j + i) ∧ closed p = true
  | 0, j => by simp [rings]
  | k + 1, j => by
    rw [rings, List.mem_append, List.mem_filter]
    have : longer es (lineAt es j) = lineAt es (j + 1) := rfl
    rw [this, mem_rings k (j + 1)]
    constructor
    · rintro (h | ⟨i, h1, h2, h3⟩)
      · exact ⟨0, by omega, h.1, h.2⟩
      · exact ⟨i + 1, by omega, by rw [show j + (i + 1) = j + 1 + i by omega]; exact h2, h3⟩
    · rintro ⟨i, h1, h2, h3⟩
      cases i with
      | zero => exact .inl ⟨h2, h3⟩
      | succ i => exact .inr ⟨i, by omega, by rw [show j + 1 + i = j + (i + 1) by omega]; exact h2, h3⟩
theorem endsAt_snoc (p : List Nd) (e : Nd) : endsAt (p ++ [e]) = e.b := by simp [endsAt]
theorem startsAt_app {p : List Nd} (h : p ≠ []) (q : List Nd) : startsAt (p ++ q) = startsAt p := by
  cases p with
  | nil => exact absurd rfl h
  | cons e p => rfl
/-- a way from its least task, no task twice -/
structure Way (es : List Nd) (p : List Nd) : Prop where
  walk : Walk es (startsAt p) p (endsAt p)
  ne : p ≠ []
  nd : (p.map (·.a)).Nodup
  lo : ∀ g ∈ p.tail, startsAt p < g.a
theorem mem_line {p : List Nd} : ∀ k, p ∈ lineAt es k ↔ Way es p ∧ p.length = k + 1
  | 0 => by
    rw [lineAt, List.mem_map]
    constructor
    · rintro ⟨e, he, rfl⟩
      exact ⟨⟨.step (p := []) (.nil _) he, by simp, by simp, by simp⟩, rfl⟩
    · rintro ⟨h, hl⟩
      match p, hl with
      | [e], _ => exact ⟨e, h.walk.mem e List.mem_cons_self, rfl⟩
  | k + 1 => by
    rw [lineAt, longer, List.mem_flatMap]
    constructor
    · rintro ⟨q, hq, hp⟩
      obtain ⟨h1, h2⟩ := List.mem_filter.mp hq
      obtain ⟨e, he, rfl⟩ := List.mem_map.mp hp
      obtain ⟨he, hg⟩ := List.mem_filter.mp he
      obtain ⟨h3, h4⟩ := (mem_line k).mp h1
      simp only [goesOn, Bool.and_eq_true, beq_iff_eq, decide_eq_true_eq, Bool.not_eq_true', List.contains_eq_mem, decide_eq_false_iff_not] at hg
      obtain ⟨g1, g2, g3⟩ := hg
      refine ⟨⟨?_, by simp, ?_, ?_⟩, by simp [h4]⟩
      · rw [startsAt_app h3.ne, endsAt_snoc]
        refine .step ?_ he
        rw [g1]; exact h3.walk
      · rw [List.map_append, List.nodup_append]
        refine ⟨h3.nd, by simp, fun x hx y hy z => ?_⟩
        simp only [List.map_cons, List.map_nil, List.mem_singleton] at hy
        subst z; subst hy
        exact g3 hx
      · rw [startsAt_app h3.ne]
        intro g hg
        rw [List.tail_append_of_ne_nil h3.ne] at hg
        rcases List.mem_append.mp hg with h | h
        · exact h3.lo g h
        · rw [List.mem_singleton.mp h]; exact g2
    · rintro ⟨h, hl⟩
      rcases List.eq_nil_or_concat p with rfl | ⟨q, e, rfl⟩
      · simp at hl
      rw [List.concat_eq_append] at h hl ⊢
      have hlq : q.length = k + 1 := by simpa using hl
      have qn : q ≠ [] := fun z => by rw [z] at hlq; simp at hlq
      obtain ⟨w1, w2, w3⟩ := h.walk.last
      have st := startsAt_app qn [e]
      have nd := h.nd
      rw [List.map_append, List.nodup_append] at nd
      have lo := h.lo
      rw [List.tail_append_of_ne_nil qn, st] at lo
      have en : e.a = endsAt q := by
        rcases List.eq_nil_or_concat q with rfl | ⟨r, f, rfl⟩
        · exact absurd rfl qn
        rw [List.concat_eq_append] at w2 ⊢
        rw [endsAt_snoc]; exact w2.last.1.symm
      rw [st, en] at w2
      have wq : Way es q := ⟨w2, qn, nd.1, fun g hg => lo g (List.mem_append_left _ hg)⟩
      have la := lo e (List.mem_append_right _ List.mem_cons_self)
      refine ⟨q, List.mem_filter.mpr ⟨(mem_line k).mpr ⟨wq, hlq⟩, ?_⟩, List.mem_map.mpr ⟨e, List.mem_filter.mpr ⟨w3, ?_⟩, rfl⟩⟩
      · simp only [closed, Bool.not_eq_true', beq_eq_false_iff_ne]
        rw [← en]; omega
      · simp only [goesOn, Bool.and_eq_true, beq_iff_eq, decide_eq_true_eq, Bool.not_eq_true', List.contains_eq_mem, decide_eq_false_iff_not]
        refine ⟨en, la, fun z => ?_⟩
        exact nd.2.2 _ z _ (by simp) rfl
theorem mem_ringsOf {p : List Nd} : p ∈ ringsOf n es ↔ Way es p ∧ closed p = true ∧ p.length ≤ n := by
  have := mem_rings (es := es) (p := p) n 0
  rw [ringsOf, show (es.map fun e => [e]) = lineAt es 0 from rfl, this]
  constructor
  · rintro ⟨i, h1, h2, h3⟩
    rw [Nat.zero_add] at h2
    obtain ⟨h4, h5⟩ := (mem_line i).mp h2
    exact ⟨h4, h3, by omega⟩
  · rintro ⟨h1, h2, h3⟩
    have : p.length ≠ 0 := fun z => h1.ne (List.length_eq_zero_iff.mp z)
    exact ⟨p.length - 1, by omega, by rw [Nat.zero_add]; exact (mem_line _).mpr ⟨h1, by omega⟩, h2⟩
theorem ring_circ {p : List Nd} (h : p ∈ ringsOf n es) : Circ es (startsAt p) p := by
  obtain ⟨h1, h2, h3⟩ := mem_ringsOf.mp h
  simp only [closed, beq_iff_eq] at h2
  have := h1.walk
  rw [h2] at this
  exact ⟨this, h1.ne, h1.nd⟩
theorem circ_ends {x : Nat} {p : List Nd} (c : Circ es x p) : endsAt p = x ∧ startsAt p = x := by
  constructor
  · rcases List.eq_nil_or_concat p with rfl | ⟨q, e, rfl⟩
    · exact absurd rfl c.ne
    rw [List.concat_eq_append] at c ⊢
    rw [endsAt_snoc]; exact c.walk.last.1
  · cases p with
    | nil => exact absurd rfl c.ne
    | cons e p => exact c.walk.head.1
/-- each circle, begun at its least task, is among them -/
theorem circ_ring {x : Nat} {r : List Nd} (hf : ∀ e ∈ es, EOk n e) (c : Circ es x r) : ∃ p e q, r = p ++ e :: q ∧ e :: (q ++ p) ∈ ringsOf n es := by
  obtain ⟨p, e, q, h1, h2, h3⟩ := c.least
  obtain ⟨e1, e2⟩ := circ_ends h2
  refine ⟨p, e, q, h1, mem_ringsOf.mpr ⟨⟨?_, h2.ne, h2.nd, ?_⟩, ?_, h2.len hf⟩⟩
  · rw [e1, e2]; exact h2.walk
  · rw [e2]; exact h3
  · simp [closed, e1, e2]
/-- the circle from a task that comes back to itself, by the first time -/
theorem back_edges {l : List (Option Nd)} : ∀ {k v u : Nat}, back l k v = some u → ∃ p, Back l v p u ∧ p.length = k ∧ p.reverse.map (fun e => some e.a) = (List.range k).map fun j => back l (j + 1) v
  | 0, v, u, h => by cases h; exact ⟨[], .nil v, rfl, rfl⟩
  | k + 1, v, u, h => by
    have h' := h
    unfold back at h
    split at h
    · cases h
    · rename_i e g
      obtain ⟨p, b, hl, hm⟩ := back_edges h
      refine ⟨p ++ [e], .step g b, by simp [hl], ?_⟩
      have b1 : ∀ j, back l (j + 1) v = back l j e.a := fun j => by rw [back]; simp [g]
      rw [List.reverse_append, List.range_succ_eq_map, List.map_append, hm]
      simp only [List.reverse_cons, List.reverse_nil, List.nil_append, List.map_cons, List.map_nil, List.map_map, List.singleton_append, b1]
      rfl
theorem first_circle {s : St} (h : Inv w es n s) {x m : Nat} (hx : x < n) (h1 : 1 ≤ m) (hm : back s.2 m x = some x) (hmin : ∀ j, 1 ≤ j → j < m → back s.2 j x ≠ some x) : ∃ p, Back s.2 x p x ∧ p.length = m ∧ Circ es x p := by
  obtain ⟨p, b, hl, he⟩ := back_edges hm
  refine ⟨p, b, hl, b.walk h hx, fun z => by rw [z] at hl; simp at hl; omega, ?_⟩
  have key : ((List.range m).map fun j => back s.2 (j + 1) x).Nodup := by
    rw [List.Nodup, List.pairwise_map]
    refine List.Pairwise.imp_of_mem (R := fun a b => a < b) (fun {i j} hi hj hij z => ?_) List.pairwise_lt_range
    have hi := List.mem_range.mp hi
    have hj := List.mem_range.mp hj
    obtain ⟨y, hy⟩ := back_le (l := s.2) (k := m) (v := x) (j := i + 1) (by rw [hm]; simp) (by omega)
    have a1 := back_add (j := m - (j + 1)) hy
    have a2 := back_add (j := m - (j + 1)) (z ▸ hy)
    rw [show j + 1 + (m - (j + 1)) = m by omega, hm] at a2
    rw [← a2] at a1
    exact hmin (i + 1 + (m - (j + 1))) (by omega) (by omega) a1
  rw [← he] at key
  have k2 : (p.reverse.map (·.a)).Nodup := by
    rw [List.Nodup, List.pairwise_map] at key ⊢
    exact key.imp fun h z => h (by rw [z])
  rw [List.map_reverse] at k2
  exact (List.reverse_perm _).nodup_iff.mp k2
theorem first_time {P : Nat → Prop} (m : Nat) (h1 : 1 ≤ m) (h : P m) : ∃ k, 1 ≤ k ∧ k ≤ m ∧ P k ∧ ∀ j, 1 ≤ j → j < k → ¬ P j := by
  induction m using Nat.strongRecOn with
  | _ m ih =>
    by_cases c : ∃ j, 1 ≤ j ∧ j < m ∧ P j
    · obtain ⟨j, j1, j2, j3⟩ := c
      obtain ⟨k, k1, k2, k3⟩ := ih j j2 j1 j3
      exact ⟨k, k1, by omega, k3⟩
    · exact ⟨m, h1, Nat.le_refl _, h, fun j j1 j2 j3 => c ⟨j, j1, j2, j3⟩⟩
/-- no rest in as many laps as there are tasks: a circle that is pushed on, along the last needs -/
theorem no_rest {s : St} (h : Inv w es n s) (hf : ∀ e ∈ es, EOk n e) {k : Nat} (hk : n ≤ k) (h1 : 1 ≤ k) (hl : (laps w es k s).1 = none) : (∃ v, v < n ∧ back (laps w es k s).2 n v ≠ none) ∧
    ∀ v x, v < n → back (laps w es k s).2 n v = some x → x < n ∧ ∃ p, Back (laps w es k s).2 x p x ∧ Circ es x p ∧ 0 < wt w p ∧ p.length ≤ n ∧ back (laps w es k s).2 p.length x = some x ∧ ∀ j, 1 ≤ j → j < p.length → back (laps w es k s).2 j x ≠ some x := by
  obtain ⟨e, hm⟩ := laps_none hl
  rw [e]
  have ik := inv_after h hf k
  refine ⟨long_back h hf hk (hm (k - 1) (by omega)) h1, fun v x hv hb => ?_⟩
  obtain ⟨hx, m, m1, m2, m3⟩ := back_circle ik hv hb
  obtain ⟨j, j1, j2, j3, j4⟩ := first_time (P := fun j => back (after w es s k).2 j x = some x) m m1 m3
  obtain ⟨p, b, pl, c⟩ := first_circle ik hx j1 j3 j4
  exact ⟨hx, p, b, c, b.pos ik hx c.ne, by omega, by rw [pl]; exact j3, by rw [pl]; exact j4⟩
/-- the sum along a way, numbers that keep all needs -/
theorem Walk.pot {x : Nat → Int} (hx : ∀ e ∈ es, x e.a + w e ≤ x e.b) {u v : Nat} {p : List Nd} (b : Walk es u p v) : x u + wt w p ≤ x v := by
  induction b with
  | nil => simp
  | step b hf ih =>
    have := hx _ hf
    rw [wt_app, wt_cons, wt_nil]
    omega
/-- EXACTLY ONE: numbers that keep all needs, or a ring that is pushed on -/
theorem rest_iff (hf : ∀ e ∈ es, EOk n e) {k : Nat} (hk : n ≤ k) (h1 : 1 ≤ k) : (laps w es k (start0 n)).1 = none ↔ ∃ p ∈ ringsOf n es, 0 < wt w p := by
  constructor
  · intro hl
    obtain ⟨⟨v, hv, hb⟩, h2⟩ := no_rest (inv_start w es n) hf hk h1 hl
    cases hx : back (laps w es k (start0 n)).2 n v with
    | none => exact absurd hx hb
    | some x =>
      obtain ⟨_, r, _, c, pos, _⟩ := h2 v x hv hx
      obtain ⟨p, e, q, rfl, hr⟩ := circ_ring hf c
      exact ⟨_, hr, by have := wt_turn (w := w) p q e; rw [List.cons_append] at this; omega⟩
  · rintro ⟨p, hp, pos⟩
    cases e : (laps w es k (start0 n)).1 with
    | none => rfl
    | some t =>
      exfalso
      obtain ⟨j, h1, h2, h3, h4⟩ := laps_some e
      have hs := (lap_still es _ false h4).2.2
      have c := ring_circ hp
      have := c.walk.pot (x := gt (after w es (start0 n) j).1) hs
      omega
/-- what the laps come to: it keeps all needs, it is the least such from 0 on -/
theorem rest_least (hf : ∀ e ∈ es, EOk n e) {k : Nat} {t : List Int} (h : (laps w es k (start0 n)).1 = some t) : t.length = n ∧ (∀ v, 0 ≤ gt t v) ∧ (∀ e ∈ es, gt t e.a + w e ≤ gt t e.b) ∧ ∀ x : Nat → Int, (∀ v, v < n → 0 ≤ x v) → (∀ e ∈ es, x e.a + w e ≤ x e.b) → ∀ v, v < n → gt t v ≤ x v := by
  obtain ⟨j, h1, h2, h3, h4⟩ := laps_some h
  refine ⟨by rw [← h2]; exact (inv_after (inv_start w es n) hf j).lt, fun v => by rw [← h2]; exact (inv_after (inv_start w es n) hf j).pos v, by rw [← h2]; exact (lap_still es _ false h4).2.2, fun x hx0 hx v hv => ?_⟩
  rw [← h2]
  clear h1 h2 h3 h4 h
  induction j generalizing v with
  | zero =>
    have : gt (start0 n).1 v = 0 := by
      simp only [gt, start0, List.getD, List.getElem?_replicate]
      split <;> rfl
    show gt (start0 n).1 v ≤ x v
    rw [this]; exact hx0 v hv
  | succ j ih => exact lap_below es _ false (inv_after (inv_start w es n) hf j).lt hf hx (fun v hv => ih v hv) v hv
/-- it is no greater than the way of the last needs, which has less needs than there are tasks -/
theorem rest_bound (hf : ∀ e ∈ es, EOk n e) {k : Nat} {t : List Int} (h : (laps w es k (start0 n)).1 = some t) {c : Int} (hc : ∀ e ∈ es, w e ≤ c) (h0 : 0 ≤ c) : ∀ v, v < n → gt t v ≤ ((n : Int) - 1) * c := by
  intro v hv
  obtain ⟨j, h1, h2, h3, h4⟩ := laps_some h
  have ij := inv_after (inv_start w es n) hf j
  have hs := (lap_still es _ false h4).2.2
  have hb : back (after w es (start0 n) j).2 n v = none := by
    cases e : back (after w es (start0 n) j).2 n v with
    | none => rfl
    | some x =>
      exfalso
      obtain ⟨hx, m, m1, m2, m3⟩ := back_circle ij hv e
      obtain ⟨p, b, hl⟩ := back_some m3
      have p0 := b.pos ij hx (fun z => by rw [z] at hl; simp at hl; omega)
      have := (b.walk ij hx).pot (x := gt (after w es (start0 n) j).1) hs
      omega
  obtain ⟨p, u, b, hl, hn⟩ := back_none hb
  have le := b.le ij hv
  have u0 := ij.non u (b.lt ij hv) hn
  have wl : ∀ q : List Nd, (∀ e ∈ q, w e ≤ c) → wt w q ≤ (q.length : Int) * c := fun q => by
    induction q with
    | nil => intro _; simp
    | cons e q ih =>
      intro hq
      have a := hq e List.mem_cons_self
      have b := ih fun x hx => hq x (List.mem_cons_of_mem _ hx)
      rw [wt_cons, List.length_cons, Int.natCast_add, Int.add_mul]
      omega
  have wp := wl p fun e he => hc e ((b.walk ij hv).mem e he)
  have : (p.length : Int) * c ≤ ((n : Int) - 1) * c := Int.mul_le_mul_of_nonneg_right (by omega) h0
  rw [← h2]
  omega
/-- numbers that keep all needs: the laps rest -/
theorem rest_of (hf : ∀ e ∈ es, EOk n e) {k : Nat} (hk : n ≤ k) (h1 : 1 ≤ k) {x : Nat → Int} (hx : ∀ e ∈ es, x e.a + w e ≤ x e.b) : ∃ t, (laps w es k (start0 n)).1 = some t := by
  cases e : (laps w es k (start0 n)).1 with
  | some t => exact ⟨t, rfl⟩
  | none =>
    obtain ⟨p, hp, pos⟩ := (rest_iff hf hk h1).mp e
    have := (ring_circ hp).walk.pot hx
    omega
end BF

set_option maxHeartbeats 4000000
/-! plain evaluation -/
namespace SE
open PySem PySem.Spec PyProof.Rows L2
@[simp] theorem seqR_nil : seqR [] = .ok [] := rfl
@[simp] theorem seqR_cons (r : R PyData) (rs : List (R PyData)) : seqR (r :: rs) = r.bind fun d => (seqR rs).bind fun ds => .ok (d :: ds) := rfl
@[simp] theorem asB_bool (b : Bool) : asB (.bool b) = .ok b := rfl
@[simp] theorem dCmp_int (p : Int → Int → Bool) (i j : Int) : dCmp p (.int i) (.int j) = some (.bool (p i j)) := rfl
@[simp] theorem dAdd_int (i j : Int) : dAdd (.int i) (.int j) = some (.int (i + j)) := rfl
@[simp] theorem dSub_int (i j : Int) : dSub (.int i) (.int j) = some (.int (i - j)) := rfl
@[simp] theorem dInt_int (i : Int) : dInt [.int i] = some (.int i) := rfl
theorem dMod_int {i j : Int} (h : j ≠ 0) : dMod (.int i) (.int j) = some (.int (i.fmod j)) := if_pos h
theorem dFdiv_int {i j : Int} (h : j ≠ 0) (h2 : j.natAbs < 1073741824) : dFdiv (.int i) (.int j) = some (.int (i.fdiv j)) := if_pos ⟨h, h2⟩
theorem dMul_int {i j : Int} (h : SE.MulOk i j) : dMul (.int i) (.int j) = some (.int (i * j)) := if_pos h
theorem mulOk_l {i j : Int} (h1 : -(2 ^ 64) < i) (h2 : i < 2 ^ 64) : SE.MulOk i j := .inl ⟨h1, h2⟩
theorem mulOk_r {i j : Int} (h1 : -(2 ^ 64) < j) (h2 : j < 2 ^ 64) : SE.MulOk i j := .inr ⟨h1, h2⟩
theorem ix0 (a b c : PyData) : dIx (.list [a, b, c]) (.int 0) = some a := rfl
theorem ix1 (a b c : PyData) : dIx (.list [a, b, c]) (.int 1) = some b := rfl
theorem ix2 (a b c : PyData) : dIx (.list [a, b, c]) (.int 2) = some c := rfl
theorem put0 (a b c d : PyData) : putD [a, b, c] (.int 0) d = some [d, b, c] := rfl
theorem put2 (a b c d : PyData) : putD [a, b, c] (.int 2) d = some [a, b, d] := rfl
/-- what the urn draws when its number is used up -/
def drawn (b c : Int) : Int :=
  let once := ((b + 48271 * (c + 1)) * (39373 + (c + 1))).fmod 2147483647
  let far := once.fmod 40009 + 7
  let twice := ((once + (c + 1) + b.fdiv 1000003) * far).fmod 2147483629
  ((twice * 48271 + once).fmod 2147483587).fdiv 64
theorem fmod_bd (a : Int) {b : Int} (h : 0 < b) : 0 ≤ a.fmod b ∧ a.fmod b < b := by
  rw [Int.fmod_eq_emod_of_nonneg _ (Int.le_of_lt h)]
  exact ⟨Int.emod_nonneg _ (by omega), Int.emod_lt_of_pos _ h⟩
/-- an urn that has drawn at most n times by its own -/
def UrnOk (n : Nat) (urn : List PyData) : Prop := ∃ a b c : Int, urn = [.int a, .int b, .int c] ∧ 0 ≤ a ∧ 0 ≤ c ∧ c ≤ n
theorem UrnOk.mono {n m : Nat} {u : List PyData} (h : UrnOk n u) (e : n ≤ m) : UrnOk m u := by
  obtain ⟨a, b, c, h1, h2, h3, h4⟩ := h
  exact ⟨a, b, c, h1, h2, h3, by omega⟩
/-! the same, lists and tuples told apart or not -/
mutual
inductive Soft : PyData → PyData → Prop
  | same (d : PyData) : itemsD d = none → Soft d d
  | seq {d d' : PyData} {ds ds' : List PyData} : itemsD d = some ds → itemsD d' = some ds' → SoftAll ds ds' → Soft d d'
inductive SoftAll : List PyData → List PyData → Prop
  | nil : SoftAll [] []
  | cons {d d' : PyData} {ds ds' : List PyData} : Soft d d' → SoftAll ds ds' → SoftAll (d :: ds) (d' :: ds')
end
mutual
def dep : PyData → Nat
  | .list ds => depL ds + 1
  | .tuple ds => depL ds + 1
  | _ => 0
def depL : List PyData → Nat
  | [] => 0
  | d :: ds => max (dep d) (depL ds)
end
mutual
def nodes : PyData → Nat
  | .list ds => nodesL ds + 1
  | .tuple ds => nodesL ds + 1
  | _ => 0
def nodesL : List PyData → Nat
  | [] => 0
  | d :: ds => nodes d + nodesL ds
end
mutual
def noDict : PyData → Bool
  | .list ds => noDictL ds
  | .tuple ds => noDictL ds
  | .dict _ => false
  | _ => true
def noDictL : List PyData → Bool
  | [] => true
  | d :: ds => noDict d && noDictL ds
end
@[simp] theorem filtM_nil {U : Type} (f : PyData → U → R (Option PyData × U)) (u : U) : filtM f [] u = .ok ([], u) := rfl
@[simp] theorem filtM_cons {U : Type} (f : PyData → U → R (Option PyData × U)) (d : PyData) (ds : List PyData) (u : U) : filtM f (d :: ds) u = (f d u).bind fun x => (filtM f ds x.2).bind fun xs => .ok (match x.1 with | some y => y :: xs.1 | none => xs.1, xs.2) := rfl
theorem dTuple_list (ds : List PyData) : dTuple [.list ds] = some (.tuple ds) := rfl
theorem lc_all {P : Type} {ri : List PyData → R (List PyData × List PyData)} {dec : PyData → Option P} {t : P → List PyData → R Bool} {f : P → List PyData → R (PyData × List PyData)} {u u1 : List PyData} {ds : List PyData} {q : List PyData × List PyData} (h : ri u = .ok (ds, u1)) (h2 : filtM (turnM dec t f) ds u1 = .ok q) : lcM ri dec t f u = .ok q := by
  unfold lcM
  rw [h, R.bind_ok, h2]
  rfl
mutual
def hard : PyData → PyData
  | .list ds => .tuple (hardL ds)
  | .tuple ds => .tuple (hardL ds)
  | d => d
def hardL : List PyData → List PyData
  | [] => []
  | d :: ds => hard d :: hardL ds
end
mutual
theorem Soft.hard : ∀ {d d' : PyData}, Soft d d' → hard d' = hard d
  | _, _, .same d _ => rfl
  | d, d', .seq (ds := ds) (ds' := ds') e e' h => by
    have := SoftAll.hard h
    cases d <;> cases d' <;> simp_all [itemsD, SE.hard]
theorem SoftAll.hard : ∀ {ds ds' : List PyData}, SoftAll ds ds' → hardL ds' = hardL ds
  | _, _, .nil => rfl
  | _, _, .cons h t => by simp only [hardL]; rw [Soft.hard h, SoftAll.hard t]
end
theorem SoftAll.len {ds ds' : List PyData} : SoftAll ds ds' → ds'.length = ds.length
  | .nil => rfl
  | .cons _ t => congrArg (· + 1) (SoftAll.len t)
mutual
theorem Soft.dep : ∀ {d d' : PyData}, Soft d d' → dep d' = dep d
  | _, _, .same d _ => rfl
  | d, d', .seq (ds := ds) (ds' := ds') e e' h => by
    have := SoftAll.dep h
    cases d <;> cases d' <;> simp_all [itemsD, SE.dep]
theorem SoftAll.dep : ∀ {ds ds' : List PyData}, SoftAll ds ds' → depL ds' = depL ds
  | _, _, .nil => rfl
  | _, _, .cons h t => by simp only [depL]; rw [Soft.dep h, SoftAll.dep t]
end
mutual
theorem Soft.noDict : ∀ {d d' : PyData}, Soft d d' → noDict d' = noDict d
  | _, _, .same d _ => rfl
  | d, d', .seq (ds := ds) (ds' := ds') e e' h => by
    have := SoftAll.noDict h
    cases d <;> cases d' <;> simp_all [itemsD, SE.noDict]
theorem SoftAll.noDict : ∀ {ds ds' : List PyData}, SoftAll ds ds' → noDictL ds' = noDictL ds
  | _, _, .nil => rfl
  | _, _, .cons h t => by simp only [noDictL]; rw [Soft.noDict h, SoftAll.noDict t]
end
@[simp] theorem filtR_nil (f : PyData → R (Option PyData)) : filtR f [] = .ok [] := rfl
@[simp] theorem filtR_cons (f : PyData → R (Option PyData)) (d : PyData) (ds : List PyData) : filtR f (d :: ds) = (f d).bind fun x => (filtR f ds).bind fun xs => .ok (match x with | some y => y :: xs | none => xs) := rfl
mutual
/-- none, truths, whole numbers, and short lists and tuples of such -/
def okD : PyData → Bool
  | .list ds => decide (ds.length ≤ 100000) && okL ds
  | .tuple ds => decide (ds.length ≤ 100000) && okL ds
  | .dict _ => false
  | .str _ => false
  | _ => true
def okL : List PyData → Bool
  | [] => true
  | d :: ds => okD d && okL ds
end
theorem dAll_true : ∀ n : Nat, dAll [.list (List.replicate n (.bool true))] = some (.bool true) := fun n => by
  have : asBools (List.replicate n (.bool true)) = some (List.replicate n true) := by
    induction n with
    | zero => rfl
    | succ n ih => simp [List.replicate_succ, asBools, ih]
  simp [dAll, this]
theorem eqv_bool (b : Bool) : dEq (.bool b) (.bool b) = some (.bool true) := by cases b <;> rfl
theorem eqv_int (i : Int) : dEq (.int i) (.int i) = some (.bool true) := by simp [dEq, SeqAt.shaped, PyData.canLay0, PyData.depth, PyData.eqv]
theorem eqv_none : dEq .none .none = some (.bool true) := by rfl
theorem cutD_map (ns : List Int) (lo hi : Option Int) : cutD (ns.map .int) lo hi = ((ns.drop (HT.sIx ns.length 0 lo)).take (HT.sIx ns.length ns.length hi - HT.sIx ns.length 0 lo)).map .int := by
  unfold SE.cutD
  rw [List.length_map, List.map_take, List.map_drop]
/-- a loop that never leaves -/
theorem loop_inv {T S B A : Type} {f : S → A → R (Fl T S S)} (P : Nat → S → Prop) : ∀ (xs : List A) (k : Nat) (s : S), (∀ j s x, j < k + xs.length → x ∈ xs → P j s → ∃ s', f s x = .ok (.nx s') ∧ P (j + 1) s') → P k s → ∃ s', loopR (B := B) f xs s = .ok (.nx s') ∧ P (k + xs.length) s'
  | [], k, s, _, h => ⟨s, rfl, h⟩
  | x :: xs, k, s, hf, h => by
    obtain ⟨s1, e1, h1⟩ := hf k s x (by simp) List.mem_cons_self h
    obtain ⟨s2, e2, h2⟩ := loop_inv P xs (k + 1) s1 (fun j s y hj hy => hf j s y (by simp only [List.length_cons]; omega) (List.mem_cons_of_mem _ hy)) h1
    refine ⟨s2, ?_, ?_⟩
    · simp only [loopR, e1, R.bind_ok]
      exact e2
    rw [List.length_cons, Nat.add_comm xs.length 1, ← Nat.add_assoc]
    exact h2
/-- one, other, delay, rounds within bounds -/
def RowOk (many : Int) (row : List Int) : Prop := ∃ a b d r : Int, row = [a, b, d, r] ∧ 0 ≤ a ∧ a < many ∧ 0 ≤ b ∧ b < many ∧ 0 ≤ d ∧ d ≤ 5 ∧ 0 ≤ r ∧ r ≤ 3
theorem pick6 {i : Int} (h0 : 0 ≤ i) (h1 : i < 6) (f : Int → PyData) : i = 0 ∨ i = 1 ∨ i = 2 ∨ i = 3 ∨ i = 4 ∨ i = 5 := by omega
theorem ix6 {i a0 a1 a2 a3 a4 a5 lo hi : Int} (h0 : 0 ≤ i) (h1 : i < 6) (hb : (lo ≤ a0 ∧ a0 ≤ hi) ∧ (lo ≤ a1 ∧ a1 ≤ hi) ∧ (lo ≤ a2 ∧ a2 ≤ hi) ∧ (lo ≤ a3 ∧ a3 ≤ hi) ∧ (lo ≤ a4 ∧ a4 ≤ hi) ∧ (lo ≤ a5 ∧ a5 ≤ hi)) :
    ∃ r, dIx (.tuple [.int a0, .int a1, .int a2, .int a3, .int a4, .int a5]) (.int i) = some (.int r) ∧ lo ≤ r ∧ r ≤ hi := by
  obtain ⟨h2, h3, h4, h5, h6, h7⟩ := hb
  have : i = 0 ∨ i = 1 ∨ i = 2 ∨ i = 3 ∨ i = 4 ∨ i = 5 := by omega
  rcases this with rfl | rfl | rfl | rfl | rfl | rfl
  · exact ⟨a0, rfl, h2⟩
  · exact ⟨a1, rfl, h3⟩
  · exact ⟨a2, rfl, h4⟩
  · exact ⟨a3, rfl, h5⟩
  · exact ⟨a4, rfl, h6⟩
  · exact ⟨a5, rfl, h7⟩
theorem asTups_rows : ∀ rows : List (List Int), asTups (rows.map tupI) = some rows
  | [] => rfl
  | r :: rows => by
    have e : ∀ ns : List Int, asInts (ns.map .int) = some ns := fun ns => by
      induction ns with
      | nil => rfl
      | cons n ns ih => simp [asInts, ih]
    simp [tupI, asTups, e, asTups_rows rows]
theorem sortset_ok {many : Int} {rows : List (List Int)} (h : ∀ r ∈ rows, RowOk many r) (hm : many < 1000) (hl : rows.length < 64) : dSortSet (.list (rows.map tupI)) = some ((sortDed rows).map tupI) := by
  have ok : tupsOk 4 rows = true := List.all_eq_true.mpr fun r hr => by
    obtain ⟨a, b, d, r', rfl, a0, a1, b0, b1, d0, d1, r0, r1⟩ := h r hr
    simp
    omega
  have : rows.length < 64 ∧ (∃ d ∈ List.range 16, 1 ≤ d ∧ tupsOk d rows = true) := ⟨hl, 4, by decide, by decide, ok⟩
  cases rows with
  | nil => rfl
  | cons r rows =>
    have e : asInts ((r :: rows).map tupI) = none := rfl
    simp only [dSortSet, itemsD, Option.bind_some, e, asTups_rows]
    rw [if_pos this]
theorem sortset_tup {many : Int} {rows : List (List Int)} (h : ∀ r ∈ rows, RowOk many r) (hm : many < 1000) (hl : rows.length < 64) : dSortSet (.tuple (rows.map tupI)) = some ((sortDed rows).map tupI) := sortset_ok h hm hl
theorem range1_ok {k : Int} (h0 : 0 ≤ k) (h1 : k < 1000) : dRange1 (.int k) = some (upFrom 0 k.toNat) := by
  have h : -(2 ^ 62) ≤ k ∧ k < 2 ^ 62 ∧ k.toNat ≤ sizeLine := ⟨by omega, by omega, Nat.le_trans (by omega : k.toNat ≤ 100000) (by decide)⟩
  simp only [dRange1]
  rw [if_pos h]
/-- an item of a list or a tuple -/
theorem ix_at {t d : PyData} {ds : List PyData} {i : Nat} (e : itemsD t = some ds) (h : ds[i]? = some d) : dIx t (.int (i : Nat)) = some d := by
  have hl : i < ds.length := (List.getElem?_eq_some_iff.mp h).1
  have a : atI ds (i : Int) = some d := by
    unfold atI ixN
    rw [if_pos (by omega), if_pos (by omega)]
    simpa using h
  cases t with
  | list es => cases e; simp only [dIx, a]
  | tuple es => cases e; simp only [dIx, a]
  | _ => cases e
theorem put_at {ds : List PyData} {i : Int} {d : PyData} (h0 : 0 ≤ i) (h1 : i < ds.length) : putD ds (.int i) d = some (ds.set i.toNat d) := by
  simp only [putD, ixN]
  rw [if_pos h0, if_pos h1]
end SE

set_option maxHeartbeats 4000000
/-! plain evaluation, by kinds -/
namespace SE
open PySem PySem.Spec PyProof.Rows L2 BF
theorem R.bq {α β : Type} {x : R α} {a : α} {f : α → R β} {r : R β} (h : x = .ok a) (h2 : f a = r) : x.bind f = r := by rw [h]; exact h2
theorem filtR_map {A P : Type} {dec : PyData → Option P} {t : P → R Bool} {f : P → R PyData} (enc : A → PyData) (pp : A → P) (b : A → Bool) (g : A → PyData) : ∀ xs : List A, (∀ x ∈ xs, dec (enc x) = some (pp x)) → (∀ x ∈ xs, t (pp x) = .ok (b x)) → (∀ x ∈ xs, b x = true → f (pp x) = .ok (g x)) →
    filtR (turnR dec t f) (xs.map enc) = .ok ((xs.filter b).map g)
  | [], _, _, _ => rfl
  | x :: xs, h1, h2, h3 => by
    have ih := filtR_map (dec := dec) (t := t) (f := f) enc pp b g xs (fun y hy => h1 y (List.mem_cons_of_mem _ hy)) (fun y hy => h2 y (List.mem_cons_of_mem _ hy)) (fun y hy => h3 y (List.mem_cons_of_mem _ hy))
    have e1 := h1 x List.mem_cons_self
    have e2 := h2 x List.mem_cons_self
    rw [List.map_cons, filtR_cons]
    cases hb : b x with
    | true =>
      have e3 := h3 x List.mem_cons_self hb
      rw [hb] at e2
      simp [turnR, e1, e2, e3, ih, List.filter_cons, hb]
    | false =>
      rw [hb] at e2
      simp [turnR, e1, e2, ih, List.filter_cons, hb]
theorem lcR_ok {A P : Type} {ri : R (List PyData)} {dec : PyData → Option P} {t : P → R Bool} {f : P → R PyData} (xs : List A) (enc : A → PyData) (pp : A → P) (b : A → Bool) (g : A → PyData) (h0 : ri = .ok (xs.map enc)) (h1 : ∀ x ∈ xs, dec (enc x) = some (pp x)) (h2 : ∀ x ∈ xs, t (pp x) = .ok (b x)) (h3 : ∀ x ∈ xs, b x = true → f (pp x) = .ok (g x)) :
    lcR ri dec t f = .ok ((xs.filter b).map g) := by
  unfold lcR
  rw [h0, R.bind_ok, filtR_map enc pp b g xs h1 h2 h3]
  rfl
/-- all of them -/
theorem lcR_map {A P : Type} {ri : R (List PyData)} {dec : PyData → Option P} {f : P → R PyData} (xs : List A) (enc : A → PyData) (pp : A → P) (g : A → PyData) (h0 : ri = .ok (xs.map enc)) (h1 : ∀ x ∈ xs, dec (enc x) = some (pp x)) (h3 : ∀ x ∈ xs, f (pp x) = .ok (g x)) :
    lcR ri dec (fun _ => R.ok true) f = .ok (xs.map g) := by
  rw [lcR_ok xs enc pp (fun _ => true) g h0 h1 (fun _ _ => rfl) fun x hx _ => h3 x hx]
  rw [List.filter_eq_self.mpr fun _ _ => rfl]
/-! ints -/
abbrev intsD (t : List Int) : List PyData := t.map .int
theorem dsum_ints (ns : List Int) : dSum [.list (ns.map .int)] = some (.int ns.sum) := by simp [dSum, itemsD]
theorem dsum_intsT (ns : List Int) : dSum [.tuple (ns.map .int)] = some (.int ns.sum) := by simp [dSum, itemsD]
theorem dmax_ints (n : Int) (ns : List Int) : dMax [.list ((n :: ns).map .int)] = some (.int (ns.foldl max n)) := by simp only [dMax, itemsD, Option.bind_some, asInts_map, maxI, Option.map]
theorem dmax_intsT (n : Int) (ns : List Int) : dMax [.tuple ((n :: ns).map .int)] = some (.int (ns.foldl max n)) := by simp only [dMax, itemsD, Option.bind_some, asInts_map, maxI, Option.map]
theorem dmax_two (i j : Int) : dMax [.int i, .int j] = some (.int (max i j)) := by
  simp only [dMax, Option.some.injEq, PyData.int.injEq]
  split <;> omega
theorem dmin_two (i j : Int) : dMin [.int i, .int j] = some (.int (min i j)) := by
  simp only [dMin, Option.some.injEq, PyData.int.injEq]
  split <;> omega
theorem all_bools (bs : List Bool) : dAll [.list (bs.map .bool)] = some (.bool (bs.all id)) := by simp [dAll]
theorem tuple_list (ds : List PyData) : dTuple [.list ds] = some (.tuple ds) := rfl
theorem tuple_tuple (ds : List PyData) : dTuple [.tuple ds] = some (.tuple ds) := rfl
theorem dlen_list (ds : List PyData) : dLen [.list ds] = some (.int ds.length) := rfl
theorem dlen_tuple (ds : List PyData) : dLen [.tuple ds] = some (.int ds.length) := rfl
theorem deq_int (i j : Int) : dEq (.int i) (.int j) = some (.bool (decide (i = j))) := by
  simp [dEq, SeqAt.shaped, PyData.canLay0, PyData.depth, PyData.eqv]
  by_cases h : i = j <;> simp [h]
theorem dne_int (i j : Int) : dNe (.int i) (.int j) = some (.bool (!decide (i = j))) := by
  simp [dNe, SeqAt.shaped, PyData.canLay0, PyData.depth, PyData.eqv]
  by_cases h : i = j <;> simp [h]
theorem range1_nat {k : Nat} (h : k ≤ 100000) : dRange1 (.int k) = some ((List.range k).map fun (i : Nat) => .int (i : Int)) := by
  have h : -(2 ^ 62) ≤ (k : Int) ∧ (k : Int) < 2 ^ 62 ∧ (k : Int).toNat ≤ sizeLine := ⟨by omega, by omega, Nat.le_trans (by omega : (k : Int).toNat ≤ 100000) (by decide)⟩
  simp only [dRange1]
  rw [if_pos h]
  simp [upFrom]
theorem range2_ok {i j : Int} (h1 : -100000 ≤ i) (h2 : j ≤ 100000) (h3 : i ≤ j) : dRange2 (.int i) (.int j) = some ((List.range (j - i).toNat).map fun (k : Nat) => .int (i + k)) := by
  have h : (-(2 ^ 62) ≤ i ∧ i < 2 ^ 62 ∧ -(2 ^ 62) ≤ j ∧ j < 2 ^ 62) ∧ (j - i).toNat ≤ sizeLine := ⟨⟨by omega, by omega, by omega, by omega⟩, Nat.le_trans (by omega : (j - i).toNat ≤ 200000) (by decide)⟩
  simp only [dRange2]
  rw [if_pos h]
  rfl
theorem rep_one (d : PyData) {k : Nat} (h : k ≤ 100000) : repD [d] (.int k) = some (List.replicate k d) := by
  have c : (-(2 ^ 63) ≤ (k : Int) ∧ (k : Int) < 2 ^ 63) ∧ [d].length * (k : Int).toNat ≤ sizeLine := ⟨by omega, Nat.le_trans (by simp; omega : [d].length * (k : Int).toNat ≤ 100000) (by decide)⟩
  simp only [repD]
  rw [if_pos c]
  simp
theorem app_lists {xs ys : List PyData} (h : xs.length + ys.length ≤ 100000) : dAdd (.list xs) (.list ys) = some (.list (xs ++ ys)) := if_pos (Nat.le_trans h (by decide))
theorem app_tuples {xs ys : List PyData} (h : xs.length + ys.length ≤ 100000) : dAdd (.tuple xs) (.tuple ys) = some (.tuple (xs ++ ys)) := if_pos (Nat.le_trans h (by decide))
theorem app_one {xs : List PyData} {d : PyData} (h : xs.length < 100000) : appD xs d = some (xs ++ [d]) := if_pos (Nat.lt_of_lt_of_le h (by decide))
theorem pairs_map {A : Type} (f g : A → PyData) : ∀ xs : List A, pairs (xs.map f) (xs.map g) = xs.map fun x => .tuple [f x, g x]
  | [] => rfl
  | x :: xs => by simp only [List.map_cons, pairs, pairs_map f g xs]
theorem pairs_zip {A B : Type} (f : A → PyData) (g : B → PyData) : ∀ (xs : List A) (ys : List B), pairs (xs.map f) (ys.map g) = (xs.zip ys).map fun x => .tuple [f x.1, g x.2]
  | [], _ => by simp [pairs]
  | _ :: _, [] => by simp [pairs]
  | x :: xs, y :: ys => by simp only [List.map_cons, pairs, List.zip_cons_cons, pairs_zip f g xs ys]
theorem zip_ok {x y : PyData} {xs ys : List PyData} (h1 : itemsD x = some xs) (h2 : itemsD y = some ys) (h : min xs.length ys.length ≤ 100000) : dZipL [x, y] = some (pairs xs ys) := by
  have hp : (pairs xs ys).length ≤ sizeLine := by rw [pairs_len]; exact Nat.le_trans h (by decide)
  simp [dZipL, dZip, h1, h2, hp]
theorem at_nat {t : PyData} {ds : List PyData} {i : Nat} (e : itemsD t = some ds) (h : i < ds.length) : dIx t (.int (i : Nat)) = some ds[i] := ix_at e (by simp [h])
theorem at_zero {t d : PyData} {ds : List PyData} (e : itemsD t = some (d :: ds)) : dIx t (.int 0) = some d := ix_at (i := 0) e rfl
theorem at_one {t c d : PyData} {ds : List PyData} (e : itemsD t = some (c :: d :: ds)) : dIx t (.int 1) = some d := ix_at (i := 1) e rfl
theorem at_two {t b c d : PyData} {ds : List PyData} (e : itemsD t = some (b :: c :: d :: ds)) : dIx t (.int 2) = some d := ix_at (i := 2) e rfl
theorem at_three {t a b c d : PyData} {ds : List PyData} (e : itemsD t = some (a :: b :: c :: d :: ds)) : dIx t (.int 3) = some d := ix_at (i := 3) e rfl
theorem at_int {t : PyData} {ns : List Int} {i : Nat} (e : itemsD t = some (ns.map .int)) (h : i < ns.length) : dIx t (.int (i : Nat)) = some (.int (gt ns i)) := by
  rw [at_nat e (by rw [List.length_map]; exact h)]
  simp [gt, List.getD, h]
theorem put_nat {ds : List PyData} {i : Nat} {d : PyData} (h : i < ds.length) : putD ds (.int (i : Nat)) d = some (ds.set i d) := put_at (by omega) (by omega)
@[simp] theorem items_list (ds : List PyData) : itemsD (.list ds) = some ds := rfl
@[simp] theorem items_tuple (ds : List PyData) : itemsD (.tuple ds) = some ds := rfl
/-- seqR over given answers -/
theorem seqR_oks : ∀ ds : List PyData, seqR (ds.map .ok) = .ok ds
  | [] => rfl
  | d :: ds => by simp [seqR_oks ds]
theorem dec_pair {x y d : PyData} (h : itemsD d = some [x, y]) : (decTup (decCons (fun d => some d) (decOne (fun d => some d)))) d = some (x, y) := by simp [decTup, decCons, decOne, h]
theorem dec_quad {x y z u d : PyData} (h : itemsD d = some [x, y, z, u]) : (decTup (decCons (fun d => some d) (decCons (fun d => some d) (decCons (fun d => some d) (decOne (fun d => some d)))))) d = some (x, y, z, u) := by simp [decTup, decCons, decOne, h]
/-! needs, works, times -/
def Nd.D (e : Nd) : PyData := .tuple [.int (e.a : Nat), .int (e.b : Nat), .int e.d, .int e.r]
def Nd.row (e : Nd) : List Int := [(e.a : Nat), (e.b : Nat), e.d, e.r]
theorem tupI_row (e : Nd) : tupI (Nd.row e) = Nd.D e := rfl
def timD (t : List Int) : PyData := .tuple (t.map .int)
def wrkD (n : Nat) (es : List Nd) : PyData := .tuple [.int (n : Nat), .tuple (es.map Nd.D)]
def optD : Option Nd → PyData
  | none => .none
  | some e => Nd.D e
abbrev NdS (e : Nd) (d : PyData) : Prop := itemsD d = some [.int (e.a : Nat), .int (e.b : Nat), .int e.d, .int e.r]
theorem NdS.hard (e : Nd) : NdS e (Nd.D e) := rfl
/-- a work, of lists or tuples -/
def WkS (n : Nat) (es : List Nd) (s : PyData) : Prop := ∃ (x : PyData) (ps : List (Nd × PyData)), itemsD s = some [.int (n : Nat), x] ∧ itemsD x = some (ps.map (·.2)) ∧ es = ps.map (·.1) ∧ (∀ p ∈ ps, NdS p.1 p.2) ∧ hard s = wrkD n es ∧ dep s ≤ 3 ∧ noDict s = true
/-- times, a list or a tuple -/
abbrev TiS (t : List Int) (s : PyData) : Prop := itemsD s = some (t.map .int)
theorem TiS.hard (t : List Int) : TiS t (timD t) := rfl
theorem hard_tim {t : List Int} {s : PyData} (h : TiS t s) : SE.hard s = timD t := by
  have e : ∀ ns : List Int, hardL (ns.map .int) = ns.map .int := fun ns => by
    induction ns with
    | nil => rfl
    | cons n r ih => simp [hardL, SE.hard, ih]
  have h : itemsD s = some (t.map .int) := h
  cases s <;> simp_all [itemsD, SE.hard, timD]
theorem hardL_map {A : Type} (f : A → PyData) (h : ∀ x, SE.hard (f x) = f x) : ∀ xs : List A, hardL (xs.map f) = xs.map f
  | [] => rfl
  | x :: xs => by simp [hardL, h, hardL_map f h xs]
theorem Nd.hard_D (e : Nd) : SE.hard (Nd.D e) = Nd.D e := by simp [Nd.D, SE.hard, hardL]
theorem hard_wrk (n : Nat) (es : List Nd) : SE.hard (wrkD n es) = wrkD n es := by
  simp [wrkD, SE.hard, hardL, hardL_map _ Nd.hard_D]
theorem soft_items {d d' : PyData} {ds : List PyData} (s : Soft d d') (e : itemsD d = some ds) : ∃ ds', itemsD d' = some ds' ∧ SoftAll ds ds' := by
  cases s with
  | same _ h => rw [h] at e; cases e
  | seq h1 h2 h3 => rw [h1] at e; cases e; exact ⟨_, h2, h3⟩
theorem soft_int {i : Int} {d : PyData} (s : Soft (.int i) d) : d = .int i := by
  cases s with
  | same => rfl
  | seq h => cases h
theorem softs_int : ∀ {ns : List Int} {ds : List PyData}, SoftAll (ns.map .int) ds → ds = ns.map .int
  | [], _, h => by cases h; rfl
  | n :: ns, _, h => by
    cases h with
    | cons h1 h2 => rw [soft_int h1, softs_int h2]; rfl
theorem soft_need {e : Nd} {d : PyData} (s : Soft (Nd.D e) d) : NdS e d := by
  obtain ⟨ds, h1, h2⟩ := soft_items s (show itemsD (Nd.D e) = some ([(e.a : Int), (e.b : Int), e.d, e.r].map .int) from rfl)
  rw [softs_int h2] at h1
  exact h1
theorem softs_needs : ∀ {es : List Nd} {ds : List PyData}, SoftAll (es.map Nd.D) ds → ∃ ps : List (Nd × PyData), ds = ps.map (·.2) ∧ es = ps.map (·.1) ∧ ∀ p ∈ ps, NdS p.1 p.2
  | [], _, h => by cases h; exact ⟨[], rfl, rfl, fun _ z => nomatch z⟩
  | e :: es, _, h => by
    cases h with
    | cons h1 h2 =>
      obtain ⟨ps, e1, e2, e3⟩ := softs_needs h2
      refine ⟨(e, _) :: ps, by rw [List.map_cons, e1], by rw [List.map_cons, e2], fun p hp => ?_⟩
      rcases List.mem_cons.mp hp with rfl | hp
      · exact soft_need h1
      · exact e3 p hp
theorem dep_wrk (n : Nat) (es : List Nd) : dep (wrkD n es) ≤ 3 ∧ noDict (wrkD n es) = true := by
  have : depL (es.map Nd.D) ≤ 1 ∧ noDictL (es.map Nd.D) = true := by
    induction es with
    | nil => simp [depL, noDictL]
    | cons e es ih => simp [depL, noDictL, Nd.D, dep, noDict, ih]
  simp [wrkD, dep, depL, noDict, noDictL, this]
theorem WkS.of {n : Nat} {es : List Nd} {s : PyData} (h : Soft (wrkD n es) s) : WkS n es s := by
  obtain ⟨ds, h1, h2⟩ := soft_items h rfl
  cases h2 with
  | cons g1 g2 =>
    cases g2 with
    | cons g2 g3 =>
      cases g3 with
      | nil =>
        rw [soft_int g1] at h1
        obtain ⟨ds, h3, h4⟩ := soft_items g2 rfl
        obtain ⟨ps, h5, h6, h7⟩ := softs_needs h4
        rw [h5] at h3
        exact ⟨_, ps, h1, h3, h6, h7, by rw [Soft.hard h, hard_wrk], by rw [Soft.dep h]; exact (dep_wrk n es).1, by rw [Soft.noDict h]; exact (dep_wrk n es).2⟩
theorem WkS.hard (n : Nat) (es : List Nd) : WkS n es (wrkD n es) :=
  ⟨_, es.map fun e => (e, Nd.D e), rfl, by rw [List.map_map]; rfl, by rw [List.map_map]; exact (List.map_id _).symm, fun p hp => by
    obtain ⟨e, _, rfl⟩ := List.mem_map.mp hp
    rfl, hard_wrk n es, (dep_wrk n es).1, (dep_wrk n es).2⟩
theorem TiS.of {t : List Int} {s : PyData} (h : Soft (timD t) s) : TiS t s := by
  obtain ⟨ds, h1, h2⟩ := soft_items h rfl
  rw [softs_int h2] at h1
  exact h1
theorem all_of (A : Type) (xs : List A) (p : A → Bool) : dAll [.list (xs.map fun x => .bool (p x))] = some (.bool (xs.all p)) := by
  have : (xs.map fun x => PyData.bool (p x)) = (xs.map p).map .bool := by rw [List.map_map]; rfl
  rw [this, all_bools]
  simp [List.all_map]
end SE

set_option maxHeartbeats 4000000
/-! plain words: lives, loops -/
namespace SE
open PySem PySem.Spec PyProof.Rows L2 BF
def gapOf (beat : Int) (t : List Int) (e : Nd) : Int := gt t e.b + e.r * beat - gt t e.a
def lifeOf (es : List Nd) (beat : Int) (t : List Int) (v : Nat) : Int := ((es.filter fun e => decide (((e.a : Nat) : Int) = ((v : Nat) : Int))).map (gapOf beat t)).foldl max 1
def livesOf (n : Nat) (es : List Nd) (beat : Int) (t : List Int) : List Int := (List.range n).map (lifeOf es beat t)
theorem livesOf_len (n : Nat) (es : List Nd) (beat : Int) (t : List Int) : (livesOf n es beat t).length = n := by simp [livesOf]
/-- a loop's datum -/
def valD (p : Int × Int) : PyData := .tuple [.int p.1, .int p.2]
def loopD (beat : Int) (vs : List (Int × Int)) : PyData := .tuple [.int beat, .tuple (vs.map valD)]
def loopOf (n : Nat) (es : List Nd) (beat : Int) (t : List Int) : List (Int × Int) := (t.zip (livesOf n es beat t)).map fun p => (p.1.fmod beat, p.2)
/-- how many copies live at a tick, by each value -/
def roundsB (a b beat : Int) : Int := max 0 (b.fdiv beat - (a - 1).fdiv beat)
def loadOf (beat : Int) (vs : List (Int × Int)) (tick : Int) : Int := (vs.map fun p => roundsB (tick - p.1 - p.2 + 1) (tick - p.1) beat).sum
def loadsOf (beat : Int) (vs : List (Int × Int)) : List Int := (List.range beat.toNat).map fun (k : Nat) => loadOf beat vs (k : Nat)
end SE

set_option maxHeartbeats 4000000
/-! equalities of data, loops that never leave, paths -/
namespace SE
open PySem PySem.Spec PyProof.Rows L2 BF
/-- no text, no dict, no deeper than k -/
structure Shp (k : Nat) (d : PyData) : Prop where
  can : d.canLay0 = true
  dep : d.depth ≤ k
theorem Shp.int (k : Nat) (i : Int) : Shp k (.int i) := ⟨rfl, by simp [PyData.depth]⟩
theorem Shp.bool (k : Nat) (i : Bool) : Shp k (.bool i) := ⟨rfl, by simp [PyData.depth]⟩
theorem Shp.none (k : Nat) : Shp k .none := ⟨rfl, by simp [PyData.depth]⟩
theorem shp_all {k : Nat} : ∀ {ds : List PyData}, (∀ d ∈ ds, Shp k d) → PyData.canLayAll0 ds = true ∧ PyData.depthAll ds ≤ k
  | [], _ => ⟨rfl, by simp [PyData.depthAll]⟩
  | d :: ds, h => by
    have a := h d List.mem_cons_self
    have b := shp_all fun x hx => h x (List.mem_cons_of_mem _ hx)
    refine ⟨by simp [PyData.canLayAll0, a.can, b.1], ?_⟩
    have := a.dep
    simp only [PyData.depthAll]
    omega
theorem Shp.tuple {k : Nat} {ds : List PyData} (h : ∀ d ∈ ds, Shp k d) : Shp (k + 1) (.tuple ds) := by
  have := shp_all h
  exact ⟨by unfold PyData.canLay0; exact this.1, by simp only [PyData.depth]; omega⟩
theorem Shp.list {k : Nat} {ds : List PyData} (h : ∀ d ∈ ds, Shp k d) : Shp (k + 1) (.list ds) := by
  have := shp_all h
  exact ⟨by unfold PyData.canLay0; exact this.1, by simp only [PyData.depth]; omega⟩
theorem Shp.tupM {A : Type} {k : Nat} {f : A → PyData} {xs : List A} (h : ∀ x ∈ xs, Shp k (f x)) : Shp (k + 1) (.tuple (xs.map f)) := Shp.tuple fun d hd => by
  obtain ⟨x, hx, rfl⟩ := List.mem_map.mp hd
  exact h x hx
theorem Shp.lstM {A : Type} {k : Nat} {f : A → PyData} {xs : List A} (h : ∀ x ∈ xs, Shp k (f x)) : Shp (k + 1) (.list (xs.map f)) := Shp.list fun d hd => by
  obtain ⟨x, hx, rfl⟩ := List.mem_map.mp hd
  exact h x hx
theorem Shp.mono {k l : Nat} {d : PyData} (h : Shp k d) (e : k ≤ l) : Shp l d := ⟨h.can, Nat.le_trans h.dep e⟩
theorem Shp.shaped {k : Nat} {d : PyData} (h : Shp k d) (hk : k ≤ 64) : SeqAt.shaped d = true := by
  have := h.dep
  simp [SeqAt.shaped, h.can]
  omega
theorem dEq_shp {k l : Nat} {d e : PyData} (h : Shp k d) (h' : Shp l e) (hk : k ≤ 64) (hl : l ≤ 64) : dEq d e = some (.bool (PyData.eqv d e)) := if_pos ⟨h.shaped hk, h'.shaped hl⟩
theorem dNe_shp {k l : Nat} {d e : PyData} (h : Shp k d) (h' : Shp l e) (hk : k ≤ 64) (hl : l ≤ 64) : dNe d e = some (.bool (!PyData.eqv d e)) := if_pos ⟨h.shaped hk, h'.shaped hl⟩
theorem dEq_self {k : Nat} {d : PyData} (h : Shp k d) (hk : k ≤ 64) : dEq d d = some (.bool true) := by rw [dEq_shp h h hk hk, SeqAt.eqv_refl d h.can]
theorem dNe_self {k : Nat} {d : PyData} (h : Shp k d) (hk : k ≤ 64) : dNe d d = some (.bool false) := by rw [dNe_shp h h hk hk, SeqAt.eqv_refl d h.can]; rfl
theorem Shp.tim (t : List Int) : Shp 1 (timD t) := Shp.tupM fun i _ => Shp.int 0 i
theorem Shp.need (e : Nd) : Shp 1 (Nd.D e) := Shp.tuple (k := 0) fun d hd => by
  simp at hd
  rcases hd with rfl | rfl | rfl | rfl <;> exact Shp.int _ _
theorem Shp.val (p : Int × Int) : Shp 1 (valD p) := Shp.tuple (k := 0) fun d hd => by
  simp at hd
  rcases hd with rfl | rfl <;> exact Shp.int _ _
theorem Shp.loop (beat : Int) (vs : List (Int × Int)) : Shp 3 (loopD beat vs) := Shp.tuple (k := 2) fun d hd => by
  simp at hd
  rcases hd with rfl | rfl
  · exact Shp.int _ _
  · exact Shp.tupM fun p _ => Shp.val p
theorem eqv_ii (i j : Int) : PyData.eqv (.int i) (.int j) = decide (i = j) := by simp [PyData.eqv]; by_cases h : i = j <;> simp [h]
theorem eqvAll_map {A : Type} [DecidableEq A] {f : A → PyData} (h : ∀ x y, PyData.eqv (f x) (f y) = decide (x = y)) : ∀ xs ys : List A, PyData.eqvAll (xs.map f) (ys.map f) = decide (xs = ys)
  | [], [] => by simp [PyData.eqvAll]
  | [], _ :: _ => by simp [PyData.eqvAll]
  | _ :: _, [] => by simp [PyData.eqvAll]
  | x :: xs, y :: ys => by
    rw [List.map_cons, List.map_cons, PyData.eqvAll, h, eqvAll_map h xs ys]
    by_cases h1 : x = y <;> by_cases h2 : xs = ys <;> simp [h1, h2]
theorem eqv_tupM {A : Type} [DecidableEq A] {f : A → PyData} (h : ∀ x y, PyData.eqv (f x) (f y) = decide (x = y)) (xs ys : List A) : PyData.eqv (.tuple (xs.map f)) (.tuple (ys.map f)) = decide (xs = ys) := by
  rw [PyData.eqv, eqvAll_map h]
theorem eqv_need (e f : Nd) : PyData.eqv (Nd.D e) (Nd.D f) = decide (e = f) := by
  obtain ⟨a, b, d, r⟩ := e
  obtain ⟨a', b', d', r'⟩ := f
  simp only [Nd.D, PyData.eqv, PyData.eqvAll, Bool.and_true, Nd.mk.injEq]
  by_cases h1 : a = a' <;> by_cases h2 : b = b' <;> by_cases h3 : d = d' <;> by_cases h4 : r = r' <;> simp [h1, h2, h3, h4, Int.natCast_inj]
theorem any_int (i : Int) : ∀ ns : List Int, ((ns.map PyData.int).any fun z => PyData.eqv z (.int i)) = decide (i ∈ ns)
  | [] => rfl
  | n :: ns => by
    rw [List.map_cons, List.any_cons, any_int i ns, eqv_ii]
    by_cases h : n = i
    · simp [h]
    · have h' : ¬ i = n := fun z => h z.symm
      simp [h, h']
theorem notIn_ints (i : Int) (ns : List Int) : dNotIn (.int i) (.list (ns.map .int)) = some (.bool (!decide (i ∈ ns))) := by
  have h1 := (Shp.int 0 i).shaped (by omega)
  have h2 := (Shp.lstM (k := 0) (f := PyData.int) (xs := ns) fun x _ => Shp.int 0 x).shaped (by omega)
  simp only [dNotIn, h1, h2, and_self, if_true, any_int]
theorem in_tupM {A : Type} [DecidableEq A] {f : A → PyData} {k : Nat} (hk : k + 1 ≤ 64) (h : ∀ x y, PyData.eqv (f x) (f y) = decide (x = y)) (hs : ∀ x, Shp k (f x)) (x : A) (xs : List A) : dIn (f x) (.tuple (xs.map f)) = some (.bool (decide (x ∈ xs))) := by
  have h1 := (hs x).shaped (by omega)
  have h2 := (Shp.tupM (f := f) (xs := xs) fun x _ => hs x).shaped hk
  have : ∀ xs : List A, ((xs.map f).any fun z => PyData.eqv z (f x)) = decide (x ∈ xs) := fun xs => by
    induction xs with
    | nil => rfl
    | cons y ys ih =>
      rw [List.map_cons, List.any_cons, ih, h]
      by_cases e : y = x
      · simp [e]
      · have e' : ¬ x = y := fun z => e z.symm
        simp [e, e']
  simp only [dIn, h1, h2, and_self, if_true, this]
/-! loops that never leave -/
theorem loop_fold {σ A S T B : Type} {f : S → PyData → R (Fl T S S)} (encS : σ → S) (enc : A → PyData) (step : σ → A → σ) (I : Nat → σ → Prop) : ∀ (xs : List A) (k : Nat) (s : σ), I k s → (∀ j s x, x ∈ xs → k ≤ j → j < k + xs.length → I j s → f (encS s) (enc x) = .ok (.nx (encS (step s x))) ∧ I (j + 1) (step s x)) →
    loopR (B := B) f (xs.map enc) (encS s) = .ok (.nx (encS (xs.foldl step s))) ∧ I (k + xs.length) (xs.foldl step s)
  | [], k, s, h, _ => ⟨rfl, h⟩
  | x :: xs, k, s, h, hf => by
    obtain ⟨e1, h1⟩ := hf k s x List.mem_cons_self (Nat.le_refl _) (by simp) h
    obtain ⟨e2, h2⟩ := loop_fold (B := B) encS enc step I xs (k + 1) (step s x) h1 fun j s y hy hk hj hi => hf j s y (List.mem_cons_of_mem _ hy) (by omega) (by simp only [List.length_cons]; omega) hi
    refine ⟨?_, ?_⟩
    · simp only [List.map_cons, loopR, e1, R.bind_ok]
      exact e2
    · rw [List.length_cons, Nat.add_comm xs.length 1, ← Nat.add_assoc]
      exact h2
/-- item by item put behind a list -/
theorem loop_app {A T B : Type} {f : List PyData → PyData → R (Fl T (List PyData) (List PyData))} (enc g : A → PyData) (m : Nat) : ∀ (xs : List A) (ds : List PyData), (∀ x ∈ xs, ∀ ds : List PyData, ds.length < m → f ds (enc x) = .ok (.nx (ds ++ [g x]))) → ds.length + xs.length ≤ m → loopR (B := B) f (xs.map enc) ds = .ok (.nx (ds ++ xs.map g))
  | [], ds, _, _ => by simp [loopR]
  | x :: xs, ds, hf, hl => by
    simp only [List.length_cons] at hl
    have e1 := hf x List.mem_cons_self ds (by omega)
    have e2 := loop_app (B := B) enc g m xs (ds ++ [g x]) (fun y hy => hf y (List.mem_cons_of_mem _ hy)) (by simp; omega)
    simp only [List.map_cons, loopR, e1, R.bind_ok, e2, List.append_assoc, List.singleton_append]
theorem at_last {t d : PyData} {ds : List PyData} (e : itemsD t = some (ds ++ [d])) : dIx t (.int (-1)) = some d := by
  have a : atI (ds ++ [d]) (-1) = some d := by
    unfold atI ixN
    rw [if_neg (by omega), if_pos (by simp; omega)]
    have e : ∀ m : Int, m = ((ds.length : Nat) : Int) → (ds ++ [d])[m.toNat]? = some d := fun m h => by rw [h]; simp
    exact e _ (by simp; omega)
  cases t with
  | list es => cases e; simp only [dIx, a]
  | tuple es => cases e; simp only [dIx, a]
  | _ => cases e
/-! how many ways -/
theorem ext_len (es : List Nd) (p : List Nd) : (ext es p).length ≤ es.length := by
  rw [ext, List.length_map]
  exact List.length_filter_le _ _
theorem flat_len {A B : Type} {f : A → List B} {m : Nat} (h : ∀ x, (f x).length ≤ m) : ∀ xs : List A, (xs.flatMap f).length ≤ xs.length * m
  | [] => by simp
  | x :: xs => by
    have := h x
    have ih := flat_len h xs
    rw [List.flatMap_cons, List.length_append, List.length_cons, Nat.succ_mul]
    omega
theorem longer_len (es : List Nd) (line : List (List Nd)) : (longer es line).length ≤ line.length * es.length := by
  refine Nat.le_trans (flat_len (ext_len es) _) (Nat.mul_le_mul_right _ (List.length_filter_le _ _))
theorem line_len {es : List Nd} {L : Nat} (h : es.length ≤ L) : ∀ k, (lineAt es k).length ≤ L ^ (k + 1)
  | 0 => by simp [lineAt]; exact h
  | k + 1 => by
    rw [lineAt, Nat.pow_succ]
    exact Nat.le_trans (longer_len es _) (Nat.mul_le_mul (line_len h k) h)
def ringD (p : List Nd) : PyData := .tuple (p.map Nd.D)
/-! which rings bar a beat -/
def wb (beat : Int) (e : Nd) : Int := e.d - e.r * beat
def posR (beat : Int) (p : List Nd) : Bool := decide ((p.map (·.r)).sum * beat < (p.map (·.d)).sum)
theorem wt_wb (beat : Int) (p : List Nd) : wt (wb beat) p = (p.map (·.d)).sum - (p.map (·.r)).sum * beat := by
  induction p with
  | nil => simp
  | cons e p ih =>
    rw [wt_cons, ih]
    simp only [wb, List.map_cons, List.sum_cons, Int.add_mul]
    omega
theorem posR_iff {beat : Int} {p : List Nd} : posR beat p = true ↔ 0 < wt (wb beat) p := by
  rw [posR, decide_eq_true_eq, wt_wb]; omega
def timesOf (beat : Int) (n : Nat) (es : List Nd) : Option (List Int) := (laps (wb beat) es (n + 1) (start0 n)).1
def timO : Option (List Int) → PyData
  | some t => timD t
  | none => .none
def rev (e : Nd) : Nd := ⟨e.b, e.a, e.d, e.r⟩
def earliestOf (beat : Int) (n : Nat) (es : List Nd) : Option (List Int) := if (ringsOf n es).any (posR beat) = true then none else some (after (wb beat) es (start0 n) n).1
/-- the law's own earliest numbers are the program's -/
theorem earliest_eq {beat : Int} {n : Nat} {es : List Nd} (he : ∀ e ∈ es, EOk n e) : earliestOf beat n es = timesOf beat n es := by
  unfold earliestOf
  split
  · rename_i h
    obtain ⟨p, hp, pos⟩ := List.any_eq_true.mp h
    exact ((rest_iff he (Nat.le_succ n) (Nat.le_add_left 1 n)).mpr ⟨p, hp, posR_iff.mp pos⟩).symm
  · rename_i h
    cases e : timesOf beat n es with
    | none =>
      obtain ⟨p, hp, pos⟩ := (rest_iff he (Nat.le_succ n) (Nat.le_add_left 1 n)).mp e
      exact absurd (List.any_eq_true.mpr ⟨p, hp, posR_iff.mpr pos⟩) h
    | some t =>
      obtain ⟨j, h1, h2, h3, h4⟩ := laps_some e
      rw [after_still h4 n (by omega), h2]
end SE

set_option maxHeartbeats 4000000
/-! plain: turns counted, loads summed, lives -/
namespace SE
open PySem PySem.Spec PyProof.Rows L2 BF
/-- a drawn need -/
structure NdOk (n : Nat) (e : Nd) : Prop where
  ok : EOk n e
  d0 : 0 ≤ e.d
  d5 : e.d ≤ 5
  r0 : 0 ≤ e.r
  r3 : e.r ≤ 3
theorem NdOk.row {n : Nat} {e : Nd} (h : NdOk n e) : RowOk (n : Nat) (Nd.row e) := by
  have := h.ok
  exact ⟨_, _, _, _, rfl, by omega, by omega, by omega, by omega, h.d0, h.d5, h.r0, h.r3⟩
theorem rows_needs {many : Int} : ∀ {rows : List (List Int)}, (∀ r ∈ rows, RowOk many r) → ∃ es : List Nd, rows = es.map Nd.row ∧ ∀ e ∈ es, NdOk many.toNat e
  | [], _ => ⟨[], rfl, fun _ h => nomatch h⟩
  | r :: rows, h => by
    obtain ⟨a, b, d, q, rfl, h1, h2, h3, h4, h5, h6, h7, h8⟩ := h r List.mem_cons_self
    obtain ⟨es, rfl, he⟩ := rows_needs fun x hx => h x (List.mem_cons_of_mem _ hx)
    refine ⟨⟨a.toNat, b.toNat, d, q⟩ :: es, ?_, fun e m => ?_⟩
    · rw [List.map_cons, Nd.row, show ((a.toNat : Nat) : Int) = a by omega, show ((b.toNat : Nat) : Int) = b by omega]
    · rcases List.mem_cons.mp m with rfl | m
      · exact ⟨⟨by simp only; omega, by simp only; omega⟩, h5, h6, h7, h8⟩
      · exact he e m
theorem row_inj {e f : Nd} (h : Nd.row e = Nd.row f) : e = f := by
  obtain ⟨a, b, d, r⟩ := e
  obtain ⟨a', b', d', r'⟩ := f
  simp only [Nd.row, List.cons.injEq, and_true] at h
  obtain ⟨h1, h2, h3, h4⟩ := h
  have h1 : a = a' := by omega
  have h2 : b = b' := by omega
  subst h1; subst h2; subst h3; subst h4; rfl
theorem mem_row {e : Nd} {es : List Nd} : Nd.row e ∈ es.map Nd.row ↔ e ∈ es := by
  rw [List.mem_map]
  constructor
  · rintro ⟨f, hf, h⟩
    rw [← row_inj h]; exact hf
  · exact fun h => ⟨e, h, rfl⟩
theorem sortDed_len : ∀ l : List (List Int), (sortDed l).length ≤ l.length := fun l => by
  have ins : ∀ (x : List Int) (t : List (List Int)), (insD x t).length ≤ t.length + 1 := fun x t => by
    induction t with
    | nil => simp [insD]
    | cons y t ih =>
      unfold insD
      split
      · simp
      · split
        · simp
        · simp only [List.length_cons]; omega
  induction l with
  | nil => simp [sortDed]
  | cons x t ih =>
    have := ins x (sortDed t)
    simp only [sortDed, List.length_cons]
    omega
/-- sorted(set(..)) of needs -/
theorem sorted_needs {n : Nat} {es : List Nd} (h : ∀ e ∈ es, NdOk n e) (hn : n < 1000) (hl : es.length < 64) : ∃ es' : List Nd, dSortSet (.tuple (es.map Nd.D)) = some (es'.map Nd.D) ∧ dSortSet (.list (es.map Nd.D)) = some (es'.map Nd.D) ∧ (∀ e, e ∈ es ↔ e ∈ es') ∧ Lx (es'.map Nd.row) ∧ es'.length ≤ es.length := by
  have hr : ∀ r ∈ es.map Nd.row, RowOk (n : Nat) r := fun r hr => by
    obtain ⟨e, he, rfl⟩ := List.mem_map.mp hr
    exact (h e he).row
  have hs : ∀ r ∈ sortDed (es.map Nd.row), RowOk (n : Nat) r := fun r m => hr r (mem_sortDed.mp m)
  obtain ⟨es', e1, e2⟩ := rows_needs hs
  have m1 : ∀ l : List Nd, l.map Nd.D = (l.map Nd.row).map tupI := fun l => by rw [List.map_map]; rfl
  have s1 := sortset_ok hr (by omega) (by rw [List.length_map]; exact hl)
  have s2 := sortset_tup hr (by omega) (by rw [List.length_map]; exact hl)
  rw [e1, ← m1, ← m1] at s1 s2
  refine ⟨es', s2, s1, fun e => ?_, by rw [← e1]; exact lx_sortDed _, by have := sortDed_len (es.map Nd.row); rw [e1] at this; simpa using this⟩
  rw [← mem_row (es := es'), ← e1, mem_sortDed, mem_row]
theorem count_between (lo hi : Int) : ∀ m : Nat, ((((List.range m).filter fun (k : Nat) => decide (lo ≤ (k : Int)) && decide ((k : Int) ≤ hi)).length : Nat) : Int) = max 0 (min hi ((m : Int) - 1) - max lo 0 + 1)
  | 0 => by simp; omega
  | m + 1 => by
    have ih := count_between lo hi m
    rw [List.range_succ, List.filter_append, List.length_append, Int.natCast_add, ih]
    by_cases h1 : lo ≤ (m : Int) <;> by_cases h2 : (m : Int) ≤ hi <;> simp [h1, h2, List.filter_cons] <;> omega
/-- the turns of a value that live at a tick, counted -/
theorem turns_count {time long tick beat : Int} (hb : 1 ≤ beat) (h1 : -61 * beat ≤ tick - time - long) (h2 : tick - time < 60 * beat) :
    ((((List.range 120).filter fun (k : Nat) => decide (time + (-60 + (k : Int)) * beat ≤ tick) && decide (tick < time + (-60 + (k : Int)) * beat + long)).length : Nat) : Int) = roundsB (tick - time - long + 1) (tick - time) beat := by
  have fe : (fun (k : Nat) => decide (time + (-60 + (k : Int)) * beat ≤ tick) && decide (tick < time + (-60 + (k : Int)) * beat + long)) = fun (k : Nat) => decide (60 + (tick - time - long) / beat + 1 ≤ (k : Int)) && decide ((k : Int) ≤ 60 + (tick - time) / beat) := by
    funext k
    have e1 : (time + (-60 + (k : Int)) * beat ≤ tick) ↔ (k : Int) ≤ 60 + (tick - time) / beat := by
      have := Int.le_ediv_iff_mul_le (a := -60 + (k : Int)) (b := tick - time) (c := beat) (by omega)
      constructor
      · intro h
        have := this.mpr (by omega)
        omega
      · intro h
        have := this.mp (by omega)
        omega
    have e2 : (tick < time + (-60 + (k : Int)) * beat + long) ↔ 60 + (tick - time - long) / beat + 1 ≤ (k : Int) := by
      have := Int.ediv_lt_iff_lt_mul (a := tick - time - long) (b := -60 + (k : Int)) (c := beat) (by omega)
      constructor
      · intro h
        have := this.mpr (by omega)
        omega
      · intro h
        have := this.mp (by omega)
        omega
    rw [decide_eq_decide.mpr e1, decide_eq_decide.mpr e2, Bool.and_comm]
  rw [fe, count_between]
  have b1 := (Int.le_ediv_iff_mul_le (a := -61) (b := tick - time - long) (c := beat) (by omega)).mpr h1
  have b2 := (Int.ediv_lt_iff_lt_mul (a := tick - time) (b := 60) (c := beat) (by omega)).mpr h2
  unfold roundsB
  rw [Int.fdiv_eq_ediv_of_nonneg _ (by omega), Int.fdiv_eq_ediv_of_nonneg _ (by omega), show tick - time - long + 1 - 1 = tick - time - long by omega]
  omega
/-! the loads come to the sum of the lives -/
def upSum (f : Int → Int) (m : Nat) : Int := ((List.range m).map fun (k : Nat) => f (k : Int)).sum
theorem upSum_succ (f : Int → Int) (m : Nat) : upSum f (m + 1) = upSum f m + f m := by
  rw [upSum, List.range_succ, List.map_append, List.sum_append]
  simp [upSum]
theorem upSum_shift (f : Int → Int) (x : Int) : ∀ m : Nat, upSum (fun k => f (x + 1 + k)) m = upSum (fun k => f (x + k)) m + f (x + m) - f x
  | 0 => by simp [upSum]
  | m + 1 => by
    rw [upSum_succ, upSum_succ, upSum_shift f x m, show x + 1 + (m : Int) = x + ((m + 1 : Nat) : Int) by rw [Int.natCast_add]; omega]
    omega
theorem hermite_step {m : Nat} (hm : 1 ≤ m) (x : Int) : upSum (fun k => (x + 1 + k) / (m : Int)) m = upSum (fun k => (x + k) / (m : Int)) m + 1 := by
  rw [upSum_shift (fun y => y / (m : Int)) x m]
  have : (x + (m : Int)) / (m : Int) = x / (m : Int) + 1 := by
    have := Int.add_mul_ediv_right x 1 (show (m : Int) ≠ 0 by omega)
    rwa [Int.one_mul] at this
  omega
theorem hermite_zero {m : Nat} : upSum (fun k => (0 + k) / (m : Int)) m = 0 := by
  have : ∀ j : Nat, j ≤ m → upSum (fun k => (0 + k) / (m : Int)) j = 0 := fun j => by
    induction j with
    | zero => intro _; simp [upSum]
    | succ j ih =>
      intro h
      rw [upSum_succ, ih (by omega), Int.ediv_eq_zero_of_lt (by omega) (by omega)]
      rfl
  exact this m (Nat.le_refl _)
theorem hermite {m : Nat} (hm : 1 ≤ m) (x : Int) : upSum (fun k => (x + k) / (m : Int)) m = x := by
  have up : ∀ j : Nat, upSum (fun k => ((j : Int) + k) / (m : Int)) m = j := fun j => by
    induction j with
    | zero => exact hermite_zero
    | succ j ih =>
      have := hermite_step hm (j : Int)
      rw [ih] at this
      rw [Int.natCast_add]
      exact this
  have dn : ∀ j : Nat, upSum (fun k => (-(j : Int) + k) / (m : Int)) m = -j := fun j => by
    induction j with
    | zero => have := up 0; simpa using this
    | succ j ih =>
      have := hermite_step hm (-((j + 1 : Nat) : Int))
      rw [show -((j + 1 : Nat) : Int) + 1 = -(j : Int) by omega, ih] at this
      omega
  by_cases h : 0 ≤ x
  · have := up x.toNat
    rwa [show ((x.toNat : Nat) : Int) = x by omega] at this
  · have := dn (-x).toNat
    rwa [show -(((-x).toNat : Nat) : Int) = x by omega] at this
theorem upSum_sub (f g : Int → Int) : ∀ m : Nat, upSum (fun k => f k - g k) m = upSum f m - upSum g m
  | 0 => by simp [upSum]
  | m + 1 => by rw [upSum_succ, upSum_succ, upSum_succ, upSum_sub f g m]; omega
theorem upSum_add (f g : Int → Int) : ∀ m : Nat, upSum (fun k => f k + g k) m = upSum f m + upSum g m
  | 0 => by simp [upSum]
  | m + 1 => by rw [upSum_succ, upSum_succ, upSum_succ, upSum_add f g m]; omega
theorem load_one {m : Nat} (hm : 1 ≤ m) (p : Int × Int) (h : 0 ≤ p.2) : upSum (fun k => roundsB (k - p.1 - p.2 + 1) (k - p.1) m) m = p.2 := by
  have e : (fun k => roundsB (k - p.1 - p.2 + 1) (k - p.1) m) = fun k => (-p.1 + k) / (m : Int) - (-p.1 - p.2 + k) / (m : Int) := by
    funext k
    unfold roundsB
    rw [Int.fdiv_eq_ediv_of_nonneg _ (by omega), Int.fdiv_eq_ediv_of_nonneg _ (by omega), show k - p.1 - p.2 + 1 - 1 = -p.1 - p.2 + k by omega, show k - p.1 = -p.1 + k by omega]
    have := Int.ediv_le_ediv (a := -p.1 - p.2 + k) (b := -p.1 + k) (c := (m : Int)) (by omega) (by omega)
    omega
  rw [e, upSum_sub (fun k => (-p.1 + k) / (m : Int)) (fun k => (-p.1 - p.2 + k) / (m : Int)), hermite hm, hermite hm]
  omega
theorem loads_sum {beat : Int} (hb : 1 ≤ beat) (vs : List (Int × Int)) (h : ∀ p ∈ vs, 0 ≤ p.2) : (loadsOf beat vs).sum = (vs.map (·.2)).sum := by
  have e : beat = ((beat.toNat : Nat) : Int) := by omega
  have hm : 1 ≤ beat.toNat := by omega
  generalize beat.toNat = m at e hm
  subst e
  show upSum (fun k => loadOf (m : Int) vs k) ((m : Int)).toNat = _
  rw [Int.toNat_natCast]
  induction vs with
  | nil =>
    have : (fun k => loadOf (m : Int) [] k) = fun _ => 0 := by funext k; rfl
    rw [this]
    have z : ∀ j : Nat, upSum (fun _ => 0) j = 0 := fun j => by
      induction j with
      | zero => rfl
      | succ j ih => rw [upSum_succ, ih]; rfl
    exact z m
  | cons p vs ih =>
    have : (fun k => loadOf (m : Int) (p :: vs) k) = fun k => roundsB (k - p.1 - p.2 + 1) (k - p.1) m + loadOf (m : Int) vs k := by
      funext k
      simp [loadOf]
    rw [this, upSum_add (fun k => roundsB (k - p.1 - p.2 + 1) (k - p.1) m) (fun k => loadOf (m : Int) vs k), load_one hm p (h p List.mem_cons_self), ih fun q hq => h q (List.mem_cons_of_mem _ hq)]
    simp
/-! greatest ones -/
theorem fmax_ge : ∀ (l : List Int) (i : Int), i ≤ l.foldl max i ∧ ∀ x ∈ l, x ≤ l.foldl max i
  | [], i => ⟨Int.le_refl _, fun _ h => nomatch h⟩
  | y :: l, i => by
    obtain ⟨h1, h2⟩ := fmax_ge l (max i y)
    rw [List.foldl_cons]
    refine ⟨by omega, fun x hx => ?_⟩
    rcases List.mem_cons.mp hx with rfl | hx
    · omega
    · exact h2 x hx
theorem fmax_mem : ∀ (l : List Int) (i : Int), l.foldl max i = i ∨ l.foldl max i ∈ l
  | [], i => .inl rfl
  | y :: l, i => by
    rw [List.foldl_cons]
    rcases fmax_mem l (max i y) with h | h
    · by_cases c : i ≤ y
      · exact .inr (by rw [h, show max i y = y by omega]; exact List.mem_cons_self)
      · exact .inl (by rw [h]; omega)
    · exact .inr (List.mem_cons_of_mem _ h)
theorem fmax_le {l : List Int} {i m : Int} (h1 : i ≤ m) (h2 : ∀ x ∈ l, x ≤ m) : l.foldl max i ≤ m := by
  rcases fmax_mem l i with h | h
  · rw [h]; exact h1
  · exact h2 _ h
theorem fmax_set {l l' : List Int} (h : ∀ x, x ∈ l ↔ x ∈ l') (i : Int) : l.foldl max i = l'.foldl max i := by
  refine Int.le_antisymm (fmax_le (fmax_ge l' i).1 fun x hx => (fmax_ge l' i).2 x ((h x).mp hx)) (fmax_le (fmax_ge l i).1 fun x hx => (fmax_ge l i).2 x ((h x).mpr hx))
theorem life_ge (es : List Nd) (beat : Int) (t : List Int) (v : Nat) : 1 ≤ lifeOf es beat t v := (fmax_ge _ 1).1
theorem life_le {es : List Nd} {beat : Int} {t : List Int} {v : Nat} {m : Int} (h1 : 1 ≤ m) (h : ∀ e ∈ es, gapOf beat t e ≤ m) : lifeOf es beat t v ≤ m := fmax_le h1 fun x hx => by
  obtain ⟨e, he, rfl⟩ := List.mem_map.mp hx
  exact h e (List.mem_filter.mp he).1
/-- lives ask but which needs there are -/
theorem life_set {es es' : List Nd} (h : ∀ e, e ∈ es ↔ e ∈ es') (beat : Int) (t : List Int) (v : Nat) : lifeOf es beat t v = lifeOf es' beat t v := fmax_set (fun x => by
  simp only [List.mem_map, List.mem_filter, h]) 1
theorem life_app (es fs : List Nd) (beat : Int) (t : List Int) (v : Nat) : lifeOf (es ++ fs) beat t v = ((fs.filter fun e => decide (((e.a : Nat) : Int) = ((v : Nat) : Int))).map (gapOf beat t)).foldl max (lifeOf es beat t v) := by
  rw [lifeOf, List.filter_append, List.map_append, List.foldl_append]
  rfl
theorem gt_map {t : List Int} {f : Int → Int} {i : Nat} (h : i < t.length) : gt (t.map f) i = f (gt t i) := by
  simp [gt, List.getD, h]
theorem gap_moved {beat k : Int} {t : List Int} {e : Nd} (he : EOk t.length e) : gapOf beat (t.map (· + k)) e = gapOf beat t e := by
  unfold gapOf
  rw [gt_map he.1, gt_map he.2]
  omega
theorem life_moved {es : List Nd} {beat k : Int} {t : List Int} (he : ∀ e ∈ es, EOk t.length e) (v : Nat) : lifeOf es beat (t.map (· + k)) v = lifeOf es beat t v := by
  unfold lifeOf
  congr 1
  refine List.map_congr_left fun e h => gap_moved (he e (List.mem_filter.mp h).1)
theorem lives_moved {es : List Nd} {beat k : Int} {n : Nat} {t : List Int} (he : ∀ e ∈ es, EOk t.length e) : livesOf n es beat (t.map (· + k)) = livesOf n es beat t := List.map_congr_left fun v _ => life_moved he v
theorem loop_moved {es : List Nd} {beat k : Int} {n : Nat} {t : List Int} (hb : 1 ≤ beat) (he : ∀ e ∈ es, EOk t.length e) : loopOf n es beat (t.map (· + k)) = (loopOf n es beat t).map fun p => ((p.1 + k).fmod beat, p.2) := by
  unfold loopOf
  rw [lives_moved he, List.zip_map_left, List.map_map, List.map_map]
  refine List.map_congr_left fun p _ => ?_
  simp only [Function.comp, Prod.map, id]
  congr 1
  rw [Int.fmod_eq_emod_of_nonneg _ (by omega), Int.fmod_eq_emod_of_nonneg _ (by omega), Int.fmod_eq_emod_of_nonneg _ (by omega), Int.emod_add_emod]
/-! shapes of data that the law compares -/
theorem ok_tim {t : List Int} (h : t.length ≤ 100000) : okD (timD t) = true ∧ dep (timD t) ≤ 1 := by
  have : okL (t.map .int) = true ∧ depL (t.map .int) = 0 := by
    clear h
    induction t with
    | nil => simp [okL, depL]
    | cons i t ih => simp [okL, depL, okD, dep, ih]
  simp [timD, okD, dep, this, h]
theorem ok_loop {beat : Int} {vs : List (Int × Int)} (h : vs.length ≤ 100000) : okD (loopD beat vs) = true ∧ dep (loopD beat vs) ≤ 3 := by
  have : okL (vs.map valD) = true ∧ depL (vs.map valD) ≤ 1 := by
    clear h
    induction vs with
    | nil => simp [okL, depL]
    | cons i t ih =>
      simp only [List.map_cons, okL, depL, ih.1, valD, okD, dep]
      simp
      have := ih.2
      omega
  simp only [loopD, okD, okL, dep, depL, this.1, List.length_map, h]
  simp
  omega
theorem nodes_tim (t : List Int) : nodes (timD t) = 1 ∧ noDict (timD t) = true ∧ dep (timD t) ≤ 1 := by
  have : nodesL (t.map .int) = 0 ∧ noDictL (t.map .int) = true ∧ depL (t.map .int) = 0 := by
    induction t with
    | nil => simp [nodesL, noDictL, depL]
    | cons i t ih => simp [nodesL, noDictL, depL, nodes, noDict, dep, ih]
  simp [timD, nodes, noDict, dep, this]
theorem nodes_wrk (n : Nat) (es : List Nd) : nodes (wrkD n es) = es.length + 2 := by
  have : nodesL (es.map Nd.D) = es.length := by
    induction es with
    | nil => simp [nodesL]
    | cons i t ih => simp [nodesL, nodes, Nd.D, ih]; omega
  simp [wrkD, nodes, nodesL, this]
theorem flat_int (i : Int) : flatR (.int i) = .ok (.int i) := by simp [flatR, flatD]
theorem flat_tim (t : List Int) : flatR (timD t) = .ok (timD t) := by
  have : flatD (timD t) = true := by
    rw [timD, flat_tuple, flatL, List.all_map]
    refine List.all_eq_true.mpr fun i _ => ?_
    simp [flatD]
  simp [flatR, this]
theorem timesOf_spec {beat : Int} {n : Nat} {es : List Nd} {t : List Int} (he : ∀ e ∈ es, NdOk n e) (hb : 0 ≤ beat) (h : timesOf beat n es = some t) : t.length = n ∧ (∀ v, 0 ≤ gt t v) ∧ (∀ v, v < n → gt t v ≤ ((n : Int) - 1) * 5) ∧ ∀ e ∈ es, e.d ≤ gapOf beat t e := by
  have ho := fun e m => (he e m).ok
  obtain ⟨h1, h2, h3, _⟩ := rest_least ho h
  refine ⟨h1, h2, rest_bound ho h (c := 5) (fun e m => ?_) (by omega), fun e m => ?_⟩
  · have a := (he e m).d5
    have b := Int.mul_nonneg (he e m).r0 hb
    unfold wb
    omega
  · have := h3 e m
    unfold wb at this
    unfold gapOf
    omega
theorem NdOk.rev {n : Nat} {e : Nd} (h : NdOk n e) : NdOk n (SE.rev e) := ⟨⟨h.ok.2, h.ok.1⟩, h.d0, h.d5, h.r0, h.r3⟩
/-- from behind there are times, too -/
theorem times_rev {beat : Int} {n : Nat} {es : List Nd} {t : List Int} (he : ∀ e ∈ es, EOk n e) (h : timesOf beat n es = some t) : ∃ s, timesOf beat n (es.map rev) = some s := by
  obtain ⟨h1, h2, h3, _⟩ := rest_least he h
  refine rest_of (x := fun v => -gt t v) (fun e m => ?_) (Nat.le_succ n) (Nat.le_add_left 1 n) fun e m => ?_
  · obtain ⟨f, hf, rfl⟩ := List.mem_map.mp m
    exact ⟨(he f hf).2, (he f hf).1⟩
  · obtain ⟨f, hf, rfl⟩ := List.mem_map.mp m
    have := h3 f hf
    simp only [rev, wb] at this ⊢
    omega
theorem gap_late {beat last : Int} {s : List Int} {e : Nd} (he : EOk s.length e) : gapOf beat (s.map fun x => last - x) e = gapOf beat s (rev e) := by
  unfold gapOf rev
  rw [gt_map (f := fun x => last - x) he.1, gt_map (f := fun x => last - x) he.2]
  simp only
  omega
theorem gap_le {beat : Int} {n : Nat} {t : List Int} {e : Nd} {m : Int} (he : NdOk n e) (hb : 0 ≤ beat) (hb2 : beat ≤ 8) (h0 : ∀ v, 0 ≤ gt t v) (h1 : ∀ v, v < n → gt t v ≤ m) : gapOf beat t e ≤ m + 24 := by
  have a := h0 e.a
  have b := h1 e.b he.ok.2
  have c : e.r * beat ≤ 3 * 8 := Int.mul_le_mul he.r3 hb2 hb (by omega)
  unfold gapOf
  omega
end SE

set_option maxHeartbeats 4000000
/-! plain: circles looked at -/
namespace SE
open PySem PySem.Spec PyProof.Rows L2 BF
/-- each need begins where the one ahead ends -/
def lk : Nat → List Nd → Bool
  | _, [] => true
  | x, e :: p => decide (x = e.a) && lk e.b p
def distinct (p : List Nd) : Bool := decide ((sortI (p.map fun e => ((e.a : Nat) : Int))).length = p.length)
/-- what both looks at a circle come to, needs of the work alone -/
def circB (p : List Nd) : Bool := !p.isEmpty && (distinct p && lk (endsAt p) p)
theorem insI_len (x : Int) : ∀ l : List Int, (insI x l).length ≤ l.length + 1
  | [] => by simp [insI]
  | y :: l => by
    have := insI_len x l
    unfold insI
    split
    · simp
    · split
      · simp
      · simp only [List.length_cons]; omega
theorem sortI_len : ∀ l : List Int, (sortI l).length ≤ l.length
  | [] => Nat.le_refl _
  | x :: l => by
    have a := insI_len x (sortI l)
    have b := sortI_len l
    rw [sortI, List.length_cons]
    omega
theorem sortI_nodup {l : List Int} (h : l.Nodup) : (sortI l).length = l.length :=
  ((List.perm_ext_iff_of_nodup (asc_nodup (asc_sortI l)) h).mpr fun k => mem_sortI).length_eq
theorem nodup_cast {p : List Nd} (h : (p.map (·.a)).Nodup) : (p.map fun e => ((e.a : Nat) : Int)).Nodup := by
  rw [List.Nodup, List.pairwise_map] at h ⊢
  exact h.imp fun h z => h (by omega)
theorem walk_lk {es : List Nd} : ∀ {p : List Nd} {x v : Nat}, Walk es x p v → lk x p = true
  | [], _, _, _ => rfl
  | e :: p, x, v, h => by
    obtain ⟨h1, _, h3⟩ := h.head
    simp [lk, h1, walk_lk h3]
theorem circ_B {es : List Nd} {x : Nat} {p : List Nd} (c : Circ es x p) : circB p = true := by
  have e := (circ_ends c).1
  have l := walk_lk c.walk
  have d : distinct p = true := by
    unfold distinct
    rw [sortI_nodup (nodup_cast c.nd)]
    simp
  have n : p.isEmpty = false := by
    cases p with
    | nil => exact absurd rfl c.ne
    | cons => rfl
  simp [circB, e, l, d, n]
theorem pairs_lk : ∀ (p : List Nd) (g : Nd), ((g :: p).zip p).all (fun x => decide (((x.1.b : Nat) : Int) = ((x.2.a : Nat) : Int))) = lk g.b p
  | [], _ => rfl
  | e :: p, g => by
    have ih := pairs_lk p e
    rw [List.zip_cons_cons, List.all_cons, ih, lk]
    congr 1
    exact decide_eq_decide.mpr (by simp only; omega)
theorem pairs_lk' : ∀ (p : List Nd) (g : Nd), (((g :: p).zip p).filter (fun x => !decide (((x.1.b : Nat) : Int) = ((x.2.a : Nat) : Int)))).isEmpty = lk g.b p := fun p g => by
  rw [← pairs_lk p g]
  generalize (g :: p).zip p = l
  induction l with
  | nil => rfl
  | cons x l ih =>
    cases h : decide (((x.1.b : Nat) : Int) = ((x.2.a : Nat) : Int)) <;> simp [List.filter_cons, h, ← ih]
theorem last_end {p : List Nd} {gs : List Nd} {g : Nd} (h : p = gs ++ [g]) : endsAt p = g.b := by rw [h]; exact endsAt_snoc gs g
theorem snoc_of {p : List Nd} (h : p ≠ []) : ∃ gs g, p = gs ++ [g] := by
  rcases List.eq_nil_or_concat p with e | ⟨q, e, h⟩
  · exact absurd e h
  · exact ⟨q, e, by rw [h, List.concat_eq_append]⟩
theorem sortset_ints {ns : List Int} (h : ns.length < 64) : dSortSet (.list (ns.map .int)) = some ((sortI ns).map .int) := by
  simp only [dSortSet, itemsD, Option.bind_some, asInts_map]
  rw [if_pos h]
theorem lenset_ints {ns : List Int} (h : ns.length < 64) : dLenSet (.list (ns.map .int)) = some (.int ((sortI ns).length : Nat)) := by
  simp only [dLenSet, itemsD, Option.bind_some, asInts_map]
  rw [if_pos h]
theorem Shp.ring (p : List Nd) : Shp 2 (ringD p) := Shp.tupM fun e _ => Shp.need e
theorem eqv_ring (p q : List Nd) : PyData.eqv (ringD p) (ringD q) = decide (p = q) := eqv_tupM eqv_need p q
def bD : Option Nat → PyData
  | some u => .int (u : Nat)
  | none => .none
theorem notIn_needs (e : Nd) (es : List Nd) : dNotIn (Nd.D e) (.tuple (es.map Nd.D)) = some (.bool (!decide (e ∈ es))) := by
  have h1 := (Shp.need e).shaped (by omega)
  have h2 := (Shp.tupM (k := 1) (f := Nd.D) (xs := es) fun x _ => Shp.need x).shaped (by omega)
  have : ∀ xs : List Nd, ((xs.map Nd.D).any fun z => PyData.eqv z (Nd.D e)) = decide (e ∈ xs) := fun xs => by
    induction xs with
    | nil => rfl
    | cons y ys ih =>
      rw [List.map_cons, List.any_cons, ih, eqv_need]
      by_cases c : y = e
      · simp [c]
      · have c' : ¬ e = y := fun z => c z.symm
        simp [c, c']
  simp only [dNotIn, h1, h2, and_self, if_true, this]
theorem ones_ne (n : Nat) : dNe (.list (List.replicate n (PyData.int 1))) (.list []) = some (.bool (!decide (n = 0))) := by
  rw [dNe_shp (Shp.list (k := 0) fun d hd => by rw [(List.mem_replicate.mp hd).2]; exact Shp.int 0 1) (Shp.list (k := 0) (ds := []) fun _ h => nomatch h) (by omega) (by omega)]
  cases n <;> rfl
theorem ones_eq (n : Nat) : dEq (.list (List.replicate n (PyData.int 1))) (.list []) = some (.bool (decide (n = 0))) := by
  rw [dEq_shp (Shp.list (k := 0) fun d hd => by rw [(List.mem_replicate.mp hd).2]; exact Shp.int 0 1) (Shp.list (k := 0) (ds := []) fun _ h => nomatch h) (by omega) (by omega)]
  cases n <;> rfl
theorem map_ones {A : Type} (l : List A) : l.map (fun _ => PyData.int 1) = List.replicate l.length (.int 1) := by
  induction l with
  | nil => rfl
  | cons x l ih => rw [List.map_cons, ih]; rfl
end SE

set_option maxHeartbeats 4000000
/-! plain: slices of typed tuples, rising needs -/
namespace SE
open PySem PySem.Spec PyProof.Rows L2 BF
def cutA {A : Type} (xs : List A) (lo hi : Option Int) : List A := (xs.drop (HT.sIx xs.length 0 lo)).take (HT.sIx xs.length xs.length hi - HT.sIx xs.length 0 lo)
theorem cutD_mapG {A : Type} (f : A → PyData) (xs : List A) (lo hi : Option Int) : cutD (xs.map f) lo hi = (cutA xs lo hi).map f := by
  unfold cutD cutA
  rw [List.length_map, List.map_take, List.map_drop]
theorem mem_cutA {A : Type} {xs : List A} {lo hi : Option Int} {x : A} (h : x ∈ cutA xs lo hi) : x ∈ xs := List.mem_of_mem_drop (List.mem_of_mem_take h)
theorem len_cutA {A : Type} (xs : List A) (lo hi : Option Int) : (cutA xs lo hi).length ≤ xs.length := by
  unfold cutA
  rw [List.length_take, List.length_drop]
  omega
theorem cutA_from {A : Type} (xs : List A) (k : Nat) : cutA xs (some (k : Nat)) none = xs.drop k := by
  unfold cutA
  rw [HT.sIx_nat]
  show (xs.drop (min k xs.length)).take (xs.length - min k xs.length) = _
  by_cases h : k ≤ xs.length
  · rw [Nat.min_eq_left h, List.take_of_length_le (by simp)]
  · rw [Nat.min_eq_right (by omega), List.drop_length, List.drop_eq_nil_of_le (by omega)]
    simp
theorem cutA_to {A : Type} (xs : List A) (k : Nat) : cutA xs none (some (k : Nat)) = xs.take k := by
  unfold cutA
  rw [HT.sIx_nat]
  show (xs.drop 0).take (min k xs.length - 0) = _
  rw [List.drop_zero, Nat.sub_zero]
  by_cases h : k ≤ xs.length
  · rw [Nat.min_eq_left h]
  · rw [Nat.min_eq_right (by omega), List.take_length, List.take_of_length_le (by omega)]
theorem cutA_tail {A : Type} (xs : List A) : cutA xs (some 1) none = xs.tail := (cutA_from xs 1).trans List.drop_one
theorem slice_ring (p : List Nd) (lo hi : Option Int) : dSlice (ringD p) lo hi = some (ringD (cutA p lo hi)) := by
  rw [ringD, dSlice, cutD_mapG]; rfl
theorem slice_tim (t : List Int) (lo hi : Option Int) : dSlice (timD t) lo hi = some (timD (cutA t lo hi)) := by
  rw [timD, dSlice, cutD_mapG]; rfl
theorem slice_rings (ps : List (List Nd)) (lo hi : Option Int) : dSlice (.list (ps.map ringD)) lo hi = some (.list ((cutA ps lo hi).map ringD)) := by
  rw [dSlice, cutD_mapG]
theorem add_ring {p q : List Nd} (h : p.length + q.length ≤ 100000) : dAdd (ringD p) (ringD q) = some (ringD (p ++ q)) := by
  rw [ringD, ringD, app_tuples (by simpa using h), ringD, List.map_append]
theorem add_tim {p q : List Int} (h : p.length + q.length ≤ 100000) : dAdd (timD p) (timD q) = some (timD (p ++ q)) := by
  rw [timD, timD, app_tuples (by simpa using h), timD, List.map_append]
theorem rev_ring (p : List Nd) : dRevT (ringD p) = some (ringD p.reverse) := by
  rw [ringD, dRevT, ringD, List.map_reverse]
/-- each less than the next -/
def rising (es : List Nd) : Bool := (es.zip es.tail).all fun x => HT.lexLt (Nd.row x.1) (Nd.row x.2)
theorem lx_rising : ∀ {es : List Nd}, Lx (es.map Nd.row) → rising es = true
  | [], _ => rfl
  | [e], _ => rfl
  | e :: f :: es, h => by
    have h' : Lx (Nd.row e :: Nd.row f :: es.map Nd.row) := h
    obtain ⟨h1, h2⟩ := List.pairwise_cons.mp h'
    have ih := lx_rising (es := f :: es) h2
    have := h1 (Nd.row f) List.mem_cons_self
    simp only [rising, List.tail_cons, List.zip_cons_cons, List.all_cons, this, Bool.true_and] at ih ⊢
    exact ih
theorem adj_mem {A : Type} (x y : A) : ∀ a : List A, (x, y) ∈ (a ++ [x, y]).zip (a ++ [x, y]).tail
  | [] => by simp
  | [z] => by simp
  | z :: w :: a => by
    have := adj_mem x y (w :: a)
    simp only [List.cons_append, List.tail_cons, List.zip_cons_cons] at this ⊢
    exact List.mem_cons_of_mem _ this
theorem not_rising (x : Nd) (a : List Nd) : rising (a ++ [x, x]) = false := by
  cases h : rising (a ++ [x, x]) with
  | false => rfl
  | true =>
    have := List.all_eq_true.mp h (x, x) (adj_mem x x a)
    rw [lx_irr] at this
    cases this
def needB (n : Int) (e : Nd) : Bool := (decide (((e.a : Nat) : Int) < n) && decide (((e.b : Nat) : Int) < n)) && (decide (0 ≤ e.d) && decide (0 ≤ e.r))
theorem lt_needs (e f : Nd) : dLtX (Nd.D e) (Nd.D f) = some (.bool (HT.lexLt (Nd.row e) (Nd.row f))) := rfl
theorem posR_turn (beat : Int) (p q : List Nd) (e : Nd) : posR beat (e :: q ++ p) = posR beat (p ++ e :: q) := by
  have a := wt_turn (w := wb beat) p q e
  have c : ∀ l : List Nd, posR beat l = decide (0 < wt (wb beat) l) := fun l => by
    rw [Bool.eq_iff_iff, posR_iff, decide_eq_true_eq]
  rw [c, c, a]
theorem rev_rev (es : List Nd) : (es.map rev).map rev = es := by
  rw [List.map_map]
  exact (List.map_congr_left fun e _ => rfl).trans (List.map_id es)
theorem times_rev_none {beat : Int} {n : Nat} {es : List Nd} (he : ∀ e ∈ es, EOk n e) (h : timesOf beat n es = none) : timesOf beat n (es.map rev) = none := by
  cases e : timesOf beat n (es.map rev) with
  | none => rfl
  | some s =>
    obtain ⟨t, ht⟩ := times_rev (es := es.map rev) (fun e m => by
      obtain ⟨f, hf, rfl⟩ := List.mem_map.mp m
      exact ⟨(he f hf).2, (he f hf).1⟩) e
    rw [rev_rev, h] at ht
    cases ht
end SE

set_option maxHeartbeats 4000000
/-! plain: the greatest ratio of circles -/
namespace SE
open PySem PySem.Spec PyProof.Rows L2 BF
theorem while_meas {T S B : Type} {c : S → R Bool} {f : S → R (Fl T S S)} (I : S → Prop) (μ : S → Nat) (out : R (Fl T S B) → Prop)
    (h : ∀ s, I s → (c s = .ok false ∧ out (.ok (.nx s))) ∨ (c s = .ok true ∧ ((∃ s', f s = .ok (.nx s') ∧ I s' ∧ μ s' < μ s) ∨ (∃ r, f s = .ok (.rt r) ∧ out (.ok (.rt r))) ∨ (∃ x ds, f s = .ex x ds ∧ out (.ex x ds))))) :
    ∀ (k : Nat) (s : S), I s → μ s < k → out (whileR c f k s)
  | 0, _, _, hk => absurd hk (Nat.not_lt_zero _)
  | k + 1, s, hI, hk => by
    rcases h s hI with ⟨h1, h2⟩ | ⟨h1, h2⟩
    · rw [whileR, h1]
      exact h2
    · rcases h2 with ⟨s', e, hI', hm⟩ | ⟨r, e, ho⟩ | ⟨x, ds, e, ho⟩
      · have := while_meas I μ out h k s' hI' (by omega)
        rw [whileR, h1]
        simp only [R.bind_ok, if_true, e]
        exact this
      · rw [whileR, h1]
        simp only [R.bind_ok, if_true, e]
        exact ho
      · rw [whileR, h1]
        simp only [R.bind_ok, if_true, e]
        exact ho
def sD (p : List Nd) : Int := (p.map (·.d)).sum
def sR (p : List Nd) : Int := (p.map (·.r)).sum
theorem wt_ratio (t b : Int) (p : List Nd) : wt (fun e => e.d * b - e.r * t) p = sD p * b - sR p * t := by
  induction p with
  | nil => simp [sD, sR]
  | cons e p ih =>
    rw [wt_cons, ih]
    simp only [sD, sR, List.map_cons, List.sum_cons, Int.add_mul]
    omega
theorem sD_eq (p : List Nd) : sD p = wt (fun e => e.d) p := rfl
theorem sR_eq (p : List Nd) : sR p = wt (fun e => e.r) p := rfl
theorem wt_bd {w : Nd → Int} {B : Int} : ∀ {p : List Nd}, (∀ e ∈ p, 0 ≤ w e ∧ w e ≤ B) → 0 ≤ wt w p ∧ wt w p ≤ (p.length : Int) * B
  | [], _ => by simp
  | e :: p, h => by
    have h1 := h e List.mem_cons_self
    have h2 := wt_bd (p := p) fun f m => h f (List.mem_cons_of_mem _ m)
    rw [wt_cons, List.length_cons, Int.natCast_add, Int.add_mul]
    omega
/-- a need within the bounds of this law -/
structure N15 (n : Nat) (e : Nd) : Prop where
  ok : EOk n e
  d0 : 0 ≤ e.d
  d15 : e.d ≤ 15
  r0 : 0 ≤ e.r
  r3 : e.r ≤ 3
theorem circ_bd {n : Nat} {es : List Nd} {x : Nat} {c : List Nd} (hn : n ≤ 5) (he : ∀ e ∈ es, N15 n e) (h : Circ es x c) : (0 ≤ sD c ∧ sD c ≤ 75) ∧ 0 ≤ sR c ∧ sR c ≤ 15 := by
  have hl := h.len fun e m => (he e m).ok
  have a := wt_bd (w := fun e => e.d) (B := 15) (p := c) fun e m => ⟨(he e (h.walk.mem e m)).d0, (he e (h.walk.mem e m)).d15⟩
  have b := wt_bd (w := fun e => e.r) (B := 3) (p := c) fun e m => ⟨(he e (h.walk.mem e m)).r0, (he e (h.walk.mem e m)).r3⟩
  rw [sD_eq, sR_eq]
  omega
def neverB (n : Nat) (es : List Nd) : Bool := (ringsOf n es).any fun p => decide (sR p = 0) && decide (0 < sD p)
theorem circ_ring_sums {n : Nat} {es : List Nd} {x : Nat} {c : List Nd} (ho : ∀ e ∈ es, EOk n e) (h : Circ es x c) : ∃ p ∈ ringsOf n es, sD p = sD c ∧ sR p = sR c := by
  obtain ⟨p, e, q, rfl, hr⟩ := circ_ring ho h
  refine ⟨_, hr, ?_, ?_⟩
  · rw [sD_eq, sD_eq, ← List.cons_append]; exact wt_turn p q e
  · rw [sR_eq, sR_eq, ← List.cons_append]; exact wt_turn p q e
theorem never_iff {n : Nat} {es : List Nd} (ho : ∀ e ∈ es, EOk n e) : neverB n es = true ↔ ∃ x c, Circ es x c ∧ sR c = 0 ∧ 0 < sD c := by
  rw [neverB, List.any_eq_true]
  constructor
  · rintro ⟨p, hp, h⟩
    simp only [Bool.and_eq_true, decide_eq_true_eq] at h
    exact ⟨_, p, ring_circ hp, h.1, h.2⟩
  · rintro ⟨x, c, h, h1, h2⟩
    obtain ⟨p, hp, e1, e2⟩ := circ_ring_sums ho h
    exact ⟨p, hp, by rw [e1, e2]; simp [h1, h2]⟩
/-- lowest terms -/
def low (a b : Int) : Int × Int := (a / (Int.gcd a b : Int), b / (Int.gcd a b : Int))
theorem low_spec {a b : Int} (h0 : 0 ≤ a) (h1 : 0 < b) : 0 < (Int.gcd a b : Int) ∧ a = (low a b).1 * (Int.gcd a b : Int) ∧ b = (low a b).2 * (Int.gcd a b : Int) ∧ 0 ≤ (low a b).1 ∧ (low a b).1 ≤ a ∧ 0 < (low a b).2 ∧ (low a b).2 ≤ b ∧ Int.gcd (low a b).1 (low a b).2 = 1 := by
  have hg : 0 < Int.gcd a b := Int.gcd_pos_of_ne_zero_right a (by omega)
  have hg' : (0 : Int) < (Int.gcd a b : Int) := by omega
  have ea : a / (Int.gcd a b : Int) * (Int.gcd a b : Int) = a := Int.ediv_mul_cancel (Int.gcd_dvd_left ..)
  have eb : b / (Int.gcd a b : Int) * (Int.gcd a b : Int) = b := Int.ediv_mul_cancel (Int.gcd_dvd_right ..)
  have ha : 0 ≤ a / (Int.gcd a b : Int) := Int.ediv_nonneg h0 (by omega)
  have hb : 0 < b / (Int.gcd a b : Int) := by
    apply Classical.byContradiction
    intro z
    have : b / (Int.gcd a b : Int) * (Int.gcd a b : Int) ≤ 0 * (Int.gcd a b : Int) := Int.mul_le_mul_of_nonneg_right (by omega) (by omega)
    omega
  refine ⟨hg', ea.symm, eb.symm, ha, Int.ediv_le_self _ h0, hb, Int.ediv_le_self _ (by omega), ?_⟩
  exact Int.gcd_ediv_gcd_ediv_gcd hg
theorem low_zero : low 0 1 = (0, 1) := rfl
theorem dvd_cop {p q z : Int} (c : Int.gcd p q = 1) (h : q ∣ p * z) : q ∣ z := by
  rw [← Int.natAbs_dvd_natAbs, Int.natAbs_mul] at h
  rw [← Int.natAbs_dvd_natAbs]
  have c : Nat.Coprime q.natAbs p.natAbs := by
    rw [Nat.Coprime, Nat.gcd_comm]
    exact c
  exact c.dvd_of_dvd_mul_left h
/-- two ratios in lowest terms -/
theorem cop_uniq {p q p' q' : Int} (h0 : 0 ≤ p) (h1 : 0 < q) (h2 : 0 ≤ p') (h3 : 0 < q') (c : Int.gcd p q = 1) (c' : Int.gcd p' q' = 1) (e : p * q' = p' * q) : p = p' ∧ q = q' := by
  have d1 : q ∣ q' := by
    have : q ∣ p * q' := ⟨p', by rw [e, Int.mul_comm]⟩
    exact dvd_cop c this
  have d2 : q' ∣ q := by
    have : q' ∣ p' * q := ⟨p, by rw [← e, Int.mul_comm]⟩
    exact dvd_cop c' this
  have eq : q = q' := Int.dvd_antisymm (by omega) (by omega) d1 d2
  subst eq
  exact ⟨Int.eq_of_mul_eq_mul_right (by omega) e, rfl⟩
/-- a ratio met so far -/
structure Part (es : List Nd) (p q : Int) : Prop where
  q0 : 0 < q
  q15 : q ≤ 15
  p0 : 0 ≤ p
  p75 : p ≤ 75
  cop : Int.gcd p q = 1
  att : p = 0 ∨ ∃ x c, Circ es x c ∧ 0 < sR c ∧ sD c * q = p * sR c
structure Best (es : List Nd) (p q : Int) : Prop extends Part es p q where
  ub : ∀ x c, Circ es x c → 0 < sR c → sD c * q ≤ p * sR c
theorem Part.start (es : List Nd) : Part es 0 1 := ⟨by omega, by omega, by omega, by omega, rfl, .inl rfl⟩
theorem Part.of {n : Nat} {es : List Nd} {x : Nat} {c : List Nd} (hn : n ≤ 5) (he : ∀ e ∈ es, N15 n e) (h : Circ es x c) (hr : 0 < sR c) : Part es (low (sD c) (sR c)).1 (low (sD c) (sR c)).2 := by
  obtain ⟨⟨b1, b2⟩, b3, b4⟩ := circ_bd hn he h
  obtain ⟨g0, ea, eb, h1, h2, h3, h4, h5⟩ := low_spec b1 hr
  refine ⟨h3, by omega, h1, by omega, h5, .inr ⟨x, c, h, hr, ?_⟩⟩
  generalize (low (sD c) (sR c)).1 = p at *
  generalize (low (sD c) (sR c)).2 = q at *
  generalize (Int.gcd (sD c) (sR c) : Int) = g at *
  rw [ea, eb, Int.mul_assoc, Int.mul_comm g q]
theorem Best.uniq {es : List Nd} {p q p' q' : Int} (h : Best es p q) (h' : Best es p' q') : p = p' ∧ q = q' := by
  have key : ∀ {p q p' q' : Int}, Best es p q → Best es p' q' → p * q' ≤ p' * q := fun {p q p' q'} h h' => by
    rcases h.att with z | ⟨x, c, hc, hr, e⟩
    · subst z
      rw [Int.zero_mul]
      exact Int.mul_nonneg h'.p0 (by have := h.q0; omega)
    · have u := h'.ub x c hc hr
      have : p * q' * sR c ≤ p' * q * sR c := by
        have a1 : p * q' * sR c = sD c * q' * q := by rw [Int.mul_right_comm p, ← e, Int.mul_right_comm]
        have a2 : p' * q * sR c = p' * sR c * q := Int.mul_right_comm ..
        rw [a1, a2]
        exact Int.mul_le_mul_of_nonneg_right u (by have := h.q0; omega)
      exact Int.le_of_mul_le_mul_right this hr
  exact cop_uniq h.p0 h.q0 h'.p0 h'.q0 h.cop h'.cop (Int.le_antisymm (key h h') (key h' h))
/-- a greater ratio: the floor of 225 times the ratio grows -/
theorem grows {n : Nat} {es : List Nd} {x : Nat} {c : List Nd} {p q : Int} (hn : n ≤ 5) (he : ∀ e ∈ es, N15 n e) (h : Circ es x c) (hr : 0 < sR c) (hP : Part es p q) (hg : p * sR c < sD c * q) : 225 * p / q + 1 ≤ 225 * (low (sD c) (sR c)).1 / (low (sD c) (sR c)).2 := by
  obtain ⟨⟨b1, b2⟩, b3, b4⟩ := circ_bd hn he h
  obtain ⟨g0, ea, eb, h1, h2, h3, h4, h5⟩ := low_spec b1 hr
  generalize (low (sD c) (sR c)).1 = a at *
  generalize (low (sD c) (sR c)).2 = b at *
  generalize (Int.gcd (sD c) (sR c) : Int) = g at *
  have q0 := hP.q0
  have q15 := hP.q15
  have lt : p * b < a * q := by
    have : p * b * g < a * q * g := by
      rw [Int.mul_assoc, ← eb, Int.mul_right_comm, ← ea]
      exact hg
    exact Int.lt_of_mul_lt_mul_right this (by omega)
  have bq : b * q ≤ 15 * 15 := Int.mul_le_mul (by omega) q15 (by omega) (by omega)
  refine (Int.le_ediv_iff_mul_le h3).mpr ?_
  have f := Int.ediv_mul_le (225 * p) (show q ≠ 0 by omega)
  generalize 225 * p / q = k at *
  have : (k + 1) * b * q ≤ 225 * a * q := by
    have e1 : (k + 1) * b * q = k * q * b + b * q := by rw [Int.add_mul, Int.add_mul, Int.mul_right_comm, Int.one_mul]
    have e2 : k * q * b ≤ 225 * p * b := Int.mul_le_mul_of_nonneg_right f (by omega)
    have e3 : 225 * p * b = 225 * (p * b) := Int.mul_assoc ..
    have e4 : 225 * a * q = 225 * (a * q) := Int.mul_assoc ..
    omega
  exact Int.le_of_mul_le_mul_right this q0
theorem Part.fl {es : List Nd} {p q : Int} (h : Part es p q) : 0 ≤ 225 * p / q ∧ 225 * p / q ≤ 16875 := by
  have := h.q0; have := h.p0; have := h.p75
  exact ⟨Int.ediv_nonneg (by omega) (by omega), Int.le_trans (Int.ediv_le_self _ (by omega)) (by omega)⟩
theorem Best.of {es : List Nd} {p q : Int} (h : Part es p q) (u : ∀ x c, Circ es x c → sD c * q ≤ sR c * p) : Best es p q := ⟨h, fun x c hc _ => by rw [Int.mul_comm p]; exact u x c hc⟩
/-! the law's own fold -/
def stepB (s : Int × Int) (r : Int × Int) : Int × Int := if 0 < r.2 ∧ s.1 * r.2 < r.1 * s.2 then low r.1 r.2 else s
theorem foldB_best {n : Nat} {es : List Nd} (hn : n ≤ 5) (he : ∀ e ∈ es, N15 n e) : Best es (((ringsOf n es).map fun p => (sD p, sR p)).foldl stepB (0, 1)).1 (((ringsOf n es).map fun p => (sD p, sR p)).foldl stepB (0, 1)).2 := by
  have key : ∀ (rs : List (List Nd)) (s : Int × Int), (∀ p ∈ rs, p ∈ ringsOf n es) → Part es s.1 s.2 →
      Part es ((rs.map fun p => (sD p, sR p)).foldl stepB s).1 ((rs.map fun p => (sD p, sR p)).foldl stepB s).2 ∧ s.1 * ((rs.map fun p => (sD p, sR p)).foldl stepB s).2 ≤ ((rs.map fun p => (sD p, sR p)).foldl stepB s).1 * s.2 ∧
        ∀ p ∈ rs, 0 < sR p → sD p * ((rs.map fun p => (sD p, sR p)).foldl stepB s).2 ≤ ((rs.map fun p => (sD p, sR p)).foldl stepB s).1 * sR p := by
    intro rs
    induction rs with
    | nil => exact fun s _ hP => ⟨hP, Int.le_refl _, fun _ m => nomatch m⟩
    | cons r rs ih =>
      intro s hm hP
      have c := ring_circ (hm r List.mem_cons_self)
      obtain ⟨⟨b1, b2⟩, b3, b4⟩ := circ_bd hn he c
      have q0 := hP.q0
      simp only [List.map_cons, List.foldl_cons]
      have st : Part es (stepB s (sD r, sR r)).1 (stepB s (sD r, sR r)).2 ∧ s.1 * (stepB s (sD r, sR r)).2 ≤ (stepB s (sD r, sR r)).1 * s.2 ∧ (0 < sR r → sD r * (stepB s (sD r, sR r)).2 ≤ (stepB s (sD r, sR r)).1 * sR r) := by
        unfold stepB
        by_cases h : 0 < sR r ∧ s.1 * sR r < sD r * s.2
        · rw [if_pos h]
          obtain ⟨g0, ea, eb, h1, h2, h3, h4, h5⟩ := low_spec b1 h.1
          have hp := Part.of hn he c h.1
          have hl := h.2
          simp only
          generalize (low (sD r) (sR r)).1 = a at *
          generalize (low (sD r) (sR r)).2 = b at *
          generalize (Int.gcd (sD r) (sR r) : Int) = g at *
          refine ⟨hp, ?_, fun _ => ?_⟩
          · have : s.1 * b * g ≤ a * s.2 * g := by
              rw [Int.mul_assoc, ← eb, Int.mul_right_comm, ← ea]
              omega
            exact Int.le_of_mul_le_mul_right this g0
          · have e1 : sD r * b = a * g * b := by rw [← ea]
            have e2 : a * sR r = a * (b * g) := by rw [← eb]
            rw [e1, e2, Int.mul_assoc, Int.mul_comm g b]
            exact Int.le_refl _
        · rw [if_neg h]
          refine ⟨hP, Int.le_refl _, fun hr => ?_⟩
          have : ¬ s.1 * sR r < sD r * s.2 := fun z => h ⟨hr, z⟩
          omega
      obtain ⟨s1, s2, s3⟩ := st
      obtain ⟨i1, i2, i3⟩ := ih (stepB s (sD r, sR r)) (fun p m => hm p (List.mem_cons_of_mem _ m)) s1
      generalize stepB s (sD r, sR r) = t at *
      generalize (rs.map fun p => (sD p, sR p)).foldl stepB t = z at *
      have t0 := s1.q0
      have z0 := i1.q0
      refine ⟨i1, ?_, fun p m hr => ?_⟩
      · have : s.1 * z.2 * t.2 ≤ z.1 * s.2 * t.2 := by
          have e1 : s.1 * z.2 * t.2 = s.1 * t.2 * z.2 := Int.mul_right_comm ..
          have e2 : z.1 * s.2 * t.2 = z.1 * t.2 * s.2 := Int.mul_right_comm ..
          have e3 : s.1 * t.2 * z.2 ≤ t.1 * s.2 * z.2 := Int.mul_le_mul_of_nonneg_right s2 (by omega)
          have e4 : t.1 * z.2 * s.2 ≤ z.1 * t.2 * s.2 := Int.mul_le_mul_of_nonneg_right i2 (by omega)
          have e5 : t.1 * s.2 * z.2 = t.1 * z.2 * s.2 := Int.mul_right_comm ..
          omega
        exact Int.le_of_mul_le_mul_right this t0
      · rcases List.mem_cons.mp m with rfl | m
        · have : sD p * z.2 * t.2 ≤ z.1 * sR p * t.2 := by
            have e1 : sD p * z.2 * t.2 = sD p * t.2 * z.2 := Int.mul_right_comm ..
            have e2 : z.1 * sR p * t.2 = z.1 * t.2 * sR p := Int.mul_right_comm ..
            have e3 : sD p * t.2 * z.2 ≤ t.1 * sR p * z.2 := Int.mul_le_mul_of_nonneg_right (s3 hr) (by omega)
            have e4 : t.1 * z.2 * sR p ≤ z.1 * t.2 * sR p := Int.mul_le_mul_of_nonneg_right i2 (by omega)
            have e5 : t.1 * sR p * z.2 = t.1 * z.2 * sR p := Int.mul_right_comm ..
            omega
          exact Int.le_of_mul_le_mul_right this t0
        · exact i3 p m hr
  obtain ⟨k1, _, k3⟩ := key (ringsOf n es) (0, 1) (fun _ m => m) (Part.start es)
  refine ⟨k1, fun x c hc hr => ?_⟩
  obtain ⟨p, hp, e1, e2⟩ := circ_ring_sums (fun e m => (he e m).ok) hc
  have := k3 p hp (by rw [e2]; exact hr)
  rw [e1, e2] at this
  exact this
end SE

set_option maxHeartbeats 4000000
/-! plain: works with other delays and rounds -/
namespace SE
open PySem PySem.Spec PyProof.Rows L2 BF
structure BestW (es : List Nd) (p q : Int) : Prop where
  q0 : 0 < q
  p0 : 0 ≤ p
  cop : Int.gcd p q = 1
  att : p = 0 ∨ ∃ x c, Circ es x c ∧ 0 < sR c ∧ sD c * q = p * sR c
  ub : ∀ x c, Circ es x c → 0 < sR c → sD c * q ≤ p * sR c
theorem Best.w {es : List Nd} {p q : Int} (h : Best es p q) : BestW es p q := ⟨h.q0, h.p0, h.cop, h.att, h.ub⟩
theorem BestW.uniq {es : List Nd} {p q p' q' : Int} (h : BestW es p q) (h' : BestW es p' q') : p = p' ∧ q = q' := by
  have key : ∀ {p q p' q' : Int}, BestW es p q → BestW es p' q' → p * q' ≤ p' * q := fun {p q p' q'} h h' => by
    rcases h.att with z | ⟨x, c, hc, hr, e⟩
    · subst z
      rw [Int.zero_mul]
      exact Int.mul_nonneg h'.p0 (by have := h.q0; omega)
    · have u := h'.ub x c hc hr
      have : p * q' * sR c ≤ p' * q * sR c := by
        have a1 : p * q' * sR c = sD c * q' * q := by rw [Int.mul_right_comm p, ← e, Int.mul_right_comm]
        have a2 : p' * q * sR c = p' * sR c * q := Int.mul_right_comm ..
        rw [a1, a2]
        exact Int.mul_le_mul_of_nonneg_right u (by have := h.q0; omega)
      exact Int.le_of_mul_le_mul_right this hr
  exact cop_uniq h.p0 h.q0 h'.p0 h'.q0 h.cop h'.cop (Int.le_antisymm (key h h') (key h' h))
def trip (e : Nd) : Nd := ⟨e.a, e.b, 3 * e.d, e.r⟩
def rowd (e : Nd) : Nd := ⟨e.a, e.b, e.d, 3 * e.r⟩
theorem walk_unmap {f : Nd → Nd} (ha : ∀ e, (f e).a = e.a) (hb : ∀ e, (f e).b = e.b) {es : List Nd} {x y : Nat} {p : List Nd} (w : Walk (es.map f) x p y) : ∃ p0, p = p0.map f ∧ Walk es x p0 y := by
  induction w with
  | nil => exact ⟨[], rfl, .nil _⟩
  | step b m ih =>
    obtain ⟨p0, e0, h0⟩ := ih
    obtain ⟨e, hm, rfl⟩ := List.mem_map.mp m
    refine ⟨p0 ++ [e], by rw [e0]; simp, ?_⟩
    rw [hb]
    rw [ha] at h0
    exact .step h0 hm
theorem walk_map {f : Nd → Nd} (ha : ∀ e, (f e).a = e.a) (hb : ∀ e, (f e).b = e.b) {es : List Nd} {x y : Nat} {p : List Nd} (w : Walk es x p y) : Walk (es.map f) x (p.map f) y := by
  induction w with
  | nil => exact .nil _
  | @step p e b m ih =>
    rw [List.map_append]
    have : Walk (es.map f) x (p.map f ++ [f e]) (f e).b := .step (by rw [ha]; exact ih) (List.mem_map.mpr ⟨e, m, rfl⟩)
    rw [hb] at this
    exact this
theorem walk_sub {es es' : List Nd} (h : ∀ e ∈ es, e ∈ es') {x y : Nat} {p : List Nd} (w : Walk es x p y) : Walk es' x p y := by
  induction w with
  | nil => exact .nil _
  | step b m ih => exact .step ih (h _ m)
theorem map_as {f : Nd → Nd} (ha : ∀ e, (f e).a = e.a) (p : List Nd) : (p.map f).map (·.a) = p.map (·.a) := by
  rw [List.map_map]
  exact List.map_congr_left fun e _ => ha e
theorem circ_unmap {f : Nd → Nd} (ha : ∀ e, (f e).a = e.a) (hb : ∀ e, (f e).b = e.b) {es : List Nd} {x : Nat} {c : List Nd} (h : Circ (es.map f) x c) : ∃ c0, c = c0.map f ∧ Circ es x c0 := by
  obtain ⟨c0, e, w⟩ := walk_unmap ha hb h.walk
  refine ⟨c0, e, w, fun z => h.ne (by rw [e, z]; rfl), ?_⟩
  have := h.nd
  rw [e, map_as ha] at this
  exact this
theorem circ_map {f : Nd → Nd} (ha : ∀ e, (f e).a = e.a) (hb : ∀ e, (f e).b = e.b) {es : List Nd} {x : Nat} {c : List Nd} (h : Circ es x c) : Circ (es.map f) x (c.map f) :=
  ⟨walk_map ha hb h.walk, fun z => h.ne (List.map_eq_nil_iff.mp z), by rw [map_as ha]; exact h.nd⟩
theorem circ_sub {es es' : List Nd} (h : ∀ e ∈ es, e ∈ es') {x : Nat} {c : List Nd} (k : Circ es x c) : Circ es' x c := ⟨walk_sub h k.walk, k.ne, k.nd⟩
theorem sD_trip (c : List Nd) : sD (c.map trip) = 3 * sD c := by
  induction c with
  | nil => rfl
  | cons e c ih => simp only [sD, List.map_cons, List.sum_cons, trip] at ih ⊢; omega
theorem sR_trip (c : List Nd) : sR (c.map trip) = sR c := by
  induction c with
  | nil => rfl
  | cons e c ih => simp only [sR, List.map_cons, List.sum_cons, trip] at ih ⊢; omega
theorem sD_rowd (c : List Nd) : sD (c.map rowd) = sD c := by
  induction c with
  | nil => rfl
  | cons e c ih => simp only [sD, List.map_cons, List.sum_cons, rowd] at ih ⊢; omega
theorem sR_rowd (c : List Nd) : sR (c.map rowd) = 3 * sR c := by
  induction c with
  | nil => rfl
  | cons e c ih => simp only [sR, List.map_cons, List.sum_cons, rowd] at ih ⊢; omega
theorem best_trip {es : List Nd} {p q : Int} (h : BestW es p q) : BestW (es.map trip) (low (3 * p) q).1 (low (3 * p) q).2 := by
  obtain ⟨g0, ea, eb, h1, h2, h3, h4, h5⟩ := low_spec (a := 3 * p) (b := q) (by have := h.p0; omega) h.q0
  generalize (low (3 * p) q).1 = a at *
  generalize (low (3 * p) q).2 = b at *
  generalize (Int.gcd (3 * p) q : Int) = g at *
  refine ⟨h3, h1, h5, ?_, fun x c hc hr => ?_⟩
  · rcases h.att with z | ⟨x, c, hc, hr, e⟩
    · left
      rcases Int.mul_eq_zero.mp (show a * g = 0 by omega) with z | z
      · exact z
      · omega
    · right
      refine ⟨x, _, circ_map (f := SE.trip) (fun _ => rfl) (fun _ => rfl) hc, by rw [sR_trip]; exact hr, ?_⟩
      rw [sD_trip, sR_trip]
      refine Int.eq_of_mul_eq_mul_right (show g ≠ 0 by omega) ?_
      have e1 : 3 * sD c * b * g = 3 * (sD c * (b * g)) := by rw [Int.mul_assoc, Int.mul_assoc]
      have e2 : a * sR c * g = a * g * sR c := Int.mul_right_comm ..
      rw [e1, e2, ← eb, ← ea, e, Int.mul_assoc]
  · obtain ⟨c0, rfl, hc0⟩ := circ_unmap (f := SE.trip) (fun _ => rfl) (fun _ => rfl) hc
    rw [sR_trip] at hr
    rw [sD_trip, sR_trip]
    have u := h.ub x c0 hc0 hr
    refine Int.le_of_mul_le_mul_right (?_ : 3 * sD c0 * b * g ≤ a * sR c0 * g) g0
    have e1 : 3 * sD c0 * b * g = 3 * (sD c0 * (b * g)) := by rw [Int.mul_assoc, Int.mul_assoc]
    have e2 : a * sR c0 * g = a * g * sR c0 := Int.mul_right_comm ..
    rw [e1, e2, ← eb, ← ea, Int.mul_assoc]
    omega
theorem N15.of {n : Nat} {e : Nd} (h : NdOk n e) : N15 n e := ⟨h.ok, h.d0, by have := h.d5; omega, h.r0, h.r3⟩
theorem N15.trip {n : Nat} {e : Nd} (h : NdOk n e) : N15 n (trip e) := by
  have := h.d0; have := h.d5
  exact ⟨h.ok, by simp only [SE.trip]; omega, by simp only [SE.trip]; omega, h.r0, h.r3⟩
theorem N15.rowd {n : Nat} {e : Nd} (h : NdOk n e) (hr : e.r < 2) : N15 n (rowd e) := by
  have := h.d5; have := h.r0
  exact ⟨h.ok, h.d0, by simp only [SE.rowd]; omega, by simp only [SE.rowd]; omega, by simp only [SE.rowd]; omega⟩
theorem never_trip {n : Nat} {es : List Nd} (he : ∀ e ∈ es, NdOk n e) (h : neverB n es = false) : neverB n (es.map trip) = false := by
  rw [← Bool.not_eq_true] at h ⊢
  refine fun z => h ((never_iff fun e m => (he e m).ok).mpr ?_)
  obtain ⟨x, c, hc, h1, h2⟩ := (never_iff (fun e m => by
    obtain ⟨f, hf, rfl⟩ := List.mem_map.mp m
    exact (he f hf).ok)).mp z
  obtain ⟨c0, rfl, hc0⟩ := circ_unmap (f := SE.trip) (fun _ => rfl) (fun _ => rfl) hc
  rw [sD_trip] at h2
  rw [sR_trip] at h1
  exact ⟨x, c0, hc0, h1, by omega⟩
def farOf (es : List Nd) : List Nd := (es.filter fun e => decide (e.r < 2)).map rowd
theorem never_far {n : Nat} {es : List Nd} (he : ∀ e ∈ es, NdOk n e) (h : neverB n es = false) : neverB n (farOf es) = false := by
  rw [← Bool.not_eq_true] at h ⊢
  refine fun z => h ((never_iff fun e m => (he e m).ok).mpr ?_)
  obtain ⟨x, c, hc, h1, h2⟩ := (never_iff (fun e m => by
    obtain ⟨f, hf, rfl⟩ := List.mem_map.mp m
    exact (he f (List.mem_filter.mp hf).1).ok)).mp z
  obtain ⟨c0, rfl, hc0⟩ := circ_unmap (f := SE.rowd) (fun _ => rfl) (fun _ => rfl) hc
  rw [sD_rowd] at h2
  rw [sR_rowd] at h1
  exact ⟨x, c0, circ_sub (fun e m => (List.mem_filter.mp m).1) hc0, by omega, h2⟩
theorem lx_rowd {e f : Nd} (h : HT.lexLt (Nd.row e) (Nd.row f) = true) : HT.lexLt (Nd.row (rowd e)) (Nd.row (rowd f)) = true := by
  simp only [Nd.row, rowd, HT.lexLt_cons] at h ⊢
  by_cases h1 : (e.a : Int) = (f.a : Int)
  · rw [if_pos h1] at h ⊢
    by_cases h2 : (e.b : Int) = (f.b : Int)
    · rw [if_pos h2] at h ⊢
      by_cases h3 : e.d = f.d
      · rw [if_pos h3] at h ⊢
        by_cases h4 : e.r = f.r
        · rw [if_pos h4] at h
          rw [if_pos (by omega)]
          exact h
        · rw [if_neg h4] at h
          rw [if_neg (by omega)]
          have := of_decide_eq_true h
          exact decide_eq_true (by omega)
      · rw [if_neg h3] at h ⊢
        exact h
    · rw [if_neg h2] at h ⊢
      exact h
  · rw [if_neg h1] at h ⊢
    exact h
theorem far_sorted {es : List Nd} (h : Lx (es.map Nd.row)) : sortA ((farOf es).map Nd.row) = (farOf es).map Nd.row := by
  refine lw_uniq (lw_sortA _) ?_ (perm_sortA _)
  rw [Lx, List.pairwise_map] at h
  have h2 : (es.filter fun e => decide (e.r < 2)).Pairwise fun a b => HT.lexLt (Nd.row a) (Nd.row b) = true := h.filter _
  rw [Lw, farOf, List.map_map, List.pairwise_map]
  exact h2.imp fun z => lx_asym (lx_rowd z)
theorem sorttups_ok {rows : List (List Int)} (ok : tupsOk 4 rows = true) (hl : rows.length < 64) : dSortTups (.list (rows.map tupI)) = some ((sortA rows).map tupI) := by
  have : rows.length < 64 ∧ (∃ d ∈ List.range 16, 1 ≤ d ∧ tupsOk d rows = true) := ⟨hl, 4, by decide, by decide, ok⟩
  simp only [dSortTups, asTups_rows, Option.bind_some]
  rw [if_pos this]
theorem far_ok {n : Nat} {es : List Nd} (he : ∀ e ∈ es, NdOk n e) (hn : n < 1000) (h : Lx (es.map Nd.row)) (hl : es.length < 64) : dSortTups (.list ((farOf es).map Nd.D)) = some ((farOf es).map Nd.D) := by
  have m1 : ∀ l : List Nd, l.map Nd.D = (l.map Nd.row).map tupI := fun l => by rw [List.map_map]; rfl
  have ll : (farOf es).length ≤ es.length := by rw [farOf, List.length_map]; exact List.length_filter_le _ _
  rw [m1, sorttups_ok ?_ (by rw [List.length_map]; omega), far_sorted h]
  refine List.all_eq_true.mpr fun r hr => ?_
  obtain ⟨e, hm, rfl⟩ := List.mem_map.mp hr
  obtain ⟨f, hf, rfl⟩ := List.mem_map.mp hm
  have k := he f (List.mem_filter.mp hf).1
  have := k.ok; have := k.d0; have := k.d5; have := k.r0; have := k.r3
  have ka : f.a < n := k.ok.1
  have kb : f.b < n := k.ok.2
  simp [Nd.row, rowd]
  omega
theorem wt_nonneg {w : Nd → Int} : ∀ {p : List Nd}, (∀ e ∈ p, 0 ≤ w e) → 0 ≤ wt w p
  | [], _ => by simp
  | e :: p, h => by
    have h1 := h e List.mem_cons_self
    have h2 := wt_nonneg (p := p) fun f m => h f (List.mem_cons_of_mem _ m)
    rw [wt_cons]
    omega
/-- the whole number at or above p / q -/
def ceilB (p q : Int) : Int := if 0 < p then (p - 1) / q + 1 else 0
theorem ceil_iff {p q b : Int} (hq : 0 < q) (hb : 1 ≤ b) : max 1 (ceilB p q) ≤ b ↔ p ≤ b * q := by
  unfold ceilB
  split
  · rename_i h
    have e : (p - 1) / q ≤ b - 1 ↔ p - 1 < b * q := by
      rw [Int.le_sub_one_iff, Int.ediv_lt_iff_lt_mul hq]
    constructor
    · intro z; have := e.mp (by omega); omega
    · intro z; have := e.mpr (by omega); omega
  · rename_i h
    have : 0 ≤ b * q := Int.mul_nonneg (by omega) (by omega)
    constructor <;> intro _ <;> omega
/-- a beat is kept by all circles -/
theorem kept_iff {n : Nat} {es : List Nd} {p q b : Int} (he : ∀ e ∈ es, EOk n e) (hr : ∀ e ∈ es, 0 ≤ e.r) (hB : BestW es p q) (hb : 1 ≤ b) : (∀ x c, Circ es x c → sD c ≤ sR c * b) ↔ neverB n es = false ∧ max 1 (ceilB p q) ≤ b := by
  rw [ceil_iff hB.q0 hb]
  have rn : ∀ x c, Circ es x c → 0 ≤ sR c := fun x c h => wt_nonneg fun e m => hr e (h.walk.mem e m)
  have q0 := hB.q0
  constructor
  · intro h
    constructor
    · rw [← Bool.not_eq_true]
      intro z
      obtain ⟨x, c, hc, h1, h2⟩ := (never_iff he).mp z
      have := h x c hc
      rw [h1, Int.zero_mul] at this
      omega
    · rcases hB.att with z | ⟨x, c, hc, hrr, e⟩
      · rw [z]; exact Int.mul_nonneg (by omega) (by omega)
      · refine Int.le_of_mul_le_mul_right (?_ : p * sR c ≤ b * q * sR c) hrr
        rw [← e]
        have e1 : b * q * sR c = sR c * b * q := by rw [Int.mul_comm, Int.mul_assoc]
        rw [e1]
        exact Int.mul_le_mul_of_nonneg_right (h x c hc) (by omega)
  · rintro ⟨h1, h2⟩ x c hc
    by_cases hz : sR c = 0
    · rw [hz, Int.zero_mul]
      apply Classical.byContradiction
      intro z
      have := (never_iff he).mpr ⟨x, c, hc, hz, by omega⟩
      rw [h1] at this
      cases this
    · have r0 := rn x c hc
      have u := hB.ub x c hc (by omega)
      refine Int.le_of_mul_le_mul_right (?_ : sD c * q ≤ sR c * b * q) q0
      have e1 : sR c * b * q = b * q * sR c := by rw [Int.mul_comm (b * q), Int.mul_assoc]
      rw [e1]
      exact Int.le_trans u (Int.mul_le_mul_of_nonneg_right h2 r0)
/-! ### rest, by circles -/
theorem kept_w {w : Nd → Int} {n : Nat} {es : List Nd} (he : ∀ e ∈ es, EOk n e) : (∃ t, (laps w es (n + 1) (start0 n)).1 = some t) ↔ ∀ x c, Circ es x c → wt w c ≤ 0 := by
  have k := rest_iff (w := w) he (Nat.le_succ n) (Nat.le_add_left 1 n)
  constructor
  · rintro ⟨t, ht⟩ x c hc
    obtain ⟨p, e, q, rfl, hr⟩ := circ_ring he hc
    apply Classical.byContradiction
    intro z
    have := k.mpr ⟨_, hr, by have := wt_turn (w := w) p q e; rw [List.cons_append] at this; omega⟩
    rw [ht] at this
    cases this
  · intro h
    cases e : (laps w es (n + 1) (start0 n)).1 with
    | some t => exact ⟨t, rfl⟩
    | none =>
      obtain ⟨p, hp, pos⟩ := k.mp e
      have := h _ p (ring_circ hp)
      omega
theorem kept_beat {b : Int} {n : Nat} {es : List Nd} (he : ∀ e ∈ es, EOk n e) : (∃ t, timesOf b n es = some t) ↔ ∀ x c, Circ es x c → sD c ≤ sR c * b := by
  rw [timesOf, kept_w he]
  have e : ∀ c, wt (wb b) c = sD c - sR c * b := fun c => wt_wb b c
  constructor
  · intro h x c hc
    have := h x c hc
    rw [e] at this
    omega
  · intro h x c hc
    have := h x c hc
    rw [e]
    omega
theorem kept_ratio {t b : Int} {n : Nat} {es : List Nd} (he : ∀ e ∈ es, EOk n e) : (∃ s, (laps (fun e => e.d * b - e.r * t) es (n + 1) (start0 n)).1 = some s) ↔ ∀ x c, Circ es x c → sD c * b ≤ sR c * t := by
  rw [kept_w he]
  constructor
  · intro h x c hc
    have := h x c hc
    rw [wt_ratio] at this
    omega
  · intro h x c hc
    have := h x c hc
    rw [wt_ratio]
    omega
/-- near, far = far, near % far -/
theorem euclid {c : PyData × PyData → R Bool} {f : PyData × PyData → R (Fl PyData (PyData × PyData) (PyData × PyData))} (hc : ∀ a b : Int, c (.int a, .int b) = .ok (!decide (b = 0))) (hf : ∀ a b : Int, b ≠ 0 → f (.int a, .int b) = .ok (.nx (.int b, .int (a.fmod b)))) :
    ∀ (k : Nat) (a b : Nat), b < k → whileR (B := Empty) c f k (.int (a : Nat), .int (b : Nat)) = .ok (.nx (.int (Nat.gcd a b : Nat), .int 0))
  | 0, _, _, h => absurd h (Nat.not_lt_zero _)
  | k + 1, a, b, h => by
    rw [whileR, hc]
    by_cases z : b = 0
    · subst z
      simp
    · have z' : ((b : Nat) : Int) ≠ 0 := by omega
      have e : ((a : Nat) : Int).fmod ((b : Nat) : Int) = ((a % b : Nat) : Int) := by
        rw [Int.fmod_eq_emod_of_nonneg _ (by omega)]
        rfl
      have ih := euclid hc hf k b (a % b) (by have := Nat.mod_lt a (show 0 < b by omega); omega)
      simp only [z', decide_false, Bool.not_false, R.bind_ok, if_true, hf _ _ z', e, ih]
      rw [Nat.gcd_comm b, ← Nat.gcd_rec, Nat.gcd_comm]
theorem calm_ok {A : Type} (a : A) : (R.ok a).calm = R.ok a := of_eq_true (eq_self _)
end SE

set_option maxHeartbeats 4000000
namespace K64
open PySem PySem.Spec PyProof.Rows L2 SE
def topS (i : Nat) : Stmt := PySem.Challenge.pw_loopplaces_k64_main_the_least_beat.main.body.getD i (.Pass ⟨0, 0, 0, 0⟩)
structure Top (P : Program) (w : World) (K : PySem.W.Frag) (mg : Str → Option Value) (base : Heap) (tabs : List (Addr × Str)) where
  fis_number : Addr
  dis_number : FuncData
  Fis_number : Fun K "is_number" "is_number" (topS 3) fis_number dis_number
  gis_number : mg "is_number" = some (.ref fis_number)
  bis_number : Binds K dis_number ["thing"] []
  fis_tuple_of : Addr
  dis_tuple_of : FuncData
  Fis_tuple_of : Fun K "is_tuple_of" "is_tuple_of" (topS 6) fis_tuple_of dis_tuple_of
  gis_tuple_of : mg "is_tuple_of" = some (.ref fis_tuple_of)
  bis_tuple_of : Binds K dis_tuple_of ["thing", "many"] []
  fgap : Addr
  dgap : FuncData
  Fgap : Fun K "gap" "gap" (topS 12) fgap dgap
  ggap : mg "gap" = some (.ref fgap)
  bgap : Binds K dgap ["beat", "times", "need"] []
  fis_times : Addr
  dis_times : FuncData
  Fis_times : Fun K "is_times" "is_times" (topS 13) fis_times dis_times
  gis_times : mg "is_times" = some (.ref fis_times)
  bis_times : Binds K dis_times ["work", "beat", "thing"] []
  fset_of : Addr
  dset_of : FuncData
  Fset_of : Fun K "set_of" "set_of" (topS 7) fset_of dset_of
  gset_of : mg "set_of" = some (.ref fset_of)
  bset_of : Binds K dset_of ["things"] []
  fis_from : Addr
  dis_from : FuncData
  Fis_from : Fun K "is_from" "is_from" (topS 4) fis_from dis_from
  gis_from : mg "is_from" = some (.ref fis_from)
  bis_from : Binds K dis_from ["thing", "least"] []
  fis_below : Addr
  dis_below : FuncData
  Fis_below : Fun K "is_below" "is_below" (topS 5) fis_below dis_below
  gis_below : mg "is_below" = some (.ref fis_below)
  bis_below : Binds K dis_below ["thing", "many"] []
  fis_need : Addr
  dis_need : FuncData
  Fis_need : Fun K "is_need" "is_need" (topS 11) fis_need dis_need
  gis_need : mg "is_need" = some (.ref fis_need)
  bis_need : Binds K dis_need ["many", "thing"] []
  ftupled : Addr
  dtupled : FuncData
  Ftupled : Fun K "tupled" "tupled" (topS 2) ftupled dtupled
  gtupled : mg "tupled" = some (.ref ftupled)
  btupled : Binds K dtupled ["thing"] []
  fhas_needs : Addr
  dhas_needs : FuncData
  Fhas_needs : Fun K "has_needs" "has_needs" (topS 15) fhas_needs dhas_needs
  ghas_needs : mg "has_needs" = some (.ref fhas_needs)
  bhas_needs : Binds K dhas_needs ["work", "some"] []
  fis_circle : Addr
  dis_circle : FuncData
  Fis_circle : Fun K "is_circle" "is_circle" (topS 14) fis_circle dis_circle
  gis_circle : mg "is_circle" = some (.ref fis_circle)
  bis_circle : Binds K dis_circle ["work", "thing"] []
  fsums_of : Addr
  dsums_of : FuncData
  Fsums_of : Fun K "sums_of" "sums_of" (topS 16) fsums_of dsums_of
  gsums_of : mg "sums_of" = some (.ref fsums_of)
  bsums_of : Binds K dsums_of ["needs"] []
  fbars : Addr
  dbars : FuncData
  Fbars : Fun K "bars" "bars" (topS 17) fbars dbars
  gbars : mg "bars" = some (.ref fbars)
  bbars : Binds K dbars ["work", "beat", "thing"] []
  fpushed : Addr
  dpushed : FuncData
  Fpushed : Fun K "pushed" "pushed" (topS 18) fpushed dpushed
  gpushed : mg "pushed" = some (.ref fpushed)
  bpushed : Binds K dpushed ["work", "weigh"] []
  ftimes_of : Addr
  dtimes_of : FuncData
  Ftimes_of : Fun K "times_of" "times_of" (topS 22) ftimes_of dtimes_of
  gtimes_of : mg "times_of" = some (.ref ftimes_of)
  btimes_of : Binds K dtimes_of ["work", "beat"] []
  ctimes_of : Addr
  Ptimes_of : Addr
  Ctimes_of : FunC K "times_of" "times_of" (topS 22) ftimes_of dtimes_of ctimes_of
  ttimes_of : LamX.TabB base mg ctimes_of Ptimes_of
  mtimes_of : (Ptimes_of, (("times_of" : Str) ++ ".<locals>." ++ "<lambda>")) ∈ tabs
  utimes_of : ∀ p ∈ tabs, p.1 = Ptimes_of → p.2 = (("times_of" : Str) ++ ".<locals>." ++ "<lambda>")
  fback_from : Addr
  dback_from : FuncData
  Fback_from : Fun K "back_from" "back_from" (topS 20) fback_from dback_from
  gback_from : mg "back_from" = some (.ref fback_from)
  bback_from : Binds K dback_from ["last", "task", "many"] []
  fcircle_at : Addr
  dcircle_at : FuncData
  Fcircle_at : Fun K "circle_at" "circle_at" (topS 21) fcircle_at dcircle_at
  gcircle_at : mg "circle_at" = some (.ref fcircle_at)
  bcircle_at : Binds K dcircle_at ["last", "task"] []
  fcircle_above : Addr
  dcircle_above : FuncData
  Fcircle_above : Fun K "circle_above" "circle_above" (topS 19) fcircle_above dcircle_above
  gcircle_above : mg "circle_above" = some (.ref fcircle_above)
  bcircle_above : Binds K dcircle_above ["work", "top", "bottom"] []
  ccircle_above : Addr
  Pcircle_above : Addr
  Ccircle_above : FunC K "circle_above" "circle_above" (topS 19) fcircle_above dcircle_above ccircle_above
  tcircle_above : LamX.TabB base mg ccircle_above Pcircle_above
  mcircle_above : (Pcircle_above, (("circle_above" : Str) ++ ".<locals>." ++ "<lambda>")) ∈ tabs
  ucircle_above : ∀ p ∈ tabs, p.1 = Pcircle_above → p.2 = (("circle_above" : Str) ++ ".<locals>." ++ "<lambda>")
  fa_circle : Addr
  da_circle : FuncData
  Fa_circle : Fun K "a_circle" "a_circle" (topS 23) fa_circle da_circle
  ga_circle : mg "a_circle" = some (.ref fa_circle)
  ba_circle : Binds K da_circle ["work", "beat"] []
  fleast_beat : Addr
  dleast_beat : FuncData
  Fleast_beat : Fun K "least_beat" "least_beat" (topS 24) fleast_beat dleast_beat
  gleast_beat : mg "least_beat" = some (.ref fleast_beat)
  bleast_beat : Binds K dleast_beat ["work"] []
  fgreatest_ratio : Addr
  dgreatest_ratio : FuncData
  Fgreatest_ratio : Fun K "greatest_ratio" "greatest_ratio" (topS 25) fgreatest_ratio dgreatest_ratio
  ggreatest_ratio : mg "greatest_ratio" = some (.ref fgreatest_ratio)
  bgreatest_ratio : Binds K dgreatest_ratio ["work"] []
  f_law_box : Addr
  d_law_box : FuncData
  F_law_box : Fun K "_law_box" "_law_box" (topS 27) f_law_box d_law_box
  g_law_box : mg "_law_box" = some (.ref f_law_box)
  b_law_box : Binds K d_law_box ["script", "k"] []
  f_law_cells : Addr
  d_law_cells : FuncData
  F_law_cells : Fun K "_law_cells" "_law_cells" (topS 29) f_law_cells d_law_cells
  g_law_cells : mg "_law_cells" = some (.ref f_law_cells)
  b_law_cells : Binds K d_law_cells ["script", "many"] []
  f_law_take : Addr
  d_law_take : FuncData
  F_law_take : Fun K "_law_take" "_law_take" (topS 28) f_law_take d_law_take
  g_law_take : mg "_law_take" = some (.ref f_law_take)
  b_law_take : Binds K d_law_take ["urn", "below"] []
  f_law_mixed : Addr
  d_law_mixed : FuncData
  F_law_mixed : Fun K "_law_mixed" "_law_mixed" (topS 30) f_law_mixed d_law_mixed
  g_law_mixed : mg "_law_mixed" = some (.ref f_law_mixed)
  b_law_mixed : Binds K d_law_mixed ["urn", "matter"] []
  f_law_same : Addr
  d_law_same : FuncData
  F_law_same : Fun K "_law_same" "_law_same" (topS 31) f_law_same d_law_same
  g_law_same : mg "_law_same" = some (.ref f_law_same)
  b_law_same : Binds K d_law_same ["got", "due"] []
  f_law_work : Addr
  d_law_work : FuncData
  F_law_work : Fun K "_law_work" "_law_work" (topS 32) f_law_work d_law_work
  g_law_work : mg "_law_work" = some (.ref f_law_work)
  b_law_work : Binds K d_law_work ["urn", "most", "wide"] []
  f_law_rings : Addr
  d_law_rings : FuncData
  F_law_rings : Fun K "_law_rings" "_law_rings" (topS 33) f_law_rings d_law_rings
  g_law_rings : mg "_law_rings" = some (.ref f_law_rings)
  b_law_rings : Binds K d_law_rings ["work"] []
  f_law_sums : Addr
  d_law_sums : FuncData
  F_law_sums : Fun K "_law_sums" "_law_sums" (topS 34) f_law_sums d_law_sums
  g_law_sums : mg "_law_sums" = some (.ref f_law_sums)
  b_law_sums : Binds K d_law_sums ["needs"] []
  f_law_heard : Addr
  d_law_heard : FuncData
  F_law_heard : Fun K "_law_heard" "_law_heard" (topS 35) f_law_heard d_law_heard
  g_law_heard : mg "_law_heard" = some (.ref f_law_heard)
  b_law_heard : Binds K d_law_heard ["call"] []
  f_law_low : Addr
  d_law_low : FuncData
  F_law_low : Fun K "_law_low" "_law_low" (topS 36) f_law_low d_law_low
  g_law_low : mg "_law_low" = some (.ref f_law_low)
  b_law_low : Binds K d_law_low ["top", "bottom"] []
  flaw : Addr
  dlaw : FuncData
  Flaw : Fun K "law" "law" (topS 37) flaw dlaw
  glaw : mg "law" = some (.ref flaw)
  blaw : Binds K dlaw ["script"] []
  claw : Addr
  Plaw : Addr
  Claw : FunC K "law" "law" (topS 37) flaw dlaw claw
  tlaw : LamX.TabB base mg claw Plaw
  mlaw : (Plaw, (("law" : Str) ++ ".<locals>." ++ "<lambda>")) ∈ tabs
  ulaw : ∀ p ∈ tabs, p.1 = Plaw → p.2 = (("law" : Str) ++ ".<locals>." ++ "<lambda>")
  zlen : mg "len" = none
  zsum : mg "sum" = none
  zmax : mg "max" = none
  zabs : mg "abs" = none
  zall : mg "all" = none
  zint : mg "int" = none
  ztuple : mg "tuple" = none
  zlist : mg "list" = none
  zisinstance : mg "isinstance" = none
  zrange : mg "range" = none
  zzip : mg "zip" = none
  zenumerate : mg "enumerate" = none
  zsorted : mg "sorted" = none
  zset : mg "set" = none
  zbool : mg "bool" = none
  zstr : mg "str" = none
  cUnfit : Addr
  xUnfit : ExcF K mg "Unfit" cUnfit
  ggcd : mg "gcd" = some (.builtin "math.gcd")
section
variable {P : Program} {w : World} {K : PySem.W.Frag} {mg : Str → Option Value} {base : Heap} {tabs : List (Addr × Str)}
def Top.cls (T : Top P w K mg base tabs) : Str → Option Addr := fun x => if x = "Unfit" then some T.cUnfit else none
theorem Top.cls_Unfit (T : Top P w K mg base tabs) : T.cls "Unfit" = some T.cUnfit := if_pos rfl
abbrev sis_number : Stmt := topS 3
theorem scis_number : FnScope ["thing"] ["thing"] (defScope sis_number) := ⟨rfl, rfl, rfl, by decide +kernel, rfl, by decide +kernel, by decide +kernel⟩
def ris_number : List PyData → R (Fl PyData Empty Empty)
  | [a0] => (((((R.ok a0).bind (tyR "int")).bind asB).bind fun k => if k = true then ((((R.ok a0).bind (tyR "bool")).bind asB).bind fun k => R.ok (PyData.bool (!k))) else R.ok (PyData.bool false)).bind fun d => .ok (.rt (id d)))
  | _ => .no
def mis_number (ds : List PyData) : R PyData := (ris_number ds).bind outF
theorem okis_number (T : Top P w K mg base tabs) : FnOk P w K mg base CX0 1 T.fis_number T.dis_number ["thing"] (spF K tabs 1 mis_number) := by
  refine fn_F T.Fis_number scis_number ris_number (fun _ => rfl) fun ds hl cdv A outer s H E hr => ?_
  match ds, hl with
  | [a0], _ => exact EvB.cast (eb_ret (ev_and (ev_isi kt_int (by rfl) T.zisinstance (ev_var 0 rfl (pv 0)) (pe_bltn (by rfl) T.zint (by decide +kernel) (v := .ty "int") rfl)) (ev_one (ev_not (ev_isi kt_bool (by rfl) T.zisinstance (ev_var 0 rfl (pv 0)) (pe_bltn (by rfl) T.zbool (by decide +kernel) (v := .ty "bool") rfl))))) id (fun _ => le_none _)) (by first | (dsimp only [ris_number]; done) | rfl)
abbrev sis_tuple_of : Stmt := topS 6
theorem scis_tuple_of : FnScope ["thing", "many"] ["thing", "many"] (defScope sis_tuple_of) := ⟨rfl, rfl, rfl, by decide +kernel, rfl, by decide +kernel, by decide +kernel⟩
def ris_tuple_of : List PyData → R (Fl PyData Empty Empty)
  | [a0, a1] => (((((R.ok a0).bind (tyR "tuple")).bind asB).bind fun k => if k = true then (((seqR [(R.ok a0)]).bind fun ds => R.of (dLen ds)).bind fun x1 => (R.ok a1).bind fun y2 => R.of (dEq x1 y2)) else R.ok (PyData.bool false)).bind fun d => .ok (.rt (id d)))
  | _ => .no
def mis_tuple_of (ds : List PyData) : R PyData := (ris_tuple_of ds).bind outF
theorem okis_tuple_of (T : Top P w K mg base tabs) : FnOk P w K mg base CX0 1 T.fis_tuple_of T.dis_tuple_of ["thing", "many"] (spF K tabs 2 mis_tuple_of) := by
  refine fn_F T.Fis_tuple_of scis_tuple_of ris_tuple_of (fun _ => rfl) fun ds hl cdv A outer s H E hr => ?_
  match ds, hl with
  | [a0, a1], _ => exact EvB.cast (eb_ret (ev_and (ev_isi kt_tuple (by rfl) T.zisinstance (ev_var 0 rfl (pv 0)) (pe_bltn (by rfl) T.ztuple (by decide +kernel) (v := .ty "tuple") rfl)) (ev_one (ev_cmp (op_eqD (Room.hu64 hr)) od_eq (ev_bi cx_len (by rfl) T.zlen (by decide +kernel) (ea_cons (ev_var 0 rfl (pv 0)) ea_nil)) (ev_var 1 rfl (pv 1)) (nomark _)))) id (fun _ => le_none _)) (by first | (dsimp only [ris_tuple_of]; done) | rfl)
abbrev sgap : Stmt := topS 12
theorem scgap : FnScope ["beat", "times", "need", "one", "other", "delay", "rounds"] ["beat", "times", "need"] (defScope sgap) := ⟨rfl, rfl, rfl, by decide +kernel, rfl, by decide +kernel, by decide +kernel⟩
def rgap : List PyData → R (Fl PyData Empty Empty)
  | [a0, a1, a2] => ((R.ok a2).bind fun d4 => (R.of ((decTup (decCons (fun d => some d) (decCons (fun d => some d) (decCons (fun d => some d) (decOne (fun d => some d)))))) d4)).bind fun p3 => (((((R.ok a1).bind fun x5 => (R.ok p3.2.1).bind fun y6 => R.of (dIx x5 y6)).bind fun x9 => ((R.ok p3.2.2.2).bind fun x7 => (R.ok a0).bind fun y8 => R.of (dMul x7 y8)).bind fun y10 => R.of (dAdd x9 y10)).bind fun x13 => ((R.ok a1).bind fun x11 => (R.ok p3.1).bind fun y12 => R.of (dIx x11 y12)).bind fun y14 => R.of (dSub x13 y14)).bind fun d => .ok (.rt (id d))))
  | _ => .no
def mgap (ds : List PyData) : R PyData := (rgap ds).bind outF
theorem okgap (T : Top P w K mg base tabs) : FnOk P w K mg base CX0 1 T.fgap T.dgap ["beat", "times", "need"] (spF K tabs 3 mgap) := by
  refine fn_F T.Fgap scgap rgap (fun _ => rfl) fun ds hl cdv A outer s H E hr => ?_
  match ds, hl with
  | [a0, a1, a2], _ => exact EvB.cast (eb_unp (vs := [3, 4, 5, 6]) (ev_var 2 rfl (pv 2)) (eg_tup rfl (egs_cons (eg_name 3 (pg_name scgap.nd rfl (by first | exact Or.inl rfl | exact Or.inr rfl))) (egs_cons (eg_name 4 (pg_name scgap.nd rfl (by first | exact Or.inl rfl | exact Or.inr rfl))) (egs_cons (eg_name 5 (pg_name scgap.nd rfl (by first | exact Or.inl rfl | exact Or.inr rfl))) (egs_one (eg_name 6 (pg_name scgap.nd rfl (by first | exact Or.inl rfl | exact Or.inr rfl)))))))) (fun p3 => (eb_ret (ev_op op_sub od_sub (ev_op op_addX od_self (ev_ix (ev_var 1 rfl (pv 1)) (ev_var 4 rfl (pv 4)) (fun _ _ => rfl)) (ev_op op_mul od_mul (ev_var 6 rfl (pv 6)) (ev_var 0 rfl (pv 0)))) (ev_ix (ev_var 1 rfl (pv 1)) (ev_var 3 rfl (pv 3)) (fun _ _ => rfl))) id (fun _ => le_none _)))) (by first | (dsimp only [rgap]; done) | rfl)
abbrev sis_times : Stmt := topS 13
theorem scis_times : FnScope ["work", "beat", "thing", "need", "own"] ["work", "beat", "thing"] (defScope sis_times) := ⟨rfl, rfl, rfl, by decide +kernel, rfl, by decide +kernel, by decide +kernel⟩
def ris_times : List PyData → R (Fl PyData Empty Empty)
  | [a0, a1, a2] => ((((((seqR [(R.ok a2), ((R.ok a0).bind fun x17 => (R.ok (PyData.int 0)).bind fun y18 => R.of (dIx x17 y18))]).bind (mis_tuple_of)).bind asB).bind fun k => R.ok (!k)).bind fun k => if k = true then R.ok true else ((((seqR [((lcR ((R.ok a2).bind fun d => R.of (itemsD d)) (fun d => some d) (fun p19 => (R.ok true)) (fun p19 => ((seqR [(R.ok p19)]).bind (mis_number)))).bind fun ds => R.ok (PyData.list ds))]).bind fun ds => R.of (dAll ds)).bind asB).bind fun k => R.ok (!k))).bind fun k => if k = true then (((R.ok (PyData.bool false)).bind fun d => .ok (.rt (id d)))).bind retF else (((seqR [((lcR (((R.ok a0).bind fun x20 => (R.ok (PyData.int 1)).bind fun y21 => R.of (dIx x20 y21)).bind fun d => R.of (itemsD d)) (fun d => some d) (fun p22 => (R.ok true)) (fun p22 => (((seqR [(R.ok a1), (R.ok a2), (R.ok p22)]).bind (mgap)).bind fun x23 => ((R.ok p22).bind fun x25 => (R.ok (PyData.int 2)).bind fun y26 => R.of (dIx x25 y26)).bind fun y24 => R.of (dGeI x23 y24)))).bind fun ds => R.ok (PyData.list ds))]).bind fun ds => R.of (dAll ds)).bind fun d => .ok (.rt (id d))))
  | _ => .no
def mis_times (ds : List PyData) : R PyData := (ris_times ds).bind outF
theorem okis_times (T : Top P w K mg base tabs) : FnOk P w K mg base CX0 2 T.fis_times T.dis_times ["work", "beat", "thing"] (spF K tabs 3 mis_times) := by
  refine fn_F T.Fis_times scis_times ris_times (fun _ => rfl) fun ds hl cdv A outer s H E hr => ?_
  match ds, hl with
  | [a0, a1, a2], _ => exact EvB.cast (eb_ifr (ew_pt (ew_or (et_not (et_val (ev_call (FnOk.mono (okis_tuple_of T) (by decide)) hr T.gis_tuple_of T.Fis_tuple_of.kp T.bis_tuple_of (ea_cons (ev_var 2 rfl (pv 2)) (ea_cons (ev_ix (ev_var 0 rfl (pv 0)) ev_int (fun _ _ => rfl)) ea_nil)) (fun _ h => seqR_len h)))) (ew_or1 (et_not (et_val (ev_bi (cx_all rfl) (by rfl) T.zall (by decide +kernel) (ea_cons (ev_lc { hc := rfl, hN := scis_times.nd, hi := (ei_seq (ev_var 2 rfl (pv 2))), ok := ⟨[("own", 4)], blkOk_by (own := [("own", 4)]) (N := ["work", "beat", "thing", "need", "own"]) (sc := defScope sis_times) (by decide +kernel), rfl⟩, ho := rfl, hput := fun p i hi => (pk_name 4) p _ i hi, hg := fun _ _ _ _ _ => (eg_name 4 (pg_name scis_times.nd rfl (by first | exact Or.inl rfl | exact Or.inr rfl))), ht := fun _ _ _ _ _ p19 => ets_nil, he := fun _ _ _ _ _ p19 => (ev_call (FnOk.mono (okis_number T) (by decide)) hr T.gis_number T.Fis_number.kp T.bis_number (ea_cons (ev_var 4 rfl (pv 4)) ea_nil) (fun _ h => seqR_len h)), hs := fun _ => rfl }) ea_nil))))))) (eb_ret ev_bl id (fun _ => le_none _)) (eb_ret (ev_bi (cx_all rfl) (by rfl) T.zall (by decide +kernel) (ea_cons (ev_lc { hc := rfl, hN := scis_times.nd, hi := (ei_seq (ev_ix (ev_var 0 rfl (pv 0)) ev_int (fun _ _ => rfl))), ok := ⟨[("need", 3)], blkOk_by (own := [("need", 3)]) (N := ["work", "beat", "thing", "need", "own"]) (sc := defScope sis_times) (by decide +kernel), rfl⟩, ho := rfl, hput := fun p i hi => (pk_name 3) p _ i hi, hg := fun _ _ _ _ _ => (eg_name 3 (pg_name scis_times.nd rfl (by first | exact Or.inl rfl | exact Or.inr rfl))), ht := fun _ _ _ _ _ p22 => ets_nil, he := fun _ _ _ _ _ p22 => (ev_cmp op_ge od_cmp (ev_call (FnOk.mono (okgap T) (by decide)) hr T.ggap T.Fgap.kp T.bgap (ea_cons (ev_var 1 rfl (pv 1)) (ea_cons (ev_var 2 rfl (pv 2)) (ea_cons (ev_var 3 rfl (pv 3)) ea_nil))) (fun _ h => seqR_len h)) (ev_ix (ev_var 3 rfl (pv 3)) ev_int (fun _ _ => rfl)) (nomark _)), hs := fun _ => rfl }) ea_nil)) id (fun _ => le_none _))) (by first | (dsimp only [ris_times]; done) | rfl)
abbrev sset_of : Stmt := topS 7
theorem scset_of : FnScope ["things"] ["things"] (defScope sset_of) := ⟨rfl, rfl, rfl, by decide +kernel, rfl, by decide +kernel, by decide +kernel⟩
def rset_of : List PyData → R (Fl PyData Empty Empty)
  | [a0] => (((seqR [(((R.ok a0).bind fun d => R.of (dSortSet d)).bind fun ds => R.ok (PyData.list ds))]).bind fun ds => R.of (dTuple ds)).bind fun d => .ok (.rt (id d)))
  | _ => .no
def mset_of (ds : List PyData) : R PyData := (rset_of ds).bind outF
theorem okset_of (T : Top P w K mg base tabs) : FnOk P w K mg base CX0 1 T.fset_of T.dset_of ["things"] (spF K tabs 1 mset_of) := by
  refine fn_F T.Fset_of scset_of rset_of (fun _ => rfl) fun ds hl cdv A outer s H E hr => ?_
  match ds, hl with
  | [a0], _ => exact EvB.cast (eb_ret (ev_ty cx_tuple (by rfl) T.ztuple (by decide +kernel) (ea_cons (EvF.ev (ef_sortset (Room.hu64 hr) rfl T.zsorted T.zset (ev_var 0 rfl (pv 0)))) ea_nil)) id (fun _ => le_none _)) (by first | (dsimp only [rset_of]; done) | rfl)
abbrev sis_from : Stmt := topS 4
theorem scis_from : FnScope ["thing", "least"] ["thing", "least"] (defScope sis_from) := ⟨rfl, rfl, rfl, by decide +kernel, rfl, by decide +kernel, by decide +kernel⟩
def ris_from : List PyData → R (Fl PyData Empty Empty)
  | [a0, a1] => (((((seqR [(R.ok a0)]).bind (mis_number)).bind asB).bind fun k => if k = true then ((R.ok a0).bind fun x27 => (R.ok a1).bind fun y28 => R.of (dGeI x27 y28)) else R.ok (PyData.bool false)).bind fun d => .ok (.rt (id d)))
  | _ => .no
def mis_from (ds : List PyData) : R PyData := (ris_from ds).bind outF
theorem okis_from (T : Top P w K mg base tabs) : FnOk P w K mg base CX0 2 T.fis_from T.dis_from ["thing", "least"] (spF K tabs 2 mis_from) := by
  refine fn_F T.Fis_from scis_from ris_from (fun _ => rfl) fun ds hl cdv A outer s H E hr => ?_
  match ds, hl with
  | [a0, a1], _ => exact EvB.cast (eb_ret (ev_and (ev_call (FnOk.mono (okis_number T) (by decide)) hr T.gis_number T.Fis_number.kp T.bis_number (ea_cons (ev_var 0 rfl (pv 0)) ea_nil) (fun _ h => seqR_len h)) (ev_one (ev_cmp op_ge od_cmp (ev_var 0 rfl (pv 0)) (ev_var 1 rfl (pv 1)) (nomark _)))) id (fun _ => le_none _)) (by first | (dsimp only [ris_from]; done) | rfl)
abbrev sis_below : Stmt := topS 5
theorem scis_below : FnScope ["thing", "many"] ["thing", "many"] (defScope sis_below) := ⟨rfl, rfl, rfl, by decide +kernel, rfl, by decide +kernel, by decide +kernel⟩
def ris_below : List PyData → R (Fl PyData Empty Empty)
  | [a0, a1] => (((((seqR [(R.ok a0)]).bind (mis_number)).bind asB).bind fun k => if k = true then ((R.ok (PyData.int 0)).bind fun x29 => (R.ok a0).bind fun y30 => (R.of (dLeI x29 y30)).bind (chainR (R.ok a1) dLtI y30)) else R.ok (PyData.bool false)).bind fun d => .ok (.rt (id d)))
  | _ => .no
def mis_below (ds : List PyData) : R PyData := (ris_below ds).bind outF
theorem okis_below (T : Top P w K mg base tabs) : FnOk P w K mg base CX0 2 T.fis_below T.dis_below ["thing", "many"] (spF K tabs 2 mis_below) := by
  refine fn_F T.Fis_below scis_below ris_below (fun _ => rfl) fun ds hl cdv A outer s H E hr => ?_
  match ds, hl with
  | [a0, a1], _ => exact EvB.cast (eb_ret (ev_and (ev_call (FnOk.mono (okis_number T) (by decide)) hr T.gis_number T.Fis_number.kp T.bis_number (ea_cons (ev_var 0 rfl (pv 0)) ea_nil) (fun _ h => seqR_len h)) (ev_one (ev_chain op_le od_cmp op_lt od_cmp ev_int (ev_var 0 rfl (pv 0)) (ev_var 1 rfl (pv 1))))) id (fun _ => le_none _)) (by first | (dsimp only [ris_below]; done) | rfl)
abbrev sis_need : Stmt := topS 11
theorem scis_need : FnScope ["many", "thing", "own"] ["many", "thing"] (defScope sis_need) := ⟨rfl, rfl, rfl, by decide +kernel, rfl, by decide +kernel, by decide +kernel⟩
def ris_need : List PyData → R (Fl PyData Empty Empty)
  | [a0, a1] => ((((((seqR [(R.ok a1), (R.ok (PyData.int 4))]).bind (mis_tuple_of)).bind asB).bind fun k => R.ok (!k)).bind fun k => if k = true then R.ok true else ((((seqR [((lcR (((R.ok a1).bind fun d => (R.ok none).bind fun l => ((R.ok (PyData.int 2)).bind asI).bind fun h => R.of (dSlice d l h)).bind fun d => R.of (itemsD d)) (fun d => some d) (fun p31 => (R.ok true)) (fun p31 => ((seqR [(R.ok p31), (R.ok a0)]).bind (mis_below)))).bind fun ds => R.ok (PyData.list ds))]).bind fun ds => R.of (dAll ds)).bind asB).bind fun k => R.ok (!k))).bind fun k => if k = true then (((R.ok (PyData.bool false)).bind fun d => .ok (.rt (id d)))).bind retF else (((seqR [((lcR (((R.ok a1).bind fun d => ((R.ok (PyData.int 2)).bind asI).bind fun l => (R.ok none).bind fun h => R.of (dSlice d l h)).bind fun d => R.of (itemsD d)) (fun d => some d) (fun p32 => (R.ok true)) (fun p32 => ((seqR [(R.ok p32), (R.ok (PyData.int 0))]).bind (mis_from)))).bind fun ds => R.ok (PyData.list ds))]).bind fun ds => R.of (dAll ds)).bind fun d => .ok (.rt (id d))))
  | _ => .no
def mis_need (ds : List PyData) : R PyData := (ris_need ds).bind outF
theorem okis_need (T : Top P w K mg base tabs) : FnOk P w K mg base CX0 3 T.fis_need T.dis_need ["many", "thing"] (spF K tabs 2 mis_need) := by
  refine fn_F T.Fis_need scis_need ris_need (fun _ => rfl) fun ds hl cdv A outer s H E hr => ?_
  match ds, hl with
  | [a0, a1], _ => exact EvB.cast (eb_ifr (ew_pt (ew_or (et_not (et_val (ev_call (FnOk.mono (okis_tuple_of T) (by decide)) hr T.gis_tuple_of T.Fis_tuple_of.kp T.bis_tuple_of (ea_cons (ev_var 1 rfl (pv 1)) (ea_cons ev_int ea_nil)) (fun _ h => seqR_len h)))) (ew_or1 (et_not (et_val (ev_bi (cx_all rfl) (by rfl) T.zall (by decide +kernel) (ea_cons (ev_lc { hc := rfl, hN := scis_need.nd, hi := (ei_seq (ev_sl (ev_var 1 rfl (pv 1)) eo_none (eo_some ev_int))), ok := ⟨[("own", 2)], blkOk_by (own := [("own", 2)]) (N := ["many", "thing", "own"]) (sc := defScope sis_need) (by decide +kernel), rfl⟩, ho := rfl, hput := fun p i hi => (pk_name 2) p _ i hi, hg := fun _ _ _ _ _ => (eg_name 2 (pg_name scis_need.nd rfl (by first | exact Or.inl rfl | exact Or.inr rfl))), ht := fun _ _ _ _ _ p31 => ets_nil, he := fun _ _ _ _ _ p31 => (ev_call (FnOk.mono (okis_below T) (by decide)) hr T.gis_below T.Fis_below.kp T.bis_below (ea_cons (ev_var 2 rfl (pv 2)) (ea_cons (ev_var 0 rfl (pv 0)) ea_nil)) (fun _ h => seqR_len h)), hs := fun _ => rfl }) ea_nil))))))) (eb_ret ev_bl id (fun _ => le_none _)) (eb_ret (ev_bi (cx_all rfl) (by rfl) T.zall (by decide +kernel) (ea_cons (ev_lc { hc := rfl, hN := scis_need.nd, hi := (ei_seq (ev_sl (ev_var 1 rfl (pv 1)) (eo_some ev_int) eo_none)), ok := ⟨[("own", 2)], blkOk_by (own := [("own", 2)]) (N := ["many", "thing", "own"]) (sc := defScope sis_need) (by decide +kernel), rfl⟩, ho := rfl, hput := fun p i hi => (pk_name 2) p _ i hi, hg := fun _ _ _ _ _ => (eg_name 2 (pg_name scis_need.nd rfl (by first | exact Or.inl rfl | exact Or.inr rfl))), ht := fun _ _ _ _ _ p32 => ets_nil, he := fun _ _ _ _ _ p32 => (ev_call (FnOk.mono (okis_from T) (by decide)) hr T.gis_from T.Fis_from.kp T.bis_from (ea_cons (ev_var 2 rfl (pv 2)) (ea_cons ev_int ea_nil)) (fun _ h => seqR_len h)), hs := fun _ => rfl }) ea_nil)) id (fun _ => le_none _))) (by first | (dsimp only [ris_need]; done) | rfl)
abbrev stupled : Stmt := topS 2
theorem sctupled : FnScope ["thing", "part"] ["thing"] (defScope stupled) := ⟨rfl, rfl, rfl, by decide +kernel, rfl, by decide +kernel, by decide +kernel⟩
def rtupled (mtupled : Nat → List PyData → R PyData) (n : Nat) : List PyData → R (Fl PyData Empty Empty)
  | [a0] => ((((R.ok a0).bind (tyR2 "list" "tuple")).bind asB).bind fun k => if k = true then ((((seqR [((lcR ((R.ok a0).bind fun d => R.of (itemsD d)) (fun d => some d) (fun p33 => (R.ok true)) (fun p33 => ((seqR [(R.ok p33)]).bind (mtupled n)))).bind fun ds => R.ok (PyData.list ds))]).bind fun ds => R.of (dTuple ds)).bind fun d => .ok (.rt (id d)))).bind retF else ((R.ok a0).bind fun d => .ok (.rt (id d))))
  | _ => .no
def mtupled : Nat → List PyData → R PyData
  | 0, _ => .no
  | n + 1, ds => (rtupled (fun _ => mtupled n) n ds).bind outF
theorem oktupled (T : Top P w K mg base tabs) : ∀ n : Nat, FnOk P w K mg base CX0 (n + 1) T.ftupled T.dtupled ["thing"] (spF K tabs 1 (mtupled n))
  | 0 => by
    refine FnOk.mono (j := 0 + 1) (fn_F (k := 0) T.Ftupled sctupled (fun _ => .no) (fun _ => rfl) fun _ _ _ _ _ _ _ _ _ => ⟨⟨fun _ _ _ _ _ _ q => by obtain ⟨_, _, _, _, q⟩ := q; exact q.elim⟩⟩) (by omega)
  | n + 1 => by
    have ih := oktupled T n
    refine FnOk.mono (j := (n + 1) + 1) (fn_F T.Ftupled sctupled (rtupled (fun _ => mtupled n) n) (fun _ => rfl) fun ds hl cdv A outer s H E hr => ?_) (by omega)
    match ds, hl with
    | [a0], _ => exact EvB.cast (eb_ifr (et_val (ev_isi2 kt_list kt_tuple (by rfl) T.zisinstance (ev_var 0 rfl (pv 0)) (pe_bltn (by rfl) T.zlist (by decide +kernel) (v := .ty "list") rfl) (pe_bltn (by rfl) T.ztuple (by decide +kernel) (v := .ty "tuple") rfl))) (eb_ret (ev_ty cx_tuple (by rfl) T.ztuple (by decide +kernel) (ea_cons (ev_lc { hc := rfl, hN := sctupled.nd, hi := (ei_seq (ev_var 0 rfl (pv 0))), ok := ⟨[("part", 1)], blkOk_by (own := [("part", 1)]) (N := ["thing", "part"]) (sc := defScope stupled) (by decide +kernel), rfl⟩, ho := rfl, hput := fun p i hi => (pk_name 1) p _ i hi, hg := fun _ _ _ _ _ => (eg_name 1 (pg_name sctupled.nd rfl (by first | exact Or.inl rfl | exact Or.inr rfl))), ht := fun _ _ _ _ _ p33 => ets_nil, he := fun _ _ _ _ _ p33 => (ev_call ih hr T.gtupled T.Ftupled.kp T.btupled (ea_cons (ev_var 1 rfl (pv 1)) ea_nil) (fun _ h => seqR_len h)), hs := fun _ => rfl }) ea_nil)) id (fun _ => le_none _)) (eb_ret (ev_var 0 rfl (pv 0)) id (fun _ => le_none _))) (by first | (dsimp only [rtupled]; done) | rfl)
abbrev shas_needs : Stmt := topS 15
theorem schas_needs : FnScope ["work", "some", "needs", "own"] ["work", "some"] (defScope shas_needs) := ⟨rfl, rfl, rfl, by decide +kernel, rfl, by decide +kernel, by decide +kernel⟩
def rhas_needs : List PyData → R (Fl PyData Empty Empty)
  | [a0, a1] => ((((seqR [(R.ok a0)]).bind (mtupled 10)).bind fun x35 => (R.ok (PyData.int 1)).bind fun y36 => R.of (dIx x35 y36)).bind fun v34 => (((seqR [((lcR ((R.ok a1).bind fun d => R.of (itemsD d)) (fun d => some d) (fun p37 => (R.ok true)) (fun p37 => ((((seqR [((R.ok a0).bind fun x38 => (R.ok (PyData.int 0)).bind fun y39 => R.of (dIx x38 y39)), (R.ok p37)]).bind (mis_need)).bind asB).bind fun k => if k = true then ((R.ok p37).bind fun x40 => (R.ok v34).bind fun y41 => R.of (dIn x40 y41)) else R.ok (PyData.bool false)))).bind fun ds => R.ok (PyData.list ds))]).bind fun ds => R.of (dAll ds)).bind fun d => .ok (.rt (id d))))
  | _ => .no
def mhas_needs (ds : List PyData) : R PyData := (rhas_needs ds).bind outF
theorem okhas_needs (T : Top P w K mg base tabs) : FnOk P w K mg base CX0 12 T.fhas_needs T.dhas_needs ["work", "some"] (spF K tabs 2 mhas_needs) := by
  refine fn_F T.Fhas_needs schas_needs rhas_needs (fun _ => rfl) fun ds hl cdv A outer s H E hr => ?_
  match ds, hl with
  | [a0, a1], _ => exact EvB.cast (eb_set 2 schas_needs.nd (ev_ix (ev_call (FnOk.mono (oktupled T 10) (by decide)) hr T.gtupled T.Ftupled.kp T.btupled (ea_cons (ev_var 0 rfl (pv 0)) ea_nil) (fun _ h => seqR_len h)) ev_int (fun _ _ => rfl)) (fun v34 => (eb_ret (ev_bi (cx_all rfl) (by rfl) T.zall (by decide +kernel) (ea_cons (ev_lc { hc := rfl, hN := schas_needs.nd, hi := (ei_seq (ev_var 1 rfl (pv 1))), ok := ⟨[("own", 3)], blkOk_by (own := [("own", 3)]) (N := ["work", "some", "needs", "own"]) (sc := defScope shas_needs) (by decide +kernel), rfl⟩, ho := rfl, hput := fun p i hi => (pk_name 3) p _ i hi, hg := fun _ _ _ _ _ => (eg_name 3 (pg_name schas_needs.nd rfl (by first | exact Or.inl rfl | exact Or.inr rfl))), ht := fun _ _ _ _ _ p37 => ets_nil, he := fun _ _ _ _ _ p37 => (ev_and (ev_call (FnOk.mono (okis_need T) (by decide)) hr T.gis_need T.Fis_need.kp T.bis_need (ea_cons (ev_ix (ev_var 0 rfl (pv 0)) ev_int (fun _ _ => rfl)) (ea_cons (ev_var 3 rfl (pv 3)) ea_nil)) (fun _ h => seqR_len h)) (ev_one (ev_cmp (op_inX (Room.hu hr)) od_self (ev_var 3 rfl (pv 3)) (ev_var 2 rfl (pv 2)) (rfl)))), hs := fun _ => rfl }) ea_nil)) id (fun _ => le_none _)))) (by first | (dsimp only [rhas_needs]; done) | rfl)
abbrev sis_circle : Stmt := topS 14
theorem scis_circle : FnScope ["work", "thing", "ahead", "own"] ["work", "thing"] (defScope sis_circle) := ⟨rfl, rfl, rfl, by decide +kernel, rfl, by decide +kernel, by decide +kernel⟩
def ris_circle : List PyData → R (Fl PyData Empty Empty)
  | [a0, a1] => ((((((R.ok a1).bind (tyR "tuple")).bind asB).bind fun k => R.ok (!k)).bind fun k => if k = true then R.ok true else (((R.ok a1).bind fun x42 => ((seqR []).bind fun ds => R.ok (PyData.tuple ds)).bind fun y43 => (R.of (dEq x42 y43)).bind asB).bind fun k => if k = true then R.ok true else ((((seqR [((lcR ((R.ok a1).bind fun d => R.of (itemsD d)) (fun d => some d) (fun p44 => (R.ok true)) (fun p44 => ((seqR [((R.ok a0).bind fun x45 => (R.ok (PyData.int 0)).bind fun y46 => R.of (dIx x45 y46)), (R.ok p44)]).bind (mis_need)))).bind fun ds => R.ok (PyData.list ds))]).bind fun ds => R.of (dAll ds)).bind asB).bind fun k => R.ok (!k)))).bind fun k => if k = true then (((R.ok (PyData.bool false)).bind fun d => .ok (.rt (id d)))).bind retF else ((((((seqR [(R.ok a0), (R.ok a1)]).bind (mhas_needs)).bind asB).bind fun k => R.ok (!k)).bind fun k => if k = true then R.ok true else (((seqR [((seqR [((lcR ((R.ok a1).bind fun d => R.of (itemsD d)) (fun d => some d) (fun p47 => (R.ok true)) (fun p47 => ((R.ok p47).bind fun x48 => (R.ok (PyData.int 0)).bind fun y49 => R.of (dIx x48 y49)))).bind fun ds => R.ok (PyData.list ds))]).bind (mset_of))]).bind fun ds => R.of (dLen ds)).bind fun x50 => ((seqR [(R.ok a1)]).bind fun ds => R.of (dLen ds)).bind fun y51 => (R.of (dNe x50 y51)).bind asB)).bind fun k => if k = true then (((R.ok (PyData.bool false)).bind fun d => .ok (.rt (id d)))).bind retF else (((seqR [((lcR ((seqR [(((seqR [((R.ok a1).bind fun x52 => ((R.ok (PyData.int 1)).bind fun x => R.of (dNeg x)).bind fun y53 => R.of (dIx x52 y53))]).bind fun ds => R.ok (PyData.tuple ds)).bind fun x54 => (R.ok a1).bind fun y55 => R.of (dAdd x54 y55)), (R.ok a1)]).bind fun ds => R.of (dZipL ds)) (decTup (decCons (fun d => some d) (decOne (fun d => some d)))) (fun p56 => (R.ok true)) (fun p56 => (((R.ok p56.1).bind fun x59 => (R.ok (PyData.int 1)).bind fun y60 => R.of (dIx x59 y60)).bind fun x57 => ((R.ok p56.2).bind fun x61 => (R.ok (PyData.int 0)).bind fun y62 => R.of (dIx x61 y62)).bind fun y58 => R.of (dEq x57 y58)))).bind fun ds => R.ok (PyData.list ds))]).bind fun ds => R.of (dAll ds)).bind fun d => .ok (.rt (id d)))))
  | _ => .no
def mis_circle (ds : List PyData) : R PyData := (ris_circle ds).bind outF
theorem okis_circle (T : Top P w K mg base tabs) : FnOk P w K mg base CX0 13 T.fis_circle T.dis_circle ["work", "thing"] (spF K tabs 2 mis_circle) := by
  refine fn_F T.Fis_circle scis_circle ris_circle (fun _ => rfl) fun ds hl cdv A outer s H E hr => ?_
  match ds, hl with
  | [a0, a1], _ => exact EvB.cast (eb_ifr (ew_pt (ew_or (et_not (et_val (ev_isi kt_tuple (by rfl) T.zisinstance (ev_var 1 rfl (pv 1)) (pe_bltn (by rfl) T.ztuple (by decide +kernel) (v := .ty "tuple") rfl)))) (ew_or (et_cmp (op_eqD (Room.hu64 hr)) od_eq (ev_var 1 rfl (pv 1)) (ev_tup ea_nil) (nomark _)) (ew_or1 (et_not (et_val (ev_bi (cx_all rfl) (by rfl) T.zall (by decide +kernel) (ea_cons (ev_lc { hc := rfl, hN := scis_circle.nd, hi := (ei_seq (ev_var 1 rfl (pv 1))), ok := ⟨[("own", 3)], blkOk_by (own := [("own", 3)]) (N := ["work", "thing", "ahead", "own"]) (sc := defScope sis_circle) (by decide +kernel), rfl⟩, ho := rfl, hput := fun p i hi => (pk_name 3) p _ i hi, hg := fun _ _ _ _ _ => (eg_name 3 (pg_name scis_circle.nd rfl (by first | exact Or.inl rfl | exact Or.inr rfl))), ht := fun _ _ _ _ _ p44 => ets_nil, he := fun _ _ _ _ _ p44 => (ev_call (FnOk.mono (okis_need T) (by decide)) hr T.gis_need T.Fis_need.kp T.bis_need (ea_cons (ev_ix (ev_var 0 rfl (pv 0)) ev_int (fun _ _ => rfl)) (ea_cons (ev_var 3 rfl (pv 3)) ea_nil)) (fun _ h => seqR_len h)), hs := fun _ => rfl }) ea_nil)))))))) (eb_ret ev_bl id (fun _ => le_none _)) (eb_ifr (ew_pt (ew_or (et_not (et_val (ev_call (FnOk.mono (okhas_needs T) (by decide)) hr T.ghas_needs T.Fhas_needs.kp T.bhas_needs (ea_cons (ev_var 0 rfl (pv 0)) (ea_cons (ev_var 1 rfl (pv 1)) ea_nil)) (fun _ h => seqR_len h)))) (ew_or1 (et_cmp (op_neD (Room.hu64 hr)) od_ne (ev_bi cx_len (by rfl) T.zlen (by decide +kernel) (ea_cons (ev_call (FnOk.mono (okset_of T) (by decide)) hr T.gset_of T.Fset_of.kp T.bset_of (ea_cons (ev_lc { hc := rfl, hN := scis_circle.nd, hi := (ei_seq (ev_var 1 rfl (pv 1))), ok := ⟨[("own", 3)], blkOk_by (own := [("own", 3)]) (N := ["work", "thing", "ahead", "own"]) (sc := defScope sis_circle) (by decide +kernel), rfl⟩, ho := rfl, hput := fun p i hi => (pk_name 3) p _ i hi, hg := fun _ _ _ _ _ => (eg_name 3 (pg_name scis_circle.nd rfl (by first | exact Or.inl rfl | exact Or.inr rfl))), ht := fun _ _ _ _ _ p47 => ets_nil, he := fun _ _ _ _ _ p47 => (ev_ix (ev_var 3 rfl (pv 3)) ev_int (fun _ _ => rfl)), hs := fun _ => rfl }) ea_nil) (fun _ h => seqR_len h)) ea_nil)) (ev_bi cx_len (by rfl) T.zlen (by decide +kernel) (ea_cons (ev_var 1 rfl (pv 1)) ea_nil)) (nomark _))))) (eb_ret ev_bl id (fun _ => le_none _)) (eb_ret (ev_bi (cx_all rfl) (by rfl) T.zall (by decide +kernel) (ea_cons (ev_lc { hc := rfl, hN := scis_circle.nd, hi := (ei_zip T.zzip (ea_cons (ev_op op_addX od_self (ev_tup (ea_cons (ev_ix (ev_var 1 rfl (pv 1)) (ev_un un_neg ud_neg ev_int) (fun _ _ => rfl)) ea_nil)) (ev_var 1 rfl (pv 1))) (ea_cons (ev_var 1 rfl (pv 1)) ea_nil))), ok := ⟨[("ahead", 2), ("own", 3)], blkOk_by (own := [("ahead", 2), ("own", 3)]) (N := ["work", "thing", "ahead", "own"]) (sc := defScope sis_circle) (by decide +kernel), rfl⟩, ho := rfl, hput := fun p i hi => (pk_cons (pk_name 2) (pk_name 3)) p _ i hi, hg := fun _ _ _ _ _ => (eg_tup rfl (egs_cons (eg_name 2 (pg_name scis_circle.nd rfl (by first | exact Or.inl rfl | exact Or.inr rfl))) (egs_one (eg_name 3 (pg_name scis_circle.nd rfl (by first | exact Or.inl rfl | exact Or.inr rfl)))))), ht := fun _ _ _ _ _ p56 => ets_nil, he := fun _ _ _ _ _ p56 => (ev_cmp (op_eqD (Room.hu64 hr)) od_eq (ev_ix (ev_var 2 rfl (pv 2)) ev_int (fun _ _ => rfl)) (ev_ix (ev_var 3 rfl (pv 3)) ev_int (fun _ _ => rfl)) (nomark _)), hs := fun _ => rfl }) ea_nil)) id (fun _ => le_none _)))) (by first | (dsimp only [ris_circle]; done) | rfl)
abbrev ssums_of : Stmt := topS 16
theorem scsums_of : FnScope ["needs", "need"] ["needs"] (defScope ssums_of) := ⟨rfl, rfl, rfl, by decide +kernel, rfl, by decide +kernel, by decide +kernel⟩
def rsums_of : List PyData → R (Fl PyData Empty Empty)
  | [a0] => (((seqR [((seqR [((lcR ((R.ok a0).bind fun d => R.of (itemsD d)) (fun d => some d) (fun p63 => (R.ok true)) (fun p63 => ((R.ok p63).bind fun x64 => (R.ok (PyData.int 2)).bind fun y65 => R.of (dIx x64 y65)))).bind fun ds => R.ok (PyData.list ds))]).bind fun ds => R.of (dSum ds)), ((seqR [((lcR ((R.ok a0).bind fun d => R.of (itemsD d)) (fun d => some d) (fun p66 => (R.ok true)) (fun p66 => ((R.ok p66).bind fun x67 => (R.ok (PyData.int 3)).bind fun y68 => R.of (dIx x67 y68)))).bind fun ds => R.ok (PyData.list ds))]).bind fun ds => R.of (dSum ds))]).bind fun ds => R.ok (PyData.tuple ds)).bind fun d => .ok (.rt (id d)))
  | _ => .no
def msums_of (ds : List PyData) : R PyData := (rsums_of ds).bind outF
theorem oksums_of (T : Top P w K mg base tabs) : FnOk P w K mg base CX0 1 T.fsums_of T.dsums_of ["needs"] (spF K tabs 1 msums_of) := by
  refine fn_F T.Fsums_of scsums_of rsums_of (fun _ => rfl) fun ds hl cdv A outer s H E hr => ?_
  match ds, hl with
  | [a0], _ => exact EvB.cast (eb_ret (ev_tup (ea_cons (ev_bi (cx_sum rfl) (by rfl) T.zsum (by decide +kernel) (ea_cons (ev_lc { hc := rfl, hN := scsums_of.nd, hi := (ei_seq (ev_var 0 rfl (pv 0))), ok := ⟨[("need", 1)], blkOk_by (own := [("need", 1)]) (N := ["needs", "need"]) (sc := defScope ssums_of) (by decide +kernel), rfl⟩, ho := rfl, hput := fun p i hi => (pk_name 1) p _ i hi, hg := fun _ _ _ _ _ => (eg_name 1 (pg_name scsums_of.nd rfl (by first | exact Or.inl rfl | exact Or.inr rfl))), ht := fun _ _ _ _ _ p63 => ets_nil, he := fun _ _ _ _ _ p63 => (ev_ix (ev_var 1 rfl (pv 1)) ev_int (fun _ _ => rfl)), hs := fun _ => rfl }) ea_nil)) (ea_cons (ev_bi (cx_sum rfl) (by rfl) T.zsum (by decide +kernel) (ea_cons (ev_lc { hc := rfl, hN := scsums_of.nd, hi := (ei_seq (ev_var 0 rfl (pv 0))), ok := ⟨[("need", 1)], blkOk_by (own := [("need", 1)]) (N := ["needs", "need"]) (sc := defScope ssums_of) (by decide +kernel), rfl⟩, ho := rfl, hput := fun p i hi => (pk_name 1) p _ i hi, hg := fun _ _ _ _ _ => (eg_name 1 (pg_name scsums_of.nd rfl (by first | exact Or.inl rfl | exact Or.inr rfl))), ht := fun _ _ _ _ _ p66 => ets_nil, he := fun _ _ _ _ _ p66 => (ev_ix (ev_var 1 rfl (pv 1)) ev_int (fun _ _ => rfl)), hs := fun _ => rfl }) ea_nil)) ea_nil))) id (fun _ => le_none _)) (by first | (dsimp only [rsums_of]; done) | rfl)
abbrev sbars : Stmt := topS 17
theorem scbars : FnScope ["work", "beat", "thing", "delays", "rounds"] ["work", "beat", "thing"] (defScope sbars) := ⟨rfl, rfl, rfl, by decide +kernel, rfl, by decide +kernel, by decide +kernel⟩
def rbars : List PyData → R (Fl PyData Empty Empty)
  | [a0, a1, a2] => (((((seqR [(R.ok a0), (R.ok a2)]).bind (mis_circle)).bind asB).bind fun k => R.ok (!k)).bind fun k => if k = true then (((R.ok (PyData.bool false)).bind fun d => .ok (.rt (id d)))).bind retF else (((seqR [(R.ok a2)]).bind (msums_of)).bind fun d70 => (R.of ((decTup (decCons (fun d => some d) (decOne (fun d => some d)))) d70)).bind fun p69 => (((R.ok p69.1).bind fun x71 => ((R.ok p69.2).bind fun x73 => (R.ok a1).bind fun y74 => R.of (dMul x73 y74)).bind fun y72 => R.of (dGtI x71 y72)).bind fun d => .ok (.rt (id d)))))
  | _ => .no
def mbars (ds : List PyData) : R PyData := (rbars ds).bind outF
theorem okbars (T : Top P w K mg base tabs) : FnOk P w K mg base CX0 14 T.fbars T.dbars ["work", "beat", "thing"] (spF K tabs 3 mbars) := by
  refine fn_F T.Fbars scbars rbars (fun _ => rfl) fun ds hl cdv A outer s H E hr => ?_
  match ds, hl with
  | [a0, a1, a2], _ => exact EvB.cast (eb_ifr (et_not (et_val (ev_call (FnOk.mono (okis_circle T) (by decide)) hr T.gis_circle T.Fis_circle.kp T.bis_circle (ea_cons (ev_var 0 rfl (pv 0)) (ea_cons (ev_var 2 rfl (pv 2)) ea_nil)) (fun _ h => seqR_len h)))) (eb_ret ev_bl id (fun _ => le_none _)) (eb_unp (vs := [3, 4]) (ev_call (FnOk.mono (oksums_of T) (by decide)) hr T.gsums_of T.Fsums_of.kp T.bsums_of (ea_cons (ev_var 2 rfl (pv 2)) ea_nil) (fun _ h => seqR_len h)) (eg_tup rfl (egs_cons (eg_name 3 (pg_name scbars.nd rfl (by first | exact Or.inl rfl | exact Or.inr rfl))) (egs_one (eg_name 4 (pg_name scbars.nd rfl (by first | exact Or.inl rfl | exact Or.inr rfl)))))) (fun p69 => (eb_ret (ev_cmp op_gt od_cmp (ev_var 3 rfl (pv 3)) (ev_op op_mul od_mul (ev_var 4 rfl (pv 4)) (ev_var 1 rfl (pv 1))) (nomark _)) id (fun _ => le_none _))))) (by first | (dsimp only [rbars]; done) | rfl)
abbrev spushed : Stmt := topS 18
theorem scpushed : FnScope ["work", "weigh", "lap", "many", "needs", "found", "last", "moved", "need", "far"] ["work", "weigh"] (defScope spushed) := ⟨rfl, rfl, rfl, by decide +kernel, rfl, by decide +kernel, by decide +kernel⟩
def Lpushed1 (wl : PyData → R PyData) := (fun (s82 : List PyData × List PyData × PyData) d109 => (R.of ((fun d => some d) d109)).bind ((fun s82 p83 => (((((R.ok (.list s82.1)).bind fun x87 => ((R.ok p83).bind fun x85 => (R.ok (PyData.int 0)).bind fun y86 => R.of (dIx x85 y86)).bind fun y88 => R.of (dIx x87 y88)).bind flatR).bind fun x89 => ((R.ok p83).bind wl).bind fun y90 => R.of (dAdd x89 y90)).bind fun v84 => (((R.ok v84).bind fun x95 => (((R.ok (.list s82.1)).bind fun x93 => ((R.ok p83).bind fun x91 => (R.ok (PyData.int 1)).bind fun y92 => R.of (dIx x91 y92)).bind fun y94 => R.of (dIx x93 y94)).bind flatR).bind fun y96 => (R.of (dGtI x95 y96)).bind asB).bind fun k => if k = true then ((R.ok v84).bind fun d104 => (R.ok p83).bind fun d105 => (R.ok (PyData.bool true)).bind fun v103 => ((R.ok p83).bind fun x97 => (R.ok (PyData.int 1)).bind fun y98 => R.of (dIx x97 y98)).bind fun d107 => (R.of (putD s82.1 d107 d104)).bind fun l101 => ((R.ok p83).bind fun x99 => (R.ok (PyData.int 1)).bind fun y100 => R.of (dIx x99 y100)).bind fun d108 => (R.of (putD s82.2.1 d108 d105)).bind fun l102 => (.ok (.nx (l101, l102, v103)))) else (.ok (.nx (s82.1, s82.2.1, s82.2.2)))))) s82) : List PyData × List PyData × PyData → PyData → R (Fl PyData (List PyData × List PyData × PyData) (List PyData × List PyData × PyData)))
def Lpushed2 (wl : PyData → R PyData) (p75 : PyData × PyData) := (fun (s79 : List PyData × List PyData) d110 => (R.of ((fun d => some d) d110)).bind ((fun s79 p80 => ((R.ok (PyData.bool false)).bind fun v81 => (((R.ok p75.2).bind fun d => R.of (itemsD d)).bind fun ds => (loopR (B := (List PyData × List PyData)) (Lpushed1 wl) ds (s79.1, s79.2, v81)).bind (seqF fun s82 => ((((R.ok s82.2.2).bind asB).bind fun k => R.ok (!k)).bind fun k => if k = true then ((((seqR [((seqR [(R.ok (.list s82.1))]).bind fun ds => R.of (dTuple ds)), (R.ok (.list s82.2.1))]).bind fun ds => R.ok (PyData.tuple ds)).bind fun d => .ok (.rt (id d)))).bind retF else (.ok (.nx (s82.1, s82.2.1)))))))) s79) : List PyData × List PyData → PyData → R (Fl PyData (List PyData × List PyData) (List PyData × List PyData)))
def rpushed (wl : PyData → R PyData) (a0 : PyData) : R (Fl PyData Empty Empty) := (((seqR [(R.ok a0)]).bind (mtupled 10)).bind fun d76 => (R.of ((decTup (decCons (fun d => some d) (decOne (fun d => some d)))) d76)).bind fun p75 => (((seqR [(R.ok (PyData.int 0))]).bind fun ds => (R.ok p75.1).bind fun k => R.of (repD ds k)).bind fun v77 => ((seqR [(R.ok PyData.none)]).bind fun ds => (R.ok p75.1).bind fun k => R.of (repD ds k)).bind fun v78 => ((((R.ok p75.1).bind fun x111 => (R.ok (PyData.int 1)).bind fun y112 => R.of (dAdd x111 y112)).bind fun x => R.of (dRange1 x)).bind fun ds => (loopR (B := Empty) (Lpushed2 wl p75) ds (v77, v78)).bind (seqF fun s79 => (((seqR [(R.ok PyData.none), (R.ok (.list s79.2))]).bind fun ds => R.ok (PyData.tuple ds)).bind fun d => .ok (.rt (id d)))))))
theorem bpushed (T : Top P w K mg base tabs) {wl : PyData → R PyData} {cdv : Value} {f : Addr} {Pf : Hp → Prop} {A : Around} {outer : List Env} {s : Shared} {H : Hp} {a0 : PyData} (hr : Room 11 (A.deeper (envOfC "pushed" (defScope spushed) s.heap.objs.size T.fpushed cdv))) (act : LamOk (cxOf L2.CX0 P w K mg base ["work", "weigh", "lap", "many", "needs", "found", "last", "moved", "need", "far"] "pushed" (defScope spushed) T.fpushed cdv A outer s H L2.E0).nox tabs 1 "weigh" f Pf wl) :
    EvB (cxOf L2.CX0 P w K mg base ["work", "weigh", "lap", "many", "needs", "found", "last", "moved", "need", "far"] "pushed" (defScope spushed) T.fpushed cdv A outer s H L2.E0).nox (W0 tabs) (shD 10) [some (.val a0), some (.raw (.ref f) Pf), none, none, none, none, none, none, none, none] eE eE (defBody spushed) (rpushed wl a0) := EvB.cast (eb_unp (vs := [3, 4]) (ev_call (FnOk.mono (oktupled T 10) (by decide)) hr T.gtupled T.Ftupled.kp T.btupled (ea_cons (ev_var 0 rfl (pv 0)) ea_nil) (fun _ h => seqR_len h)) (eg_tup rfl (egs_cons (eg_name 3 (pg_name scpushed.nd rfl (by first | exact Or.inl rfl | exact Or.inr rfl))) (egs_one (eg_name 4 (pg_name scpushed.nd rfl (by first | exact Or.inl rfl | exact Or.inr rfl)))))) (fun p75 => (eb_parFF 5 6 rfl scpushed.nd (ef_rep (ef_lst (ea_cons ev_int ea_nil)) (ev_var 3 rfl (pv 3))) (ef_rep (ef_lst (ea_cons ev_non ea_nil)) (ev_var 3 rfl (pv 3))) (fun v77 v78 => (eb_for (S' := List PyData × List PyData) (vs := [2]) (fun s79 => [some (.val a0), some (.raw (.ref f) Pf), none, some (.val p75.1), some (.val p75.2), some (.own s79.1 none), some (.own s79.2 none), none, none, none]) (v77, v78) rfl (ei_range1 (by rfl) T.zrange (ev_op op_addX od_self (ev_var 3 rfl (pv 3)) ev_int)) (.same (.same (.same (.same (.same (.same (.same (.same (.same (.same .nil)))))))))) (eg_name 2 (pg_name scpushed.nd rfl (by first | exact Or.inl rfl | exact Or.inr rfl))) (fun s79 p80 => (eb_set 7 scpushed.nd ev_bl (fun v81 => (eb_for (S' := List PyData × List PyData × PyData) (vs := [8]) (fun s82 => [some (.val a0), some (.raw (.ref f) Pf), some (.val p80), some (.val p75.1), some (.val p75.2), some (.own s82.1 none), some (.own s82.2.1 none), some (.val s82.2.2), none, none]) (s79.1, s79.2, v81) rfl (ei_seq (ev_var 4 rfl (pv 4))) (.same (.same (.same (.same (.same (.same (.same (.same (.same (.same .nil)))))))))) (eg_name 8 (pg_name scpushed.nd rfl (by first | exact Or.inl rfl | exact Or.inr rfl))) (fun s82 p83 => (eb_set 9 scpushed.nd (ev_op op_addX od_self (ev_lend 5 (ev_ix (ev_var 5 rfl (pv 5)) (ev_ix (ev_var 8 rfl (pv 8)) ev_int (fun _ _ => rfl)) (fun _ _ => rfl))) (act _ _ _ _ _ (by rfl) (ev_var 8 rfl (pv 8)) (by rfl))) (fun v84 => (eb_if2 (et_cmp op_gt od_cmp (ev_var 9 rfl (pv 9)) (ev_lend 5 (ev_ix (ev_var 5 rfl (pv 5)) (ev_ix (ev_var 8 rfl (pv 8)) ev_int (fun _ _ => rfl)) (fun _ _ => rfl))) (nomark _)) (eb_ssn 5 6 7 rfl scpushed.nd (pv 5) (pv 6) (ea_cons (ev_var 9 rfl (pv 9)) (ea_cons (ev_var 8 rfl (pv 8)) (ea_cons ev_bl ea_nil))) (ev_ix (ev_var 8 rfl (pv 8)) ev_int (fun _ _ => rfl)) (fun _ => (ev_ix (ev_var 8 rfl (pv 8)) ev_int (fun _ _ => rfl))) (fun l101 l102 v103 => (eb_nil (s := (l101, l102, v103)) (.same (.same (.same (.same (.same (.same (.same (.same (.skip (.skip .nil))))))))))))) (eb_nil (s := (s82.1, s82.2.1, s82.2.2)) (.same (.same (.same (.same (.same (.same (.same (.same (.skip (.skip .nil))))))))))))))) (fun s82 => (eb_ifr (et_not (et_val (ev_var 7 rfl (pv 7)))) (eb_frz 5 (eb_frz 6 (eb_ret (ev_tup (ea_cons (ev_ty cx_tuple (by rfl) T.ztuple (by decide +kernel) (ea_cons (ev_var 5 rfl (pv 5)) ea_nil)) (ea_cons (ev_var 6 rfl (pv 6)) ea_nil))) id (fun _ => le_none _)))) (eb_nil (s := (s82.1, s82.2.1)) (.same (.same (.skip (.same (.same (.same (.same (.skip (.same (.same .nil))))))))))))) PassesOwn.never)))) (fun s79 => (eb_frz 6 (eb_ret (ev_tup (ea_cons ev_non (ea_cons (ev_var 6 rfl (pv 6)) ea_nil))) id (fun _ => le_none _)))) PassesOwn.never))))) (by first | (dsimp only [rpushed, Lpushed1, Lpushed2]; done) | rfl)
abbrev stimes_of : Stmt := topS 22
theorem sctimes_of : FnScope ["work", "beat", "need"] ["work", "beat"] (defScope stimes_of) := ⟨rfl, rfl, rfl, by decide +kernel, rfl, by decide +kernel, by decide +kernel⟩
def rtimes_of : List PyData → R (Fl PyData Empty Empty)
  | [a0, a1] => ((((R.ok a0).bind fun w => (rpushed (fun d113 => (((R.ok d113).bind fun x114 => (R.ok (PyData.int 2)).bind fun y115 => R.of (dIx x114 y115)).bind fun x120 => (((R.ok d113).bind fun x116 => (R.ok (PyData.int 3)).bind fun y117 => R.of (dIx x116 y117)).bind fun x118 => (R.ok a1).bind fun y119 => R.of (dMul x118 y119)).bind fun y121 => R.of (dSub x120 y121))) w).bind outF).bind fun x122 => (R.ok (PyData.int 0)).bind fun y123 => R.of (dIx x122 y123)).bind fun d => .ok (.rt (id d)))
  | _ => .no
def mtimes_of (ds : List PyData) : R PyData := (rtimes_of ds).bind outF
theorem oktimes_of (T : Top P w K mg base tabs) : FnOk P w K mg base CX0 13 T.ftimes_of T.dtimes_of ["work", "beat"] (spF K tabs 2 mtimes_of) := by
  refine fn_FC T.Ctimes_of sctimes_of rtimes_of (fun _ => rfl) fun ds hl A outer s H E hr => ?_
  match ds, hl with
  | [a0, a1], _ => exact EvB.cast (eb_ret (ev_ix (ev_lam (y := "need") (tabs := tabs) (m := rpushed) (k := 10) 2 T.Fpushed T.gpushed T.bpushed scpushed (by exact Or.inl rfl) (by exact fun cdv f Pf s H w hr act => bpushed T (Room.mono hr (by decide)) act) (by exact T.ttimes_of) (by rfl) (by exact T.mtimes_of) (by exact T.utimes_of) (by exact Room.mono hr (by decide)) (by exact lam1_by (sc := defScope stimes_of) (by decide +kernel)) sctimes_of.nd (by rfl) (by rfl) (by intros; rfl) (ev_var 0 rfl (pv 0)) (fun _ _ _ _ _ _ d113 hr => (ev_op op_sub od_sub (ev_ix (ev_var 2 rfl (pv 2)) ev_int (fun _ _ => rfl)) (ev_op op_mul od_mul (ev_ix (ev_var 2 rfl (pv 2)) ev_int (fun _ _ => rfl)) (ev_var 1 rfl (pv 1)))))) ev_int (fun _ _ => rfl)) id (fun _ => le_none _)) (by first | (dsimp only [rtimes_of]; done) | rfl)
abbrev sback_from : Stmt := topS 20
theorem scback_from : FnScope ["last", "task", "many", "lap"] ["last", "task", "many"] (defScope sback_from) := ⟨rfl, rfl, rfl, by decide +kernel, rfl, by decide +kernel, by decide +kernel⟩
def Lback_from1 (a0 : PyData) := (fun (s124 : PyData) d135 => (R.of ((fun d => some d) d135)).bind ((fun s124 p125 => ((((R.ok a0).bind fun x126 => (R.ok s124).bind fun y127 => R.of (dIx x126 y127)).bind fun x128 => (R.ok PyData.none).bind fun y129 => (R.of (dIs x128 y129)).bind asB).bind fun k => if k = true then (((R.ok PyData.none).bind fun d => .ok (.rt (id d)))).bind retF else ((((R.ok a0).bind fun x131 => (R.ok s124).bind fun y132 => R.of (dIx x131 y132)).bind fun x133 => (R.ok (PyData.int 0)).bind fun y134 => R.of (dIx x133 y134)).bind fun v130 => (.ok (.nx v130))))) s124) : PyData → PyData → R (Fl PyData (PyData) (PyData)))
def rback_from : List PyData → R (Fl PyData Empty Empty)
  | [a0, a1, a2] => (((R.ok a2).bind fun x => R.of (dRange1 x)).bind fun ds => (loopR (B := Empty) (Lback_from1 a0) ds a1).bind (seqF fun s124 => ((R.ok s124).bind fun d => .ok (.rt (id d)))))
  | _ => .no
def mback_from (ds : List PyData) : R PyData := (rback_from ds).bind outF
theorem okback_from (T : Top P w K mg base tabs) : FnOk P w K mg base CX0 1 T.fback_from T.dback_from ["last", "task", "many"] (spF K tabs 3 mback_from) := by
  refine fn_F T.Fback_from scback_from rback_from (fun _ => rfl) fun ds hl cdv A outer s H E hr => ?_
  match ds, hl with
  | [a0, a1, a2], _ => exact EvB.cast (eb_for (S' := PyData) (vs := [3]) (fun s124 => [some (.val a0), some (.val s124), some (.val a2), none]) a1 rfl (ei_range1 (by rfl) T.zrange (ev_var 2 rfl (pv 2))) (.same (.same (.same (.same .nil)))) (eg_name 3 (pg_name scback_from.nd rfl (by first | exact Or.inl rfl | exact Or.inr rfl))) (fun s124 p125 => (eb_ifr (et_cmp op_isX od_is (ev_ix (ev_var 0 rfl (pv 0)) (ev_var 1 rfl (pv 1)) (fun _ _ => rfl)) ev_non (nomark _)) (eb_ret ev_non id (fun _ => le_none _)) (eb_set 1 scback_from.nd (ev_ix (ev_ix (ev_var 0 rfl (pv 0)) (ev_var 1 rfl (pv 1)) (fun _ _ => rfl)) ev_int (fun _ _ => rfl)) (fun v130 => (eb_nil (s := v130) (.same (.same (.same (.skip .nil))))))))) (fun s124 => (eb_ret (ev_var 1 rfl (pv 1)) id (fun _ => le_none _))) PassesOwn.never) (by first | (dsimp only [rback_from, Lback_from1]; done) | rfl)
abbrev scircle_at : Stmt := topS 21
theorem sccircle_at : FnScope ["last", "task", "found", "own"] ["last", "task"] (defScope scircle_at) := ⟨rfl, rfl, rfl, by decide +kernel, rfl, by decide +kernel, by decide +kernel⟩
def rcircle_at : List PyData → R (Fl PyData Empty Empty)
  | [a0, a1] => (((seqR [((R.ok a0).bind fun x138 => (R.ok a1).bind fun y139 => R.of (dIx x138 y139))]).bind fun ds => R.ok (PyData.tuple ds)).bind fun v136 => (((R.ok a0).bind fun x140 => (R.ok a1).bind fun y141 => R.of (dIx x140 y141)).bind fun x142 => (R.ok (PyData.int 0)).bind fun y143 => R.of (dIx x142 y143)).bind fun v137 => ((whileR (B := Empty) (fun (s144 : PyData × PyData) => ((R.ok s144.2).bind fun x145 => (R.ok a1).bind fun y146 => (R.of (dNe x145 y146)).bind asB)) (fun s144 => ((((((R.ok a0).bind fun x150 => (R.ok s144.2).bind fun y151 => R.of (dIx x150 y151)).bind fun d152 => ((R.ok s144.1).bind fun d => (R.of (itemsD d)).bind fun z148 => (seqR []).bind fun z149 => R.ok (z148 ++ z149)).bind fun z153 => R.ok (d152 :: z153)).bind fun ds => R.of (tupD ds)).bind fun v147 => ((((R.ok a0).bind fun x155 => (R.ok s144.2).bind fun y156 => R.of (dIx x155 y156)).bind fun x157 => (R.ok (PyData.int 0)).bind fun y158 => R.of (dIx x157 y158)).bind fun v154 => (.ok (.nx (v147, v154))))) : R (Fl PyData (PyData × PyData) (PyData × PyData)))) 100000 (v136, v137)).bind (seqF fun s144 => ((R.ok s144.1).bind fun d => .ok (.rt (id d))))))
  | _ => .no
def mcircle_at (ds : List PyData) : R PyData := (rcircle_at ds).bind outF
theorem okcircle_at (T : Top P w K mg base tabs) : FnOk P w K mg base CX0 1 T.fcircle_at T.dcircle_at ["last", "task"] (spF K tabs 2 mcircle_at) := by
  refine fn_F T.Fcircle_at sccircle_at rcircle_at (fun _ => rfl) fun ds hl cdv A outer s H E hr => ?_
  match ds, hl with
  | [a0, a1], _ => exact EvB.cast (eb_par 2 3 rfl sccircle_at.nd (ev_tup (ea_cons (ev_ix (ev_var 0 rfl (pv 0)) (ev_var 1 rfl (pv 1)) (fun _ _ => rfl)) ea_nil)) (ev_ix (ev_ix (ev_var 0 rfl (pv 0)) (ev_var 1 rfl (pv 1)) (fun _ _ => rfl)) ev_int (fun _ _ => rfl)) (fun v136 v137 => (eb_while (S' := PyData × PyData) (fun s144 => [some (.val a0), some (.val a1), some (.val s144.1), some (.val s144.2)]) (v136, v137) 100000 (.same (.same (.same (.same .nil)))) (fun s144 => (et_cmp (op_neD (Room.hu64 hr)) od_ne (ev_var 3 rfl (pv 3)) (ev_var 1 rfl (pv 1)) (nomark _))) (fun s144 => (eb_set 2 sccircle_at.nd (ev_tupG (ea_consG (ev_ix (ev_var 0 rfl (pv 0)) (ev_var 3 rfl (pv 3)) (fun _ _ => rfl)) (ea_star (ev_var 2 rfl (pv 2)) ea_nil))) (fun v147 => (eb_set 3 sccircle_at.nd (ev_ix (ev_ix (ev_var 0 rfl (pv 0)) (ev_var 3 rfl (pv 3)) (fun _ _ => rfl)) ev_int (fun _ _ => rfl)) (fun v154 => (eb_nil (s := (v147, v154)) (.same (.same (.same (.same .nil)))))))))) (fun s144 => (eb_ret (ev_var 2 rfl (pv 2)) id (fun _ => le_none _))) PassesOwn.never))) (by first | (dsimp only [rcircle_at]; done) | rfl)
abbrev scircle_above : Stmt := topS 19
theorem sccircle_above : FnScope ["work", "top", "bottom", "rows", "found", "last", "start", "task", "need"] ["work", "top", "bottom"] (defScope scircle_above) := ⟨rfl, rfl, rfl, by decide +kernel, rfl, by decide +kernel, by decide +kernel⟩
def rcircle_above : List PyData → R (Fl PyData Empty Empty)
  | [a0, a1, a2] => (((R.ok a0).bind fun w => (rpushed (fun d161 => ((((R.ok d161).bind fun x162 => (R.ok (PyData.int 2)).bind fun y163 => R.of (dIx x162 y163)).bind fun x164 => (R.ok a2).bind fun y165 => R.of (dMul x164 y165)).bind fun x170 => (((R.ok d161).bind fun x166 => (R.ok (PyData.int 3)).bind fun y167 => R.of (dIx x166 y167)).bind fun x168 => (R.ok a1).bind fun y169 => R.of (dMul x168 y169)).bind fun y171 => R.of (dSub x170 y171))) w).bind outF).bind fun d160 => (R.of ((decTup (decCons (fun d => some d) (decOne (fun d => some d)))) d160)).bind fun p159 => (((R.ok p159.1).bind fun x172 => (R.ok PyData.none).bind fun y173 => (R.of (dIsNot x172 y173)).bind asB).bind fun k => if k = true then (((R.ok PyData.none).bind fun d => .ok (.rt (id d)))).bind retF else (((lcR (((R.ok a0).bind fun x175 => (R.ok (PyData.int 0)).bind fun y176 => R.of (dIx x175 y176)).bind fun x => R.of (dRange1 x)) (fun d => some d) (fun p177 => (R.ok true)) (fun p177 => ((seqR [(R.ok p159.2), (R.ok p177), ((R.ok a0).bind fun x178 => (R.ok (PyData.int 0)).bind fun y179 => R.of (dIx x178 y179))]).bind (mback_from)))).bind fun ds => R.ok (PyData.list ds)).bind fun v174 => (((seqR [(R.ok p159.2), (((lcR ((R.ok v174).bind fun d => R.of (itemsD d)) (fun d => some d) (fun p180 => ((R.ok p180).bind fun x181 => (R.ok PyData.none).bind fun y182 => (R.of (dIsNot x181 y182)).bind asB)) (fun p180 => (R.ok p180))).bind fun ds => R.ok (PyData.list ds)).bind fun x183 => (R.ok (PyData.int 0)).bind fun y184 => R.of (dIx x183 y184))]).bind (mcircle_at)).bind fun d => .ok (.rt (id d))))))
  | _ => .no
def mcircle_above (ds : List PyData) : R PyData := (rcircle_above ds).bind outF
theorem okcircle_above (T : Top P w K mg base tabs) : FnOk P w K mg base CX0 13 T.fcircle_above T.dcircle_above ["work", "top", "bottom"] (spF K tabs 3 mcircle_above) := by
  refine fn_FC T.Ccircle_above sccircle_above rcircle_above (fun _ => rfl) fun ds hl A outer s H E hr => ?_
  match ds, hl with
  | [a0, a1, a2], _ => exact EvB.cast (eb_unp (vs := [4, 5]) (ev_lam (y := "need") (tabs := tabs) (m := rpushed) (k := 10) 8 T.Fpushed T.gpushed T.bpushed scpushed (by exact Or.inl rfl) (by exact fun cdv f Pf s H w hr act => bpushed T (Room.mono hr (by decide)) act) (by exact T.tcircle_above) (by rfl) (by exact T.mcircle_above) (by exact T.ucircle_above) (by exact Room.mono hr (by decide)) (by exact lam1_by (sc := defScope scircle_above) (by decide +kernel)) sccircle_above.nd (by rfl) (by rfl) (by intros; rfl) (ev_var 0 rfl (pv 0)) (fun _ _ _ _ _ _ d161 hr => (ev_op op_sub od_sub (ev_op op_mul od_mul (ev_ix (ev_var 8 rfl (pv 8)) ev_int (fun _ _ => rfl)) (ev_var 2 rfl (pv 2))) (ev_op op_mul od_mul (ev_ix (ev_var 8 rfl (pv 8)) ev_int (fun _ _ => rfl)) (ev_var 1 rfl (pv 1)))))) (eg_tup rfl (egs_cons (eg_name 4 (pg_name sccircle_above.nd rfl (by first | exact Or.inl rfl | exact Or.inr rfl))) (egs_one (eg_name 5 (pg_name sccircle_above.nd rfl (by first | exact Or.inl rfl | exact Or.inr rfl)))))) (fun p159 => (eb_ifr (et_cmp op_isNotX od_isNot (ev_var 4 rfl (pv 4)) ev_non (nomark _)) (eb_ret ev_non id (fun _ => le_none _)) (eb_lc 3 { hc := rfl, hN := sccircle_above.nd, hi := (ei_range1 (by rfl) T.zrange (ev_ix (ev_var 0 rfl (pv 0)) ev_int (fun _ _ => rfl))), ok := ⟨[("start", 6)], blkOk_by (own := [("start", 6)]) (N := ["work", "top", "bottom", "rows", "found", "last", "start", "task", "need"]) (sc := defScope scircle_above) (by decide +kernel), rfl⟩, ho := rfl, hput := fun p i hi => (pk_name 6) p _ i hi, hg := fun _ _ _ _ _ => (eg_name 6 (pg_name sccircle_above.nd rfl (by first | exact Or.inl rfl | exact Or.inr rfl))), ht := fun _ _ _ _ _ p177 => ets_nil, he := fun _ _ _ _ _ p177 => (ev_call (FnOk.mono (okback_from T) (by decide)) hr T.gback_from T.Fback_from.kp T.bback_from (ea_cons (ev_var 5 rfl (pv 5)) (ea_cons (ev_var 6 rfl (pv 6)) (ea_cons (ev_ix (ev_var 0 rfl (pv 0)) ev_int (fun _ _ => rfl)) ea_nil))) (fun _ h => seqR_len h)), hs := fun _ => rfl } (fun v174 => (eb_ret (ev_call (FnOk.mono (okcircle_at T) (by decide)) hr T.gcircle_at T.Fcircle_at.kp T.bcircle_at (ea_cons (ev_var 5 rfl (pv 5)) (ea_cons (ev_ix (ev_lc { hc := rfl, hN := sccircle_above.nd, hi := (ei_seq (ev_var 3 rfl (pv 3))), ok := ⟨[("task", 7)], blkOk_by (own := [("task", 7)]) (N := ["work", "top", "bottom", "rows", "found", "last", "start", "task", "need"]) (sc := defScope scircle_above) (by decide +kernel), rfl⟩, ho := rfl, hput := fun p i hi => (pk_name 7) p _ i hi, hg := fun _ _ _ _ _ => (eg_name 7 (pg_name sccircle_above.nd rfl (by first | exact Or.inl rfl | exact Or.inr rfl))), ht := fun _ _ _ _ _ p180 => (ets_one (et_cmp op_isNotX od_isNot (ev_var 7 rfl (pv 7)) ev_non (nomark _))), he := fun _ _ _ _ _ p180 => (ev_var 7 rfl (pv 7)), hs := fun _ => rfl }) ev_int (fun _ _ => rfl)) ea_nil)) (fun _ h => seqR_len h)) id (fun _ => le_none _))))))) (by first | (dsimp only [rcircle_above]; done) | rfl)
abbrev sa_circle : Stmt := topS 23
theorem sca_circle : FnScope ["work", "beat"] ["work", "beat"] (defScope sa_circle) := ⟨rfl, rfl, rfl, by decide +kernel, rfl, by decide +kernel, by decide +kernel⟩
def ra_circle : List PyData → R (Fl PyData Empty Empty)
  | [a0, a1] => (((seqR [(R.ok a0), (R.ok a1), (R.ok (PyData.int 1))]).bind (mcircle_above)).bind fun d => .ok (.rt (id d)))
  | _ => .no
def ma_circle (ds : List PyData) : R PyData := (ra_circle ds).bind outF
theorem oka_circle (T : Top P w K mg base tabs) : FnOk P w K mg base CX0 14 T.fa_circle T.da_circle ["work", "beat"] (spF K tabs 2 ma_circle) := by
  refine fn_F T.Fa_circle sca_circle ra_circle (fun _ => rfl) fun ds hl cdv A outer s H E hr => ?_
  match ds, hl with
  | [a0, a1], _ => exact EvB.cast (eb_ret (ev_call (FnOk.mono (okcircle_above T) (by decide)) hr T.gcircle_above T.Fcircle_above.kp T.bcircle_above (ea_cons (ev_var 0 rfl (pv 0)) (ea_cons (ev_var 1 rfl (pv 1)) (ea_cons ev_int ea_nil))) (fun _ h => seqR_len h)) id (fun _ => le_none _)) (by first | (dsimp only [ra_circle]; done) | rfl)
abbrev sleast_beat : Stmt := topS 24
theorem scleast_beat : FnScope ["work", "beat", "circle", "delays", "rounds"] ["work"] (defScope sleast_beat) := ⟨rfl, rfl, rfl, by decide +kernel, rfl, by decide +kernel, by decide +kernel⟩
def rleast_beat : List PyData → R (Fl PyData Empty Empty)
  | [a0] => ((R.ok (PyData.int 1)).bind fun v185 => ((seqR [(R.ok a0), (R.ok (PyData.int 1))]).bind (ma_circle)).bind fun v186 => ((whileR (B := Empty) (fun (s187 : PyData × PyData) => ((R.ok s187.2).bind fun x188 => (R.ok PyData.none).bind fun y189 => (R.of (dIsNot x188 y189)).bind asB)) (fun s187 => ((((seqR [(R.ok s187.2)]).bind (msums_of)).bind fun d191 => (R.of ((decTup (decCons (fun d => some d) (decOne (fun d => some d)))) d191)).bind fun p190 => (((R.ok p190.2).bind fun x192 => (R.ok (PyData.int 0)).bind fun y193 => (R.of (dEq x192 y193)).bind asB).bind fun k => if k = true then (((R.ok PyData.none).bind fun d => .ok (.rt (id d)))).bind retF else (((((R.ok p190.1).bind fun x195 => (R.ok p190.2).bind fun y196 => R.of (dAdd x195 y196)).bind fun x197 => (R.ok (PyData.int 1)).bind fun y198 => R.of (dSub x197 y198)).bind fun x199 => (R.ok p190.2).bind fun y200 => R.of (dFdiv x199 y200)).bind fun v194 => (((seqR [(R.ok a0), (R.ok v194)]).bind (ma_circle)).bind fun v201 => (.ok (.nx (v194, v201))))))) : R (Fl PyData (PyData × PyData) (PyData × PyData)))) 100000 (v185, v186)).bind (seqF fun s187 => ((R.ok s187.1).bind fun d => .ok (.rt (id d))))))
  | _ => .no
def mleast_beat (ds : List PyData) : R PyData := (rleast_beat ds).bind outF
theorem okleast_beat (T : Top P w K mg base tabs) : FnOk P w K mg base CX0 15 T.fleast_beat T.dleast_beat ["work"] (spF K tabs 1 mleast_beat) := by
  refine fn_F T.Fleast_beat scleast_beat rleast_beat (fun _ => rfl) fun ds hl cdv A outer s H E hr => ?_
  match ds, hl with
  | [a0], _ => exact EvB.cast (eb_par 1 2 rfl scleast_beat.nd ev_int (ev_call (FnOk.mono (oka_circle T) (by decide)) hr T.ga_circle T.Fa_circle.kp T.ba_circle (ea_cons (ev_var 0 rfl (pv 0)) (ea_cons ev_int ea_nil)) (fun _ h => seqR_len h)) (fun v185 v186 => (eb_while (S' := PyData × PyData) (fun s187 => [some (.val a0), some (.val s187.1), some (.val s187.2), none, none]) (v185, v186) 100000 (.same (.same (.same (.same (.same .nil))))) (fun s187 => (et_cmp op_isNotX od_isNot (ev_var 2 rfl (pv 2)) ev_non (nomark _))) (fun s187 => (eb_unp (vs := [3, 4]) (ev_call (FnOk.mono (oksums_of T) (by decide)) hr T.gsums_of T.Fsums_of.kp T.bsums_of (ea_cons (ev_var 2 rfl (pv 2)) ea_nil) (fun _ h => seqR_len h)) (eg_tup rfl (egs_cons (eg_name 3 (pg_name scleast_beat.nd rfl (by first | exact Or.inl rfl | exact Or.inr rfl))) (egs_one (eg_name 4 (pg_name scleast_beat.nd rfl (by first | exact Or.inl rfl | exact Or.inr rfl)))))) (fun p190 => (eb_ifr (et_cmp (op_eqD (Room.hu64 hr)) od_eq (ev_var 4 rfl (pv 4)) ev_int (nomark _)) (eb_ret ev_non id (fun _ => le_none _)) (eb_set 1 scleast_beat.nd (ev_op op_fdivN od_fdiv (ev_op op_sub od_sub (ev_op op_addX od_self (ev_var 3 rfl (pv 3)) (ev_var 4 rfl (pv 4))) ev_int) (ev_var 4 rfl (pv 4))) (fun v194 => (eb_set 2 scleast_beat.nd (ev_call (FnOk.mono (oka_circle T) (by decide)) hr T.ga_circle T.Fa_circle.kp T.ba_circle (ea_cons (ev_var 0 rfl (pv 0)) (ea_cons (ev_var 1 rfl (pv 1)) ea_nil)) (fun _ h => seqR_len h)) (fun v201 => (eb_nil (s := (v194, v201)) (.same (.same (.same (.skip (.skip .nil)))))))))))))) (fun s187 => (eb_ret (ev_var 1 rfl (pv 1)) id (fun _ => le_none _))) PassesOwn.never))) (by first | (dsimp only [rleast_beat]; done) | rfl)
abbrev sgreatest_ratio : Stmt := topS 25
theorem scgreatest_ratio : FnScope ["work", "found", "circle", "part", "delays", "rounds"] ["work"] (defScope sgreatest_ratio) := ⟨rfl, rfl, rfl, by decide +kernel, rfl, by decide +kernel, by decide +kernel⟩
def rgreatest_ratio : List PyData → R (Fl PyData Empty Empty)
  | [a0] => (((seqR [(R.ok (PyData.int 0)), (R.ok (PyData.int 1))]).bind fun ds => R.ok (PyData.tuple ds)).bind fun v202 => ((seqR [(R.ok a0), (R.ok (PyData.int 0)), (R.ok (PyData.int 1))]).bind fun ds => (mcircle_above ds).calm).bind fun v203 => ((whileR (B := Empty) (fun (s204 : PyData × PyData) => ((R.ok s204.2).bind fun x205 => (R.ok PyData.none).bind fun y206 => (R.of (dIsNot x205 y206)).bind asB)) (fun s204 => ((((seqR [(R.ok s204.2)]).bind fun ds => (msums_of ds).calm).bind fun d208 => (R.of ((decTup (decCons (fun d => some d) (decOne (fun d => some d)))) d208)).bind fun p207 => (((R.ok p207.2).bind fun x209 => (R.ok (PyData.int 0)).bind fun y210 => (R.of (dEq x209 y210)).bind asB).bind fun k => if k = true then ((R.ex "Unfit" [])).bind retF else (((seqR [(R.ok p207.1), (R.ok p207.2)]).bind fun ds => R.of (dGcd ds)).bind fun v211 => (((seqR [((R.ok p207.1).bind fun x213 => (R.ok v211).bind fun y214 => R.of (dFdiv x213 y214)), ((R.ok p207.2).bind fun x215 => (R.ok v211).bind fun y216 => R.of (dFdiv x215 y216))]).bind fun ds => R.ok (PyData.tuple ds)).bind fun v212 => (((seqR [(R.ok a0), ((R.ok v212).bind fun x218 => (R.ok (PyData.int 0)).bind fun y219 => R.of (dIx x218 y219)), ((R.ok v212).bind fun x220 => (R.ok (PyData.int 1)).bind fun y221 => R.of (dIx x220 y221))]).bind fun ds => (mcircle_above ds).calm).bind fun v217 => (.ok (.nx (v212, v217)))))))) : R (Fl PyData (PyData × PyData) (PyData × PyData)))) 100000 (v202, v203)).bind (seqF fun s204 => ((R.ok s204.1).bind fun d => .ok (.rt (id d))))))
  | _ => .no
def mgreatest_ratio (ds : List PyData) : R PyData := (rgreatest_ratio ds).bind outF
theorem okgreatest_ratio (T : Top P w K mg base tabs) : FnOk P w K mg base (L2.CX P w) 14 T.fgreatest_ratio T.dgreatest_ratio ["work"] (spX K tabs T.cls 1 mgreatest_ratio) := by
  refine fn_X T.Fgreatest_ratio scgreatest_ratio rgreatest_ratio (fun _ => rfl) fun ds hl cdv A outer s H E hr => ?_
  match ds, hl with
  | [a0], _ => exact EvB.cast (eb_par 1 2 rfl scgreatest_ratio.nd (ev_tup (ea_cons ev_int (ea_cons ev_int ea_nil))) (ev_callC (FnOk.mono (okcircle_above T) (by decide)) hr T.gcircle_above T.Fcircle_above.kp T.bcircle_above (ea_cons (ev_var 0 rfl (pv 0)) (ea_cons ev_int (ea_cons ev_int ea_nil))) (fun _ h => seqR_len h)) (fun v202 v203 => (eb_while (S' := PyData × PyData) (fun s204 => [some (.val a0), some (.val s204.1), some (.val s204.2), none, none, none]) (v202, v203) 100000 (.same (.same (.same (.same (.same (.same .nil)))))) (fun s204 => (et_cmp op_isNotX od_isNot (ev_var 2 rfl (pv 2)) ev_non (nomark _))) (fun s204 => (eb_unp (vs := [4, 5]) (ev_callC (FnOk.mono (oksums_of T) (by decide)) hr T.gsums_of T.Fsums_of.kp T.bsums_of (ea_cons (ev_var 2 rfl (pv 2)) ea_nil) (fun _ h => seqR_len h)) (eg_tup rfl (egs_cons (eg_name 4 (pg_name scgreatest_ratio.nd rfl (by first | exact Or.inl rfl | exact Or.inr rfl))) (egs_one (eg_name 5 (pg_name scgreatest_ratio.nd rfl (by first | exact Or.inl rfl | exact Or.inr rfl)))))) (fun p207 => (eb_ifr (et_cmp (op_eqD (Room.hu64 hr)) od_eq (ev_var 5 rfl (pv 5)) ev_int (nomark _)) (eb_raise0 (takes_of rfl rfl rfl rfl) T.xUnfit T.cls_Unfit) (eb_set 3 scgreatest_ratio.nd (ev_gcd T.ggcd (ea_cons (ev_var 4 rfl (pv 4)) (ea_cons (ev_var 5 rfl (pv 5)) ea_nil))) (fun v211 => (eb_set 1 scgreatest_ratio.nd (ev_tup (ea_cons (ev_op op_fdivN od_fdiv (ev_var 4 rfl (pv 4)) (ev_var 3 rfl (pv 3))) (ea_cons (ev_op op_fdivN od_fdiv (ev_var 5 rfl (pv 5)) (ev_var 3 rfl (pv 3))) ea_nil))) (fun v212 => (eb_set 2 scgreatest_ratio.nd (ev_callC (FnOk.mono (okcircle_above T) (by decide)) hr T.gcircle_above T.Fcircle_above.kp T.bcircle_above (ea_cons (ev_var 0 rfl (pv 0)) (ea_cons (ev_ix (ev_var 1 rfl (pv 1)) ev_int (fun _ _ => rfl)) (ea_cons (ev_ix (ev_var 1 rfl (pv 1)) ev_int (fun _ _ => rfl)) ea_nil))) (fun _ h => seqR_len h)) (fun v217 => (eb_nil (s := (v212, v217)) (.same (.same (.same (.skip (.skip (.skip .nil))))))))))))))))) (fun s204 => (eb_ret (ev_var 1 rfl (pv 1)) id (fun _ => le_none _))) (passes_of rfl)))) (by first | (dsimp only [rgreatest_ratio]; done) | rfl)
abbrev s_law_box : Stmt := topS 27
theorem sc_law_box : FnScope ["script", "k", "cell"] ["script", "k"] (defScope s_law_box) := ⟨rfl, rfl, rfl, by decide +kernel, rfl, by decide +kernel, by decide +kernel⟩
def m_law_box : List PyData → R (List PyData)
  | [a0, a1] => (((R.ok a1).bind fun x222 => ((seqR [(R.ok a0)]).bind fun ds => R.of (dLen ds)).bind fun y223 => (R.of (dLtI x222 y223)).bind asB).bind fun k => if k = true then ((R.ok a0).bind fun x224 => (R.ok a1).bind fun y225 => R.of (dIx x224 y225)) else (R.ok (PyData.int 0))).bind fun v226 => (seqR [(((seqR [(R.ok v226)]).bind fun ds => R.of (dAbs ds)).bind fun x231 => ((seqR [(((seqR [(R.ok v226)]).bind fun ds => R.of (dAbs ds)).bind fun x227 => ((R.ok (PyData.int 10)).bind fun x229 => (R.ok (PyData.int 18)).bind fun y230 => R.of (dPow x229 y230)).bind fun y228 => R.of (dGeI x227 y228))]).bind fun ds => R.of (dInt ds)).bind fun y232 => R.of (dMul x231 y232)), (((((seqR [(R.ok v226)]).bind fun ds => R.of (dInt ds)).bind fun x233 => (R.ok (PyData.int 2305843009213693951)).bind fun y234 => R.of (dMod x233 y234)).bind fun x237 => ((R.ok (PyData.int 39373)).bind fun x235 => (R.ok a1).bind fun y236 => R.of (dMul x235 y236)).bind fun y238 => R.of (dAdd x237 y238)).bind fun x239 => (R.ok (PyData.int 2325001)).bind fun y240 => R.of (dAdd x239 y240)), (R.ok (PyData.int 0))])
  | _ => .no
theorem ok_law_box (T : Top P w K mg base tabs) : FnOk P w K mg base CX0 1 T.f_law_box T.d_law_box ["script", "k"] (spO K tabs 2 m_law_box) := by
  refine fn_O T.F_law_box sc_law_box fun ds hl cdv A outer s H E hr => ?_
  match ds, hl with
  | [a0, a1], _ => exact EvBO.cast (ebo_set 2 sc_law_box.nd (ev_if (et_cmp op_lt od_cmp (ev_var 1 rfl (pv 1)) (ev_bi cx_len (by rfl) T.zlen (by decide +kernel) (ea_cons (ev_var 0 rfl (pv 0)) ea_nil)) (nomark _)) (ev_ix (ev_var 0 rfl (pv 0)) (ev_var 1 rfl (pv 1)) (fun _ _ => rfl)) ev_int) (fun v226 => ebo_ret (ef_lst (ea_cons (ev_op op_mul od_mul (ev_bi cx_abs (by rfl) T.zabs (by decide +kernel) (ea_cons (ev_var 2 rfl (pv 2)) ea_nil)) (ev_ty cx_int (by rfl) T.zint (by decide +kernel) (ea_cons (ev_cmp op_ge od_cmp (ev_bi cx_abs (by rfl) T.zabs (by decide +kernel) (ea_cons (ev_var 2 rfl (pv 2)) ea_nil)) (ev_op op_pow od_pow ev_int ev_int) (nomark _)) ea_nil))) (ea_cons (ev_op op_addX od_self (ev_op op_addX od_self (ev_op op_modN od_mod (ev_ty cx_int (by rfl) T.zint (by decide +kernel) (ea_cons (ev_var 2 rfl (pv 2)) ea_nil)) ev_int) (ev_op op_mul od_mul ev_int (ev_var 1 rfl (pv 1)))) ev_int) (ea_cons ev_int ea_nil)))))) rfl
abbrev s_law_cells : Stmt := topS 29
theorem sc_law_cells : FnScope ["script", "many", "cells", "k", "cell", "at"] ["script", "many"] (defScope s_law_cells) := ⟨rfl, rfl, rfl, by decide +kernel, rfl, by decide +kernel, by decide +kernel⟩
def L_law_cells1 (a1 : PyData) := (fun (s242 : List PyData) d258 => (R.of ((decTup (decCons (fun d => some d) (decOne (fun d => some d)))) d258)).bind ((fun s242 p243 => ((((seqR [(R.ok p243.1)]).bind fun ds => R.of (dInt ds)).bind fun x245 => (R.ok a1).bind fun y246 => R.of (dMod x245 y246)).bind fun v244 => (((((R.ok (.list s242)).bind fun x247 => (R.ok v244).bind fun y248 => R.of (dIx x247 y248)).bind flatR).bind fun x253 => ((R.ok p243.2).bind fun x251 => ((R.ok p243.1).bind fun x249 => (R.ok (PyData.int 2)).bind fun y250 => R.of (dAdd x249 y250)).bind fun y252 => R.of (dMul x251 y252)).bind fun y254 => R.of (dAdd x253 y254)).bind fun d255 => (R.ok v244).bind fun j256 => (R.of (putD s242 j256 d255)).bind fun l257 => (.ok (.nx l257))))) s242) : List PyData → PyData → R (Fl PyData (List PyData) (List PyData)))
def r_law_cells : List PyData → R (Fl PyData Empty Empty)
  | [a0, a1] => (((((R.ok a0).bind fun d => (R.ok none).bind fun l => ((R.ok a1).bind asI).bind fun h => R.of (dSlice d l h)).bind fun d => R.of (itemsD d)).bind fun ds => if ds.isEmpty = true then (seqR [(R.ok (PyData.int 0))]) else .ok ds).bind fun v241 => ((((R.ok a0).bind fun d => ((R.ok a1).bind asI).bind fun l => ((R.ok (PyData.int 63)).bind asI).bind fun h => R.of (dSlice d l h)).bind fun d => R.of (dEnumL d)).bind fun ds => (loopR (B := Empty) (L_law_cells1 a1) ds v241).bind (seqF fun s242 => ((R.ok (.list s242)).bind fun d => .ok (.rt (id d))))))
  | _ => .no
def m_law_cells (ds : List PyData) : R PyData := (r_law_cells ds).bind outF
theorem ok_law_cells (T : Top P w K mg base tabs) : FnOk P w K mg base CX0 1 T.f_law_cells T.d_law_cells ["script", "many"] (spF K tabs 2 m_law_cells) := by
  refine fn_F T.F_law_cells sc_law_cells r_law_cells (fun _ => rfl) fun ds hl cdv A outer s H E hr => ?_
  match ds, hl with
  | [a0, a1], _ => exact EvB.cast (eb_setF 2 sc_law_cells.nd (ef_or (ef_list T.zlist (by decide +kernel) (ev_sl (ev_var 0 rfl (pv 0)) eo_none (eo_some (ev_var 1 rfl (pv 1))))) (ef_one (ef_lst (ea_cons ev_int ea_nil)))) (fun v241 => (eb_for (S' := List PyData) (vs := [3, 4]) (fun s242 => [some (.val a0), some (.val a1), some (.own s242 none), none, none, none]) v241 rfl (ei_enumL T.zenumerate (ev_sl (ev_var 0 rfl (pv 0)) (eo_some (ev_var 1 rfl (pv 1))) (eo_some ev_int))) (.same (.same (.same (.same (.same (.same .nil)))))) (eg_tup rfl (egs_cons (eg_name 3 (pg_name sc_law_cells.nd rfl (by first | exact Or.inl rfl | exact Or.inr rfl))) (egs_one (eg_name 4 (pg_name sc_law_cells.nd rfl (by first | exact Or.inl rfl | exact Or.inr rfl)))))) (fun s242 p243 => (eb_set 5 sc_law_cells.nd (ev_op op_modN od_mod (ev_ty cx_int (by rfl) T.zint (by decide +kernel) (ea_cons (ev_var 3 rfl (pv 3)) ea_nil)) (ev_var 1 rfl (pv 1))) (fun v244 => (eb_put 2 (pv 2) (ev_op op_addX od_self (ev_lend 2 (ev_ix (ev_var 2 rfl (pv 2)) (ev_var 5 rfl (pv 5)) (fun _ _ => rfl))) (ev_op op_mul od_mul (ev_var 4 rfl (pv 4)) (ev_op op_addX od_self (ev_var 3 rfl (pv 3)) ev_int))) (ev_var 5 rfl (pv 5)) (fun l257 => (eb_nil (s := l257) (.same (.same (.same (.skip (.skip (.skip .nil)))))))))))) (fun s242 => (eb_frz 2 (eb_ret (ev_var 2 rfl (pv 2)) id (fun _ => le_none _)))) PassesOwn.never))) (by first | (dsimp only [r_law_cells, L_law_cells1]; done) | rfl)
abbrev s_law_take : Stmt := topS 28
theorem sc_law_take : FnScope ["urn", "below", "once", "far", "twice", "own"] ["urn", "below"] (defScope s_law_take) := ⟨rfl, rfl, rfl, by decide +kernel, rfl, by decide +kernel, by decide +kernel⟩
def r_law_take : List PyData → List PyData → R (Fl (PyData × List PyData) Empty Empty)
  | a0, [a1] => (((((R.ok (.list a0)).bind fun x259 => (R.ok (PyData.int 0)).bind fun y260 => R.of (dIx x259 y260)).bind flatR).bind fun x261 => (R.ok (PyData.int 0)).bind fun y262 => (R.of (dGtI x261 y262)).bind asB).bind fun k => if k = true then (((((seqR [(((R.ok (.list a0)).bind fun x264 => (R.ok (PyData.int 0)).bind fun y265 => R.of (dIx x264 y265)).bind flatR)]).bind fun ds => R.of (dInt ds)).bind fun x266 => (R.ok a1).bind fun y267 => R.of (dMod x266 y267)).bind fun v263 => (((((R.ok (.list a0)).bind fun x268 => (R.ok (PyData.int 0)).bind fun y269 => R.of (dIx x268 y269)).bind flatR).bind fun x270 => (R.ok a1).bind fun y271 => R.of (dFdiv x270 y271)).bind fun d272 => (R.ok (PyData.int 0)).bind fun j273 => (R.of (putD a0 j273 d272)).bind fun l274 => ((R.ok v263).bind fun d => .ok (.rt ((fun d => (d, l274)) d)))))).bind retF else (((((R.ok (.list a0)).bind fun x275 => (R.ok (PyData.int 2)).bind fun y276 => R.of (dIx x275 y276)).bind flatR).bind fun x277 => (R.ok (PyData.int 1)).bind fun y278 => R.of (dAdd x277 y278)).bind fun d279 => (R.ok (PyData.int 2)).bind fun j280 => (R.of (putD a0 j280 d279)).bind fun l281 => ((((seqR [(((((R.ok (.list l281)).bind fun x283 => (R.ok (PyData.int 1)).bind fun y284 => R.of (dIx x283 y284)).bind flatR).bind fun x289 => ((R.ok (PyData.int 48271)).bind fun x287 => (((R.ok (.list l281)).bind fun x285 => (R.ok (PyData.int 2)).bind fun y286 => R.of (dIx x285 y286)).bind flatR).bind fun y288 => R.of (dMul x287 y288)).bind fun y290 => R.of (dAdd x289 y290)).bind fun x295 => ((R.ok (PyData.int 39373)).bind fun x293 => (((R.ok (.list l281)).bind fun x291 => (R.ok (PyData.int 2)).bind fun y292 => R.of (dIx x291 y292)).bind flatR).bind fun y294 => R.of (dAdd x293 y294)).bind fun y296 => R.of (dMul x295 y296))]).bind fun ds => R.of (dInt ds)).bind fun x297 => (R.ok (PyData.int 2147483647)).bind fun y298 => R.of (dMod x297 y298)).bind fun v282 => (((((seqR [(R.ok v282)]).bind fun ds => R.of (dInt ds)).bind fun x300 => (R.ok (PyData.int 40009)).bind fun y301 => R.of (dMod x300 y301)).bind fun x302 => (R.ok (PyData.int 7)).bind fun y303 => R.of (dAdd x302 y303)).bind fun v299 => ((((seqR [((((R.ok v282).bind fun x307 => (((R.ok (.list l281)).bind fun x305 => (R.ok (PyData.int 2)).bind fun y306 => R.of (dIx x305 y306)).bind flatR).bind fun y308 => R.of (dAdd x307 y308)).bind fun x313 => ((((R.ok (.list l281)).bind fun x309 => (R.ok (PyData.int 1)).bind fun y310 => R.of (dIx x309 y310)).bind flatR).bind fun x311 => (R.ok (PyData.int 1000003)).bind fun y312 => R.of (dFdiv x311 y312)).bind fun y314 => R.of (dAdd x313 y314)).bind fun x315 => (R.ok v299).bind fun y316 => R.of (dMul x315 y316))]).bind fun ds => R.of (dInt ds)).bind fun x317 => (R.ok (PyData.int 2147483629)).bind fun y318 => R.of (dMod x317 y318)).bind fun v304 => ((((seqR [((((seqR [(((R.ok v304).bind fun x319 => (R.ok (PyData.int 48271)).bind fun y320 => R.of (dMul x319 y320)).bind fun x321 => (R.ok v282).bind fun y322 => R.of (dAdd x321 y322))]).bind fun ds => R.of (dInt ds)).bind fun x323 => (R.ok (PyData.int 2147483587)).bind fun y324 => R.of (dMod x323 y324)).bind fun x325 => (R.ok (PyData.int 64)).bind fun y326 => R.of (dFdiv x325 y326))]).bind fun ds => R.of (dInt ds)).bind fun x327 => (R.ok a1).bind fun y328 => R.of (dMod x327 y328)).bind fun d => .ok (.rt ((fun d => (d, l281)) d))))))))
  | _, _ => .no
def m_law_take (u ds : List PyData) : R (PyData × List PyData) := (r_law_take u ds).bind outF
theorem ok_law_take (T : Top P w K mg base tabs) : FnOk P w K mg base CX0 1 T.f_law_take T.d_law_take ["urn", "below"] (spU K tabs 2 m_law_take) := by
  refine fn_U T.F_law_take sc_law_take r_law_take (fun _ _ => rfl) fun ad a0 ds hl cdv A outer s H E hr => ?_
  match ds, hl with
  | [a1], _ => exact EvB.cast (eb_ifr (et_cmp op_gt od_cmp (ev_lend 0 (ev_ix (ev_var 0 rfl (pv 0)) ev_int (fun _ _ => rfl))) ev_int (nomark _)) (eb_set 5 sc_law_take.nd (ev_op op_modN od_mod (ev_ty cx_int (by rfl) T.zint (by decide +kernel) (ea_cons (ev_lend 0 (ev_ix (ev_var 0 rfl (pv 0)) ev_int (fun _ _ => rfl))) ea_nil)) (ev_var 1 rfl (pv 1))) (fun v263 => (eb_put 0 (pv 0) (ev_op op_fdivN od_fdiv (ev_lend 0 (ev_ix (ev_var 0 rfl (pv 0)) ev_int (fun _ _ => rfl))) (ev_var 1 rfl (pv 1))) ev_int (fun l274 => (eb_ret (ev_var 5 rfl (pv 5)) (fun d => (d, l274)) (fun _ => .same (le_none _))))))) (eb_put 0 (pv 0) (ev_op op_addX od_self (ev_lend 0 (ev_ix (ev_var 0 rfl (pv 0)) ev_int (fun _ _ => rfl))) ev_int) ev_int (fun l281 => (eb_set 2 sc_law_take.nd (ev_op op_modN od_mod (ev_ty cx_int (by rfl) T.zint (by decide +kernel) (ea_cons (ev_op op_mul od_mul (ev_op op_addX od_self (ev_lend 0 (ev_ix (ev_var 0 rfl (pv 0)) ev_int (fun _ _ => rfl))) (ev_op op_mul od_mul ev_int (ev_lend 0 (ev_ix (ev_var 0 rfl (pv 0)) ev_int (fun _ _ => rfl))))) (ev_op op_addX od_self ev_int (ev_lend 0 (ev_ix (ev_var 0 rfl (pv 0)) ev_int (fun _ _ => rfl))))) ea_nil)) ev_int) (fun v282 => (eb_set 3 sc_law_take.nd (ev_op op_addX od_self (ev_op op_modN od_mod (ev_ty cx_int (by rfl) T.zint (by decide +kernel) (ea_cons (ev_var 2 rfl (pv 2)) ea_nil)) ev_int) ev_int) (fun v299 => (eb_set 4 sc_law_take.nd (ev_op op_modN od_mod (ev_ty cx_int (by rfl) T.zint (by decide +kernel) (ea_cons (ev_op op_mul od_mul (ev_op op_addX od_self (ev_op op_addX od_self (ev_var 2 rfl (pv 2)) (ev_lend 0 (ev_ix (ev_var 0 rfl (pv 0)) ev_int (fun _ _ => rfl)))) (ev_op op_fdivN od_fdiv (ev_lend 0 (ev_ix (ev_var 0 rfl (pv 0)) ev_int (fun _ _ => rfl))) ev_int)) (ev_var 3 rfl (pv 3))) ea_nil)) ev_int) (fun v304 => (eb_ret (ev_op op_modN od_mod (ev_ty cx_int (by rfl) T.zint (by decide +kernel) (ea_cons (ev_op op_fdivN od_fdiv (ev_op op_modN od_mod (ev_ty cx_int (by rfl) T.zint (by decide +kernel) (ea_cons (ev_op op_addX od_self (ev_op op_mul od_mul (ev_var 4 rfl (pv 4)) ev_int) (ev_var 2 rfl (pv 2))) ea_nil)) ev_int) ev_int) ea_nil)) (ev_var 1 rfl (pv 1))) (fun d => (d, l281)) (fun _ => .same (le_none _)))))))))))) (by first | (dsimp only [r_law_take]; done) | rfl)
abbrev s_law_mixed : Stmt := topS 30
theorem sc_law_mixed : FnScope ["urn", "matter", "parts", "own"] ["urn", "matter"] (defScope s_law_mixed) := ⟨rfl, rfl, rfl, by decide +kernel, rfl, by decide +kernel, by decide +kernel⟩
def r_law_mixed (m_law_mixed : Nat → List PyData → List PyData → R (PyData × List PyData)) (n : Nat) : List PyData → List PyData → R (Fl (PyData × List PyData) Empty Empty)
  | a0, [a1] => (((((R.ok a1).bind (tyR2 "list" "tuple")).bind asB).bind fun k => R.ok (!k)).bind fun k => if k = true then (((R.ok a1).bind fun d => .ok (.rt ((fun d => (d, a0)) d)))).bind retF else (((lcM (fun (u332 : List PyData) => (((R.ok a1).bind fun d => R.of (itemsD d)).bind fun d => R.ok (d, u332) : R (List PyData × List PyData))) (fun d => some d) (fun p333 u334 => (R.ok true)) (fun p333 => (fun (u335 : List PyData) => (((fun (u337 : List PyData) => (((fun (u336 : List PyData) => ((R.ok p333).bind fun d => R.ok (d, u336) : R (PyData × List PyData))) u337).bind fun p => ((fun (u : List PyData) => (R.ok ([], u) : R (List PyData × List PyData))) p.2).bind fun q => R.ok (p.1 :: q.1, q.2) : R (List PyData × List PyData))) u335).bind fun q => m_law_mixed n q.2 q.1 : R (PyData × List PyData))))) a0).bind fun q331 => (fun v329 u330 => (((fun (u338 : List PyData) => (((fun (u339 : List PyData) => (((fun (u340 : List PyData) => (((fun (u342 : List PyData) => (((fun (u341 : List PyData) => ((R.ok (PyData.int 2)).bind fun d => R.ok (d, u341) : R (PyData × List PyData))) u342).bind fun p => ((fun (u : List PyData) => (R.ok ([], u) : R (List PyData × List PyData))) p.2).bind fun q => R.ok (p.1 :: q.1, q.2) : R (List PyData × List PyData))) u340).bind fun q => m_law_take q.2 q.1 : R (PyData × List PyData))) u339).bind fun x => ((fun (u343 : List PyData) => ((R.ok (PyData.int 0)).bind fun d => R.ok (d, u343) : R (PyData × List PyData))) x.2).bind fun y => ((R.of (dEq x.1 y.1)).bind asB).bind fun d => R.ok (d, y.2) : R (Bool × List PyData))) u338).bind fun k => if k.1 = true then (fun (u344 : List PyData) => ((R.ok v329).bind fun d => R.ok (d, u344) : R (PyData × List PyData))) k.2 else (fun (u345 : List PyData) => (((seqR [(R.ok v329)]).bind fun ds => R.of (dTuple ds)).bind fun d => R.ok (d, u345) : R (PyData × List PyData))) k.2 : R (PyData × List PyData))) u330).bind fun p => .ok (.rt ((fun d u => (d, u)) p.1 p.2)))) (.list q331.1) q331.2))
  | _, _ => .no
def m_law_mixed : Nat → List PyData → List PyData → R (PyData × List PyData)
  | 0, _, _ => .no
  | n + 1, u, ds => (r_law_mixed (fun _ => m_law_mixed n) n u ds).bind outF
theorem ok_law_mixed (T : Top P w K mg base tabs) : ∀ n : Nat, FnOk P w K mg base CX0 (n + 2) T.f_law_mixed T.d_law_mixed ["urn", "matter"] (spU K tabs 2 (m_law_mixed n))
  | 0 => by
    refine FnOk.mono (j := 0 + 1) (fn_U (k := 0) T.F_law_mixed sc_law_mixed (fun _ _ => .no) (fun _ _ => rfl) fun _ _ _ _ _ _ _ _ _ _ _ => ⟨⟨fun _ _ _ _ _ _ q => by obtain ⟨_, _, _, _, q⟩ := q; exact q.elim⟩⟩) (by omega)
  | n + 1 => by
    have ih := ok_law_mixed T n
    refine FnOk.mono (j := (n + 2) + 1) (fn_U T.F_law_mixed sc_law_mixed (r_law_mixed (fun _ => m_law_mixed n) n) (fun _ _ => rfl) fun ad a0 ds hl cdv A outer s H E hr => ?_) (by omega)
    match ds, hl with
    | [a1], _ => exact EvB.cast (eb_ifr (et_not (et_val (ev_isi2 kt_list kt_tuple (by rfl) T.zisinstance (ev_var 1 rfl (pv 1)) (pe_bltn (by rfl) T.zlist (by decide +kernel) (v := .ty "list") rfl) (pe_bltn (by rfl) T.ztuple (by decide +kernel) (v := .ty "tuple") rfl)))) (eb_ret (ev_var 1 rfl (pv 1)) (fun d => (d, a0)) (fun _ => .same (le_none _))) (eb_lcM (E' := (fun u347 => [some (.own u347 (some ad)), some (.val a1), none, none])) (u0 := a0) 2 { hc := rfl, hN := sc_law_mixed.nd, hi := (emi (fun u332 => (ei_seq (ev_var 1 rfl (pv 1))))), ok := ⟨[("own", 3)], blkOk_by (own := [("own", 3)]) (N := ["urn", "matter", "parts", "own"]) (sc := defScope s_law_mixed) (by decide +kernel), rfl⟩, ho := fun _ => rfl, hput := (pk_name 3), hE := fun _ _ => rfl, hl := fun _ _ => rfl, hg := fun _ _ _ _ _ => (eg_name 3 (pg_name sc_law_mixed.nd rfl (by first | exact Or.inl rfl | exact Or.inr rfl))), ht := fun _ _ _ _ _ p333 u334 => ets_nil, he := fun _ _ _ _ _ p333 => (em_callU ih hr T.g_law_mixed T.F_law_mixed.kp T.b_law_mixed (pv 0) (fun _ => rfl) (fun _ _ => rfl) (ema_cons (em (fun u336 => (ev_var 3 rfl (pv 3)))) ema_nil)), hs := fun _ => rfl } (fun v329 u330 => (eb_retM (E' := (fun u346 => [some (.own u346 (some ad)), some (.val a1), some (.val v329), none])) (u0 := u330) (em_if (emt_cmp (op_eqD (Room.hu64 hr)) od_eq (em_callU (FnOk.mono (ok_law_take T) (by omega)) hr T.g_law_take T.F_law_take.kp T.b_law_take (pv 0) (fun _ => rfl) (fun _ _ => rfl) (ema_cons (em (fun u341 => ev_int)) ema_nil)) (em (fun u343 => ev_int)) (nomark _)) (em (fun u344 => (ev_var 2 rfl (pv 2)))) (em (fun u345 => (ev_ty cx_tuple (by rfl) T.ztuple (by decide +kernel) (ea_cons (ev_var 2 rfl (pv 2)) ea_nil))))) (fun d u => (d, u)) (fun _ _ => .same (le_none _)))))) (by first | (dsimp only [r_law_mixed]; done) | rfl)
abbrev s_law_same : Stmt := topS 31
theorem sc_law_same : FnScope ["got", "due", "mine", "own"] ["got", "due"] (defScope s_law_same) := ⟨rfl, rfl, rfl, by decide +kernel, rfl, by decide +kernel, by decide +kernel⟩
def r_law_same (m_law_same : Nat → List PyData → R PyData) (n : Nat) : List PyData → R (Fl PyData Empty Empty)
  | [a0, a1] => ((((R.ok a1).bind (tyR2 "list" "tuple")).bind asB).bind fun k => if k = true then ((((((R.ok a0).bind (tyR "list")).bind fun x350 => ((R.ok a1).bind (tyR "list")).bind fun y351 => (R.of (dNe x350 y351)).bind asB).bind fun k => if k = true then R.ok true else (((R.ok a0).bind (tyR "tuple")).bind fun x352 => ((R.ok a1).bind (tyR "tuple")).bind fun y353 => (R.of (dNe x352 y353)).bind asB)).bind fun k => if k = true then (((R.ok (PyData.bool false)).bind fun d => .ok (.rt (id d)))).bind retF else ((((((seqR [(R.ok a0)]).bind fun ds => R.of (dLen ds)).bind fun x354 => ((seqR [(R.ok a1)]).bind fun ds => R.of (dLen ds)).bind fun y355 => R.of (dEq x354 y355)).bind asB).bind fun k => if k = true then ((seqR [((lcR ((seqR [(R.ok a0), (R.ok a1)]).bind fun ds => R.of (dZipL ds)) (decTup (decCons (fun d => some d) (decOne (fun d => some d)))) (fun p356 => (R.ok true)) (fun p356 => ((seqR [(R.ok p356.1), (R.ok p356.2)]).bind (m_law_same n)))).bind fun ds => R.ok (PyData.list ds))]).bind fun ds => R.of (dAll ds)) else R.ok (PyData.bool false)).bind fun d => .ok (.rt (id d))))).bind retF else ((((R.ok a1).bind fun x359 => (R.ok PyData.none).bind fun y360 => (R.of (dIs x359 y360)).bind asB).bind fun k => if k = true then R.ok true else (((R.ok a0).bind fun x361 => (R.ok PyData.none).bind fun y362 => (R.of (dIs x361 y362)).bind asB).bind fun k => if k = true then R.ok true else ((((R.ok a1).bind (tyR "bool")).bind asB).bind fun k => if k = true then R.ok true else (((R.ok a0).bind (tyR "bool")).bind asB)))).bind fun k => if k = true then (((((((R.ok a1).bind fun x365 => (R.ok PyData.none).bind fun y366 => R.of (dIs x365 y366)).bind fun x363 => ((R.ok a0).bind fun x367 => (R.ok PyData.none).bind fun y368 => R.of (dIs x367 y368)).bind fun y364 => R.of (dEq x363 y364)).bind asB).bind fun k => if k = true then (((((R.ok a0).bind (tyR "bool")).bind fun x369 => ((R.ok a1).bind (tyR "bool")).bind fun y370 => R.of (dEq x369 y370)).bind asB).bind fun k => if k = true then ((R.ok a0).bind fun x371 => (R.ok a1).bind fun y372 => R.of (dEq x371 y372)) else R.ok (PyData.bool false)) else R.ok (PyData.bool false)).bind fun d => .ok (.rt (id d)))).bind retF else ((((R.ok a1).bind (tyR "str")).bind asB).bind fun k => if k = true then ((((((R.ok a0).bind (tyR "str")).bind asB).bind fun k => if k = true then ((R.ok a0).bind fun x373 => (R.ok a1).bind fun y374 => R.of (dEq x373 y374)) else R.ok (PyData.bool false)).bind fun d => .ok (.rt (id d)))).bind retF else (((((R.ok a0).bind (tyR "int")).bind asB).bind fun k => if k = true then ((R.ok a0).bind fun x375 => (R.ok a1).bind fun y376 => R.of (dEq x375 y376)) else R.ok (PyData.bool false)).bind fun d => .ok (.rt (id d))))))
  | _ => .no
def m_law_same : Nat → List PyData → R PyData
  | 0, _ => .no
  | n + 1, ds => (r_law_same (fun _ => m_law_same n) n ds).bind outF
theorem ok_law_same (T : Top P w K mg base tabs) : ∀ n : Nat, FnOk P w K mg base CX0 (n + 1) T.f_law_same T.d_law_same ["got", "due"] (spF K tabs 2 (m_law_same n))
  | 0 => by
    refine FnOk.mono (j := 0 + 1) (fn_F (k := 0) T.F_law_same sc_law_same (fun _ => .no) (fun _ => rfl) fun _ _ _ _ _ _ _ _ _ => ⟨⟨fun _ _ _ _ _ _ q => by obtain ⟨_, _, _, _, q⟩ := q; exact q.elim⟩⟩) (by omega)
  | n + 1 => by
    have ih := ok_law_same T n
    refine FnOk.mono (j := (n + 1) + 1) (fn_F T.F_law_same sc_law_same (r_law_same (fun _ => m_law_same n) n) (fun _ => rfl) fun ds hl cdv A outer s H E hr => ?_) (by omega)
    match ds, hl with
    | [a0, a1], _ => exact EvB.cast (eb_ifr (et_val (ev_isi2 kt_list kt_tuple (by rfl) T.zisinstance (ev_var 1 rfl (pv 1)) (pe_bltn (by rfl) T.zlist (by decide +kernel) (v := .ty "list") rfl) (pe_bltn (by rfl) T.ztuple (by decide +kernel) (v := .ty "tuple") rfl))) (eb_ifr (ew_pt (ew_or (et_cmp (op_neD (Room.hu64 hr)) od_ne (ev_isi kt_list (by rfl) T.zisinstance (ev_var 0 rfl (pv 0)) (pe_bltn (by rfl) T.zlist (by decide +kernel) (v := .ty "list") rfl)) (ev_isi kt_list (by rfl) T.zisinstance (ev_var 1 rfl (pv 1)) (pe_bltn (by rfl) T.zlist (by decide +kernel) (v := .ty "list") rfl)) (nomark _)) (ew_or1 (et_cmp (op_neD (Room.hu64 hr)) od_ne (ev_isi kt_tuple (by rfl) T.zisinstance (ev_var 0 rfl (pv 0)) (pe_bltn (by rfl) T.ztuple (by decide +kernel) (v := .ty "tuple") rfl)) (ev_isi kt_tuple (by rfl) T.zisinstance (ev_var 1 rfl (pv 1)) (pe_bltn (by rfl) T.ztuple (by decide +kernel) (v := .ty "tuple") rfl)) (nomark _))))) (eb_ret ev_bl id (fun _ => le_none _)) (eb_ret (ev_and (ev_cmp (op_eqD (Room.hu64 hr)) od_eq (ev_bi cx_len (by rfl) T.zlen (by decide +kernel) (ea_cons (ev_var 0 rfl (pv 0)) ea_nil)) (ev_bi cx_len (by rfl) T.zlen (by decide +kernel) (ea_cons (ev_var 1 rfl (pv 1)) ea_nil)) (nomark _)) (ev_one (ev_bi (cx_all rfl) (by rfl) T.zall (by decide +kernel) (ea_cons (ev_lc { hc := rfl, hN := sc_law_same.nd, hi := (ei_zip T.zzip (ea_cons (ev_var 0 rfl (pv 0)) (ea_cons (ev_var 1 rfl (pv 1)) ea_nil))), ok := ⟨[("mine", 2), ("own", 3)], blkOk_by (own := [("mine", 2), ("own", 3)]) (N := ["got", "due", "mine", "own"]) (sc := defScope s_law_same) (by decide +kernel), rfl⟩, ho := rfl, hput := fun p i hi => (pk_cons (pk_name 2) (pk_name 3)) p _ i hi, hg := fun _ _ _ _ _ => (eg_tup rfl (egs_cons (eg_name 2 (pg_name sc_law_same.nd rfl (by first | exact Or.inl rfl | exact Or.inr rfl))) (egs_one (eg_name 3 (pg_name sc_law_same.nd rfl (by first | exact Or.inl rfl | exact Or.inr rfl)))))), ht := fun _ _ _ _ _ p356 => ets_nil, he := fun _ _ _ _ _ p356 => (ev_call ih hr T.g_law_same T.F_law_same.kp T.b_law_same (ea_cons (ev_var 2 rfl (pv 2)) (ea_cons (ev_var 3 rfl (pv 3)) ea_nil)) (fun _ h => seqR_len h)), hs := fun _ => rfl }) ea_nil)))) id (fun _ => le_none _))) (eb_ifr (ew_pt (ew_or (et_cmp op_isX od_is (ev_var 1 rfl (pv 1)) ev_non (nomark _)) (ew_or (et_cmp op_isX od_is (ev_var 0 rfl (pv 0)) ev_non (nomark _)) (ew_or (et_val (ev_isi kt_bool (by rfl) T.zisinstance (ev_var 1 rfl (pv 1)) (pe_bltn (by rfl) T.zbool (by decide +kernel) (v := .ty "bool") rfl))) (ew_or1 (et_val (ev_isi kt_bool (by rfl) T.zisinstance (ev_var 0 rfl (pv 0)) (pe_bltn (by rfl) T.zbool (by decide +kernel) (v := .ty "bool") rfl)))))))) (eb_ret (ev_and (ev_cmp (op_eqD (Room.hu64 hr)) od_eq (ev_cmp op_isX od_is (ev_var 1 rfl (pv 1)) ev_non (nomark _)) (ev_cmp op_isX od_is (ev_var 0 rfl (pv 0)) ev_non (nomark _)) (nomark _)) (ev_and (ev_cmp (op_eqD (Room.hu64 hr)) od_eq (ev_isi kt_bool (by rfl) T.zisinstance (ev_var 0 rfl (pv 0)) (pe_bltn (by rfl) T.zbool (by decide +kernel) (v := .ty "bool") rfl)) (ev_isi kt_bool (by rfl) T.zisinstance (ev_var 1 rfl (pv 1)) (pe_bltn (by rfl) T.zbool (by decide +kernel) (v := .ty "bool") rfl)) (nomark _)) (ev_one (ev_cmp (op_eqD (Room.hu64 hr)) od_eq (ev_var 0 rfl (pv 0)) (ev_var 1 rfl (pv 1)) (nomark _))))) id (fun _ => le_none _)) (eb_ifr (et_val (ev_isi kt_str (by rfl) T.zisinstance (ev_var 1 rfl (pv 1)) (pe_bltn (by rfl) T.zstr (by decide +kernel) (v := .ty "str") rfl))) (eb_ret (ev_and (ev_isi kt_str (by rfl) T.zisinstance (ev_var 0 rfl (pv 0)) (pe_bltn (by rfl) T.zstr (by decide +kernel) (v := .ty "str") rfl)) (ev_one (ev_cmp (op_eqD (Room.hu64 hr)) od_eq (ev_var 0 rfl (pv 0)) (ev_var 1 rfl (pv 1)) (nomark _)))) id (fun _ => le_none _)) (eb_ret (ev_and (ev_isi kt_int (by rfl) T.zisinstance (ev_var 0 rfl (pv 0)) (pe_bltn (by rfl) T.zint (by decide +kernel) (v := .ty "int") rfl)) (ev_one (ev_cmp (op_eqD (Room.hu64 hr)) od_eq (ev_var 0 rfl (pv 0)) (ev_var 1 rfl (pv 1)) (nomark _)))) id (fun _ => le_none _))))) (by first | (dsimp only [r_law_same]; done) | rfl)
abbrev s_law_work : Stmt := topS 32
theorem sc_law_work : FnScope ["urn", "most", "wide", "lap", "many", "needs", "rounds", "one", "other"] ["urn", "most", "wide"] (defScope s_law_work) := ⟨rfl, rfl, rfl, by decide +kernel, rfl, by decide +kernel, by decide +kernel⟩
def L_law_work1 (v377 : PyData) := (fun (s388 : List PyData × List PyData) d438 => (R.of ((fun d => some d) d438)).bind ((fun s388 p389 => (((fun (u395 : List PyData) => (((fun (u397 : List PyData) => (((fun (u396 : List PyData) => ((R.ok v377).bind fun d => R.ok (d, u396) : R (PyData × List PyData))) u397).bind fun p => ((fun (u : List PyData) => (R.ok ([], u) : R (List PyData × List PyData))) p.2).bind fun q => R.ok (p.1 :: q.1, q.2) : R (List PyData × List PyData))) u395).bind fun q => m_law_take q.2 q.1 : R (PyData × List PyData))) s388.1).bind fun q393 => ((fun (u398 : List PyData) => (((fun (u400 : List PyData) => (((fun (u399 : List PyData) => ((R.ok v377).bind fun d => R.ok (d, u399) : R (PyData × List PyData))) u400).bind fun p => ((fun (u : List PyData) => (R.ok ([], u) : R (List PyData × List PyData))) p.2).bind fun q => R.ok (p.1 :: q.1, q.2) : R (List PyData × List PyData))) u398).bind fun q => m_law_take q.2 q.1 : R (PyData × List PyData))) q393.2).bind fun q394 => (fun v390 v391 u392 => (((fun (u404 : List PyData) => (((fun (u405 : List PyData) => (((R.ok v390).bind fun x406 => (R.ok v391).bind fun y407 => (R.of (dLtI x406 y407)).bind asB).bind fun d => R.ok (d, u405) : R (Bool × List PyData))) u404).bind fun k => if k.1 = true then (fun (u408 : List PyData) => (((fun (u409 : List PyData) => (((seqR [(R.ok (PyData.int 0)), (R.ok (PyData.int 0)), (R.ok (PyData.int 0)), (R.ok (PyData.int 1)), (R.ok (PyData.int 1)), (R.ok (PyData.int 2))]).bind fun ds => R.ok (PyData.tuple ds)).bind fun d => R.ok (d, u409) : R (PyData × List PyData))) u408).bind fun x => ((fun (u410 : List PyData) => (((fun (u412 : List PyData) => (((fun (u411 : List PyData) => ((R.ok (PyData.int 6)).bind fun d => R.ok (d, u411) : R (PyData × List PyData))) u412).bind fun p => ((fun (u : List PyData) => (R.ok ([], u) : R (List PyData × List PyData))) p.2).bind fun q => R.ok (p.1 :: q.1, q.2) : R (List PyData × List PyData))) u410).bind fun q => m_law_take q.2 q.1 : R (PyData × List PyData))) x.2).bind fun y => (R.of (dIx x.1 y.1)).bind fun d => R.ok (d, y.2) : R (PyData × List PyData))) k.2 else (fun (u413 : List PyData) => (((fun (u414 : List PyData) => (((seqR [(R.ok (PyData.int 1)), (R.ok (PyData.int 1)), (R.ok (PyData.int 1)), (R.ok (PyData.int 2)), (R.ok (PyData.int 3)), (R.ok (PyData.int 0))]).bind fun ds => R.ok (PyData.tuple ds)).bind fun d => R.ok (d, u414) : R (PyData × List PyData))) u413).bind fun x => ((fun (u415 : List PyData) => (((fun (u417 : List PyData) => (((fun (u416 : List PyData) => ((R.ok (PyData.int 6)).bind fun d => R.ok (d, u416) : R (PyData × List PyData))) u417).bind fun p => ((fun (u : List PyData) => (R.ok ([], u) : R (List PyData × List PyData))) p.2).bind fun q => R.ok (p.1 :: q.1, q.2) : R (List PyData × List PyData))) u415).bind fun q => m_law_take q.2 q.1 : R (PyData × List PyData))) x.2).bind fun y => (R.of (dIx x.1 y.1)).bind fun d => R.ok (d, y.2) : R (PyData × List PyData))) k.2 : R (PyData × List PyData))) u392).bind fun q403 => (fun v401 u402 => (((fun (u420 : List PyData) => (((fun (u432 : List PyData) => (((fun (u431 : List PyData) => ((R.ok v390).bind fun d => R.ok (d, u431) : R (PyData × List PyData))) u432).bind fun p => ((fun (u430 : List PyData) => (((fun (u429 : List PyData) => ((R.ok v391).bind fun d => R.ok (d, u429) : R (PyData × List PyData))) u430).bind fun p => ((fun (u428 : List PyData) => (((fun (u423 : List PyData) => (((fun (u424 : List PyData) => (((seqR [(R.ok (PyData.int 0)), (R.ok (PyData.int 1)), (R.ok (PyData.int 1)), (R.ok (PyData.int 2)), (R.ok (PyData.int 3)), (R.ok (PyData.int 5))]).bind fun ds => R.ok (PyData.tuple ds)).bind fun d => R.ok (d, u424) : R (PyData × List PyData))) u423).bind fun x => ((fun (u425 : List PyData) => (((fun (u427 : List PyData) => (((fun (u426 : List PyData) => ((R.ok (PyData.int 6)).bind fun d => R.ok (d, u426) : R (PyData × List PyData))) u427).bind fun p => ((fun (u : List PyData) => (R.ok ([], u) : R (List PyData × List PyData))) p.2).bind fun q => R.ok (p.1 :: q.1, q.2) : R (List PyData × List PyData))) u425).bind fun q => m_law_take q.2 q.1 : R (PyData × List PyData))) x.2).bind fun y => (R.of (dIx x.1 y.1)).bind fun d => R.ok (d, y.2) : R (PyData × List PyData))) u428).bind fun p => ((fun (u422 : List PyData) => (((fun (u421 : List PyData) => ((R.ok v401).bind fun d => R.ok (d, u421) : R (PyData × List PyData))) u422).bind fun p => ((fun (u : List PyData) => (R.ok ([], u) : R (List PyData × List PyData))) p.2).bind fun q => R.ok (p.1 :: q.1, q.2) : R (List PyData × List PyData))) p.2).bind fun q => R.ok (p.1 :: q.1, q.2) : R (List PyData × List PyData))) p.2).bind fun q => R.ok (p.1 :: q.1, q.2) : R (List PyData × List PyData))) p.2).bind fun q => R.ok (p.1 :: q.1, q.2) : R (List PyData × List PyData))) u420).bind fun p => R.ok (PyData.tuple p.1, p.2) : R (PyData × List PyData))) u402).bind fun q433 => (R.of (appD s388.2 q433.1)).bind fun l418 => ((fun l418 u434 => (.ok (.nx (u434, l418)))) l418 q433.2))) q403.1 q403.2)) q393.1 q394.1 q394.2)) s388) : List PyData × List PyData → PyData → R (Fl (PyData × List PyData) (List PyData × List PyData) (List PyData × List PyData)))
def r_law_work : List PyData → List PyData → R (Fl (PyData × List PyData) Empty Empty)
  | a0, [a1, a2] => (((fun (u382 : List PyData) => (((fun (u383 : List PyData) => ((R.ok (PyData.int 1)).bind fun d => R.ok (d, u383) : R (PyData × List PyData))) u382).bind fun x => ((fun (u384 : List PyData) => (((fun (u386 : List PyData) => (((fun (u385 : List PyData) => ((R.ok a1).bind fun d => R.ok (d, u385) : R (PyData × List PyData))) u386).bind fun p => ((fun (u : List PyData) => (R.ok ([], u) : R (List PyData × List PyData))) p.2).bind fun q => R.ok (p.1 :: q.1, q.2) : R (List PyData × List PyData))) u384).bind fun q => m_law_take q.2 q.1 : R (PyData × List PyData))) x.2).bind fun y => (R.of (dAdd x.1 y.1)).bind fun d => R.ok (d, y.2) : R (PyData × List PyData))) a0).bind fun q380 => ((fun (u387 : List PyData) => ((seqR []).bind fun d => R.ok (d, u387) : R (List PyData × List PyData))) q380.2).bind fun q381 => (fun v377 v378 u379 => (((fun (u441 : List PyData) => (((fun (u442 : List PyData) => (((fun (u446 : List PyData) => (((fun (u443 : List PyData) => (((R.ok a2).bind fun x444 => (R.ok (PyData.int 1)).bind fun y445 => R.of (dAdd x444 y445)).bind fun d => R.ok (d, u443) : R (PyData × List PyData))) u446).bind fun p => ((fun (u : List PyData) => (R.ok ([], u) : R (List PyData × List PyData))) p.2).bind fun q => R.ok (p.1 :: q.1, q.2) : R (List PyData × List PyData))) u442).bind fun q => m_law_take q.2 q.1 : R (PyData × List PyData))) u441).bind fun x => (R.of (dRange1 x.1)).bind fun ds => R.ok (ds, x.2) : R (List PyData × List PyData))) u379).bind fun q440 => (loopR (B := Empty) (L_law_work1 v377) q440.1 ((fun u439 => (u439, v378)) q440.2)).bind (seqF fun s388 => (((seqR [(R.ok v377), ((seqR [(((R.ok (.list s388.2)).bind fun d => R.of (dSortSet d)).bind fun ds => R.ok (PyData.list ds))]).bind fun ds => R.of (dTuple ds))]).bind fun ds => R.ok (PyData.tuple ds)).bind fun d => .ok (.rt ((fun d => (d, s388.1)) d)))))) q380.1 q381.1 q381.2)
  | _, _ => .no
def m_law_work (u ds : List PyData) : R (PyData × List PyData) := (r_law_work u ds).bind outF
theorem ok_law_work (T : Top P w K mg base tabs) : FnOk P w K mg base CX0 2 T.f_law_work T.d_law_work ["urn", "most", "wide"] (spU K tabs 3 m_law_work) := by
  refine fn_U T.F_law_work sc_law_work r_law_work (fun _ _ => rfl) fun ad a0 ds hl cdv A outer s H E hr => ?_
  match ds, hl with
  | [a1, a2], _ => exact EvB.cast (eb_parMF (E' := (fun u448 => [some (.own u448 (some ad)), some (.val a1), some (.val a2), none, none, none, none, none, none])) (u0 := a0) 4 5 rfl sc_law_work.nd (em_op op_addX od_self (em (fun u383 => ev_int)) (em_callU (FnOk.mono (ok_law_take T) (by decide)) hr T.g_law_take T.F_law_take.kp T.b_law_take (pv 0) (fun _ => rfl) (fun _ _ => rfl) (ema_cons (em (fun u385 => (ev_var 1 rfl (pv 1)))) ema_nil))) (emf (fun u387 => (ef_lst ea_nil))) (fun v377 v378 u379 => (eb_forM (S' := List PyData × List PyData) (E' := (fun u447 => [some (.own u447 (some ad)), some (.val a1), some (.val a2), none, some (.val v377), some (.own v378 none), none, none, none])) (u0 := u379) (vs := [3]) (fun s388 => [some (.own s388.1 (some ad)), some (.val a1), some (.val a2), none, some (.val v377), some (.own s388.2 none), none, none, none]) (fun u439 => (u439, v378)) rfl (emi_range1 T.zrange (em_callU (FnOk.mono (ok_law_take T) (by decide)) hr T.g_law_take T.F_law_take.kp T.b_law_take (pv 0) (fun _ => rfl) (fun _ _ => rfl) (ema_cons (em (fun u443 => (ev_op op_addX od_self (ev_var 2 rfl (pv 2)) ev_int))) ema_nil))) (fun u439 => (.same (.same (.same (.same (.same (.same (.same (.same (.same .nil)))))))))) (eg_name 3 (pg_name sc_law_work.nd rfl (by first | exact Or.inl rfl | exact Or.inr rfl))) (fun s388 p389 => (eb_parM (E' := (fun u437 => [some (.own u437 (some ad)), some (.val a1), some (.val a2), some (.val p389), some (.val v377), some (.own s388.2 none), none, none, none])) (u0 := s388.1) 7 8 rfl sc_law_work.nd (em_callU (FnOk.mono (ok_law_take T) (by decide)) hr T.g_law_take T.F_law_take.kp T.b_law_take (pv 0) (fun _ => rfl) (fun _ _ => rfl) (ema_cons (em (fun u396 => (ev_var 4 rfl (pv 4)))) ema_nil)) (em_callU (FnOk.mono (ok_law_take T) (by decide)) hr T.g_law_take T.F_law_take.kp T.b_law_take (pv 0) (fun _ => rfl) (fun _ _ => rfl) (ema_cons (em (fun u399 => (ev_var 4 rfl (pv 4)))) ema_nil)) (fun v390 v391 u392 => (eb_setM (E' := (fun u436 => [some (.own u436 (some ad)), some (.val a1), some (.val a2), some (.val p389), some (.val v377), some (.own s388.2 none), none, some (.val v390), some (.val v391)])) (u0 := u392) 6 sc_law_work.nd (em_if (emt (fun u405 => (et_cmp op_lt od_cmp (ev_var 7 rfl (pv 7)) (ev_var 8 rfl (pv 8)) (nomark _)))) (em_ix (em (fun u409 => (ev_tup (ea_cons ev_int (ea_cons ev_int (ea_cons ev_int (ea_cons ev_int (ea_cons ev_int (ea_cons ev_int ea_nil))))))))) (em_callU (FnOk.mono (ok_law_take T) (by decide)) hr T.g_law_take T.F_law_take.kp T.b_law_take (pv 0) (fun _ => rfl) (fun _ _ => rfl) (ema_cons (em (fun u411 => ev_int)) ema_nil)) (fun _ _ => rfl)) (em_ix (em (fun u414 => (ev_tup (ea_cons ev_int (ea_cons ev_int (ea_cons ev_int (ea_cons ev_int (ea_cons ev_int (ea_cons ev_int ea_nil))))))))) (em_callU (FnOk.mono (ok_law_take T) (by decide)) hr T.g_law_take T.F_law_take.kp T.b_law_take (pv 0) (fun _ => rfl) (fun _ _ => rfl) (ema_cons (em (fun u416 => ev_int)) ema_nil)) (fun _ _ => rfl))) (fun v401 u402 => (eb_appendM (E' := (fun u435 => [some (.own u435 (some ad)), some (.val a1), some (.val a2), some (.val p389), some (.val v377), some (.own s388.2 none), some (.val v401), some (.val v390), some (.val v391)])) (u0 := u402) 5 (pv 5) (em_tup (ema_cons (em (fun u431 => (ev_var 7 rfl (pv 7)))) (ema_cons (em (fun u429 => (ev_var 8 rfl (pv 8)))) (ema_cons (em_ix (em (fun u424 => (ev_tup (ea_cons ev_int (ea_cons ev_int (ea_cons ev_int (ea_cons ev_int (ea_cons ev_int (ea_cons ev_int ea_nil))))))))) (em_callU (FnOk.mono (ok_law_take T) (by decide)) hr T.g_law_take T.F_law_take.kp T.b_law_take (pv 0) (fun _ => rfl) (fun _ _ => rfl) (ema_cons (em (fun u426 => ev_int)) ema_nil)) (fun _ _ => rfl)) (ema_cons (em (fun u421 => (ev_var 6 rfl (pv 6)))) ema_nil))))) (fun _ => rfl) (fun l418 u434 => (eb_nil (s := (u434, l418)) (.same (.same (.same (.skip (.same (.same (.skip (.skip (.skip .nil))))))))))))))))) (fun s388 => (eb_frz 5 (eb_ret (ev_tup (ea_cons (ev_var 4 rfl (pv 4)) (ea_cons (ev_ty cx_tuple (by rfl) T.ztuple (by decide +kernel) (ea_cons (EvF.ev (ef_sortset (Room.hu64 hr) rfl T.zsorted T.zset (ev_var 5 rfl (pv 5)))) ea_nil)) ea_nil))) (fun d => (d, s388.1)) (fun _ => .same (le_none _))))) PassesOwn.never))) (by first | (dsimp only [r_law_work, L_law_work1]; done) | rfl)
abbrev s_law_rings : Stmt := topS 33
theorem sc_law_rings : FnScope ["work", "lap", "found", "line", "longer", "own", "need", "past"] ["work"] (defScope s_law_rings) := ⟨rfl, rfl, rfl, by decide +kernel, rfl, by decide +kernel, by decide +kernel⟩
def L_law_rings1 (a0 : PyData) := (fun (s457 : List PyData × PyData) d511 => (R.of ((fun d => some d) d511)).bind ((fun s457 p458 => (((((R.ok p458).bind fun x459 => ((R.ok (PyData.int 1)).bind fun x => R.of (dNeg x)).bind fun y460 => R.of (dIx x459 y460)).bind fun x461 => (R.ok (PyData.int 1)).bind fun y462 => R.of (dIx x461 y462)).bind fun x467 => (((R.ok p458).bind fun x463 => (R.ok (PyData.int 0)).bind fun y464 => R.of (dIx x463 y464)).bind fun x465 => (R.ok (PyData.int 0)).bind fun y466 => R.of (dIx x465 y466)).bind fun y468 => (R.of (dEq x467 y468)).bind asB).bind fun k => if k = true then ((R.ok p458).bind fun d470 => (R.of (appD s457.1 d470)).bind fun l469 => (.ok (.nx (l469, s457.2)))) else (((R.ok s457.2).bind fun x508 => ((lcR (((R.ok a0).bind fun x472 => (R.ok (PyData.int 1)).bind fun y473 => R.of (dIx x472 y473)).bind fun d => R.of (itemsD d)) (fun d => some d) (fun p474 => ((((R.ok p474).bind fun x483 => (R.ok (PyData.int 0)).bind fun y484 => R.of (dIx x483 y484)).bind fun x489 => (((R.ok p458).bind fun x485 => ((R.ok (PyData.int 1)).bind fun x => R.of (dNeg x)).bind fun y486 => R.of (dIx x485 y486)).bind fun x487 => (R.ok (PyData.int 1)).bind fun y488 => R.of (dIx x487 y488)).bind fun y490 => (R.of (dEq x489 y490)).bind asB).bind fun k => if k = true then ((((R.ok p474).bind fun x491 => (R.ok (PyData.int 0)).bind fun y492 => R.of (dIx x491 y492)).bind fun x497 => (((R.ok p458).bind fun x493 => (R.ok (PyData.int 0)).bind fun y494 => R.of (dIx x493 y494)).bind fun x495 => (R.ok (PyData.int 0)).bind fun y496 => R.of (dIx x495 y496)).bind fun y498 => (R.of (dGtI x497 y498)).bind asB).bind fun k => if k = true then (((R.ok p474).bind fun x499 => (R.ok (PyData.int 0)).bind fun y500 => R.of (dIx x499 y500)).bind fun x504 => ((lcR ((R.ok p458).bind fun d => R.of (itemsD d)) (fun d => some d) (fun p501 => (R.ok true)) (fun p501 => ((R.ok p501).bind fun x502 => (R.ok (PyData.int 0)).bind fun y503 => R.of (dIx x502 y503)))).bind fun ds => R.ok (PyData.list ds)).bind fun y505 => (R.of (dNotIn x504 y505)).bind asB) else R.ok false) else R.ok false)) (fun p474 => ((R.ok p458).bind fun x506 => ((seqR [(R.ok p474)]).bind fun ds => R.ok (PyData.tuple ds)).bind fun y507 => R.of (dAdd x506 y507)))).bind fun ds => R.ok (PyData.list ds)).bind fun y509 => R.of (dAdd x508 y509)).bind fun v471 => (.ok (.nx (s457.1, v471)))))) s457) : List PyData × PyData → PyData → R (Fl PyData (List PyData × PyData) (List PyData × PyData)))
def L_law_rings2 (a0 : PyData) := (fun (s454 : List PyData × PyData) d512 => (R.of ((fun d => some d) d512)).bind ((fun s454 p455 => (((seqR []).bind fun ds => R.ok (PyData.list ds)).bind fun v456 => (((R.ok s454.2).bind fun d => R.of (itemsD d)).bind fun ds => (loopR (B := (List PyData × PyData)) (L_law_rings1 a0) ds (s454.1, v456)).bind (seqF fun s457 => ((R.ok s457.2).bind fun v510 => (.ok (.nx (s457.1, v510)))))))) s454) : List PyData × PyData → PyData → R (Fl PyData (List PyData × PyData) (List PyData × PyData)))
def r_law_rings : List PyData → R (Fl PyData Empty Empty)
  | [a0] => ((seqR []).bind fun v449 => ((lcR (((R.ok a0).bind fun x451 => (R.ok (PyData.int 1)).bind fun y452 => R.of (dIx x451 y452)).bind fun d => R.of (itemsD d)) (fun d => some d) (fun p453 => (R.ok true)) (fun p453 => ((seqR [(R.ok p453)]).bind fun ds => R.ok (PyData.tuple ds)))).bind fun ds => R.ok (PyData.list ds)).bind fun v450 => ((((R.ok a0).bind fun x513 => (R.ok (PyData.int 0)).bind fun y514 => R.of (dIx x513 y514)).bind fun x => R.of (dRange1 x)).bind fun ds => (loopR (B := Empty) (L_law_rings2 a0) ds (v449, v450)).bind (seqF fun s454 => ((R.ok (.list s454.1)).bind fun d => .ok (.rt (id d))))))
  | _ => .no
def m_law_rings (ds : List PyData) : R PyData := (r_law_rings ds).bind outF
theorem ok_law_rings (T : Top P w K mg base tabs) : FnOk P w K mg base CX0 1 T.f_law_rings T.d_law_rings ["work"] (spF K tabs 1 m_law_rings) := by
  refine fn_F T.F_law_rings sc_law_rings r_law_rings (fun _ => rfl) fun ds hl cdv A outer s H E hr => ?_
  match ds, hl with
  | [a0], _ => exact EvB.cast (eb_parFV 2 3 rfl sc_law_rings.nd (ef_lst ea_nil) (ev_lc { hc := rfl, hN := sc_law_rings.nd, hi := (ei_seq (ev_ix (ev_var 0 rfl (pv 0)) ev_int (fun _ _ => rfl))), ok := ⟨[("need", 6)], blkOk_by (own := [("need", 6)]) (N := ["work", "lap", "found", "line", "longer", "own", "need", "past"]) (sc := defScope s_law_rings) (by decide +kernel), rfl⟩, ho := rfl, hput := fun p i hi => (pk_name 6) p _ i hi, hg := fun _ _ _ _ _ => (eg_name 6 (pg_name sc_law_rings.nd rfl (by first | exact Or.inl rfl | exact Or.inr rfl))), ht := fun _ _ _ _ _ p453 => ets_nil, he := fun _ _ _ _ _ p453 => (ev_tup (ea_cons (ev_var 6 rfl (pv 6)) ea_nil)), hs := fun _ => rfl }) (fun v449 v450 => (eb_for (S' := List PyData × PyData) (vs := [1]) (fun s454 => [some (.val a0), none, some (.own s454.1 none), some (.val s454.2), none, none, none, none]) (v449, v450) rfl (ei_range1 (by rfl) T.zrange (ev_ix (ev_var 0 rfl (pv 0)) ev_int (fun _ _ => rfl))) (.same (.same (.same (.same (.same (.same (.same (.same .nil)))))))) (eg_name 1 (pg_name sc_law_rings.nd rfl (by first | exact Or.inl rfl | exact Or.inr rfl))) (fun s454 p455 => (eb_set 4 sc_law_rings.nd (ev_lst ea_nil) (fun v456 => (eb_for (S' := List PyData × PyData) (vs := [5]) (fun s457 => [some (.val a0), some (.val p455), some (.own s457.1 none), some (.val s454.2), some (.val s457.2), none, none, none]) (s454.1, v456) rfl (ei_seq (ev_var 3 rfl (pv 3))) (.same (.same (.same (.same (.same (.same (.same (.same .nil)))))))) (eg_name 5 (pg_name sc_law_rings.nd rfl (by first | exact Or.inl rfl | exact Or.inr rfl))) (fun s457 p458 => (eb_if2 (et_cmp (op_eqD (Room.hu64 hr)) od_eq (ev_ix (ev_ix (ev_var 5 rfl (pv 5)) (ev_un un_neg ud_neg ev_int) (fun _ _ => rfl)) ev_int (fun _ _ => rfl)) (ev_ix (ev_ix (ev_var 5 rfl (pv 5)) ev_int (fun _ _ => rfl)) ev_int (fun _ _ => rfl)) (nomark _)) (eb_append 2 (pv 2) (ev_var 5 rfl (pv 5)) (fun l469 => (eb_nil (s := (l469, s457.2)) (.same (.same (.same (.same (.same (.skip (.same (.same .nil))))))))))) (eb_set 4 sc_law_rings.nd (ev_op op_addX od_self (ev_var 4 rfl (pv 4)) (ev_lc { hc := rfl, hN := sc_law_rings.nd, hi := (ei_seq (ev_ix (ev_var 0 rfl (pv 0)) ev_int (fun _ _ => rfl))), ok := ⟨[("need", 6)], blkOk_by (own := [("need", 6)]) (N := ["work", "lap", "found", "line", "longer", "own", "need", "past"]) (sc := defScope s_law_rings) (by decide +kernel), rfl⟩, ho := rfl, hput := fun p i hi => (pk_name 6) p _ i hi, hg := fun _ _ _ _ _ => (eg_name 6 (pg_name sc_law_rings.nd rfl (by first | exact Or.inl rfl | exact Or.inr rfl))), ht := fun _ _ _ _ _ p474 => (ets_one (ew_pt (ew_and (et_cmp (op_eqD (Room.hu64 hr)) od_eq (ev_ix (ev_var 6 rfl (pv 6)) ev_int (fun _ _ => rfl)) (ev_ix (ev_ix (ev_var 5 rfl (pv 5)) (ev_un un_neg ud_neg ev_int) (fun _ _ => rfl)) ev_int (fun _ _ => rfl)) (nomark _)) (ew_and (et_cmp op_gt od_cmp (ev_ix (ev_var 6 rfl (pv 6)) ev_int (fun _ _ => rfl)) (ev_ix (ev_ix (ev_var 5 rfl (pv 5)) ev_int (fun _ _ => rfl)) ev_int (fun _ _ => rfl)) (nomark _)) (ew_and1 (et_cmp (op_notInX (Room.hu hr)) od_self (ev_ix (ev_var 6 rfl (pv 6)) ev_int (fun _ _ => rfl)) (ev_lc { hc := rfl, hN := sc_law_rings.nd, hi := (ei_seq (ev_var 5 rfl (pv 5))), ok := ⟨[("past", 7)], blkOk_by (by kernel_rfl), rfl⟩, ho := rfl, hput := fun p i hi => (pk_name 7) p _ i hi, hg := fun _ _ _ _ _ => (eg_name 7 (pg_name sc_law_rings.nd rfl (by first | exact Or.inl rfl | exact Or.inr rfl))), ht := fun _ _ _ _ _ p501 => ets_nil, he := fun _ _ _ _ _ p501 => (ev_ix (ev_var 7 rfl (pv 7)) ev_int (fun _ _ => rfl)), hs := fun _ => rfl }) (rfl))))))), he := fun _ _ _ _ _ p474 => (ev_op op_addX od_self (ev_var 5 rfl (pv 5)) (ev_tup (ea_cons (ev_var 6 rfl (pv 6)) ea_nil))), hs := fun _ => rfl })) (fun v471 => (eb_nil (s := (s457.1, v471)) (.same (.same (.same (.same (.same (.skip (.same (.same .nil))))))))))))) (fun s457 => (eb_set 3 sc_law_rings.nd (ev_var 4 rfl (pv 4)) (fun v510 => (eb_nil (s := (s457.1, v510)) (.same (.skip (.same (.same (.skip (.same (.same (.same .nil)))))))))))) PassesOwn.never)))) (fun s454 => (eb_frz 2 (eb_ret (ev_var 2 rfl (pv 2)) id (fun _ => le_none _)))) PassesOwn.never))) (by first | (dsimp only [r_law_rings, L_law_rings1, L_law_rings2]; done) | rfl)
abbrev s_law_sums : Stmt := topS 34
theorem sc_law_sums : FnScope ["needs", "need"] ["needs"] (defScope s_law_sums) := ⟨rfl, rfl, rfl, by decide +kernel, rfl, by decide +kernel, by decide +kernel⟩
def r_law_sums : List PyData → R (Fl PyData Empty Empty)
  | [a0] => (((seqR [((seqR [((lcR ((R.ok a0).bind fun d => R.of (itemsD d)) (fun d => some d) (fun p515 => (R.ok true)) (fun p515 => ((R.ok p515).bind fun x516 => (R.ok (PyData.int 2)).bind fun y517 => R.of (dIx x516 y517)))).bind fun ds => R.ok (PyData.list ds))]).bind fun ds => R.of (dSum ds)), ((seqR [((lcR ((R.ok a0).bind fun d => R.of (itemsD d)) (fun d => some d) (fun p518 => (R.ok true)) (fun p518 => ((R.ok p518).bind fun x519 => (R.ok (PyData.int 3)).bind fun y520 => R.of (dIx x519 y520)))).bind fun ds => R.ok (PyData.list ds))]).bind fun ds => R.of (dSum ds))]).bind fun ds => R.ok (PyData.tuple ds)).bind fun d => .ok (.rt (id d)))
  | _ => .no
def m_law_sums (ds : List PyData) : R PyData := (r_law_sums ds).bind outF
theorem ok_law_sums (T : Top P w K mg base tabs) : FnOk P w K mg base CX0 1 T.f_law_sums T.d_law_sums ["needs"] (spF K tabs 1 m_law_sums) := by
  refine fn_F T.F_law_sums sc_law_sums r_law_sums (fun _ => rfl) fun ds hl cdv A outer s H E hr => ?_
  match ds, hl with
  | [a0], _ => exact EvB.cast (eb_ret (ev_tup (ea_cons (ev_bi (cx_sum rfl) (by rfl) T.zsum (by decide +kernel) (ea_cons (ev_lc { hc := rfl, hN := sc_law_sums.nd, hi := (ei_seq (ev_var 0 rfl (pv 0))), ok := ⟨[("need", 1)], blkOk_by (own := [("need", 1)]) (N := ["needs", "need"]) (sc := defScope s_law_sums) (by decide +kernel), rfl⟩, ho := rfl, hput := fun p i hi => (pk_name 1) p _ i hi, hg := fun _ _ _ _ _ => (eg_name 1 (pg_name sc_law_sums.nd rfl (by first | exact Or.inl rfl | exact Or.inr rfl))), ht := fun _ _ _ _ _ p515 => ets_nil, he := fun _ _ _ _ _ p515 => (ev_ix (ev_var 1 rfl (pv 1)) ev_int (fun _ _ => rfl)), hs := fun _ => rfl }) ea_nil)) (ea_cons (ev_bi (cx_sum rfl) (by rfl) T.zsum (by decide +kernel) (ea_cons (ev_lc { hc := rfl, hN := sc_law_sums.nd, hi := (ei_seq (ev_var 0 rfl (pv 0))), ok := ⟨[("need", 1)], blkOk_by (own := [("need", 1)]) (N := ["needs", "need"]) (sc := defScope s_law_sums) (by decide +kernel), rfl⟩, ho := rfl, hput := fun p i hi => (pk_name 1) p _ i hi, hg := fun _ _ _ _ _ => (eg_name 1 (pg_name sc_law_sums.nd rfl (by first | exact Or.inl rfl | exact Or.inr rfl))), ht := fun _ _ _ _ _ p518 => ets_nil, he := fun _ _ _ _ _ p518 => (ev_ix (ev_var 1 rfl (pv 1)) ev_int (fun _ _ => rfl)), hs := fun _ => rfl }) ea_nil)) ea_nil))) id (fun _ => le_none _)) (by first | (dsimp only [r_law_sums]; done) | rfl)
abbrev s_law_heard : Stmt := topS 35
theorem sc_law_heard : FnScope ["call", "found"] ["call"] (defScope s_law_heard) := ⟨rfl, rfl, rfl, by decide +kernel, rfl, by decide +kernel, by decide +kernel⟩
abbrev s_law_low : Stmt := topS 36
theorem sc_law_low : FnScope ["top", "bottom", "near", "far"] ["top", "bottom"] (defScope s_law_low) := ⟨rfl, rfl, rfl, by decide +kernel, rfl, by decide +kernel, by decide +kernel⟩
def r_law_low : List PyData → R (Fl PyData Empty Empty)
  | [a0, a1] => ((R.ok a0).bind fun v521 => (R.ok a1).bind fun v522 => ((whileR (B := Empty) (fun (s523 : PyData × PyData) => ((R.ok s523.2).bind fun x524 => (R.ok (PyData.int 0)).bind fun y525 => (R.of (dNe x524 y525)).bind asB)) (fun s523 => (((R.ok s523.2).bind fun v526 => (((seqR [(R.ok s523.1)]).bind fun ds => R.of (dInt ds)).bind fun x528 => (R.ok s523.2).bind fun y529 => R.of (dMod x528 y529)).bind fun v527 => (.ok (.nx (v526, v527)))) : R (Fl PyData (PyData × PyData) (PyData × PyData)))) 100000 (v521, v522)).bind (seqF fun s523 => (((seqR [((R.ok a0).bind fun x530 => (R.ok s523.1).bind fun y531 => R.of (dFdiv x530 y531)), ((R.ok a1).bind fun x532 => (R.ok s523.1).bind fun y533 => R.of (dFdiv x532 y533))]).bind fun ds => R.ok (PyData.tuple ds)).bind fun d => .ok (.rt (id d))))))
  | _ => .no
def m_law_low (ds : List PyData) : R PyData := (r_law_low ds).bind outF
theorem ok_law_low (T : Top P w K mg base tabs) : FnOk P w K mg base CX0 1 T.f_law_low T.d_law_low ["top", "bottom"] (spF K tabs 2 m_law_low) := by
  refine fn_F T.F_law_low sc_law_low r_law_low (fun _ => rfl) fun ds hl cdv A outer s H E hr => ?_
  match ds, hl with
  | [a0, a1], _ => exact EvB.cast (eb_par 2 3 rfl sc_law_low.nd (ev_var 0 rfl (pv 0)) (ev_var 1 rfl (pv 1)) (fun v521 v522 => (eb_while (S' := PyData × PyData) (fun s523 => [some (.val a0), some (.val a1), some (.val s523.1), some (.val s523.2)]) (v521, v522) 100000 (.same (.same (.same (.same .nil)))) (fun s523 => (et_cmp (op_neD (Room.hu64 hr)) od_ne (ev_var 3 rfl (pv 3)) ev_int (nomark _))) (fun s523 => (eb_par 2 3 rfl sc_law_low.nd (ev_var 3 rfl (pv 3)) (ev_op op_modN od_mod (ev_ty cx_int (by rfl) T.zint (by decide +kernel) (ea_cons (ev_var 2 rfl (pv 2)) ea_nil)) (ev_var 3 rfl (pv 3))) (fun v526 v527 => (eb_nil (s := (v526, v527)) (.same (.same (.same (.same .nil)))))))) (fun s523 => (eb_ret (ev_tup (ea_cons (ev_op op_fdivN od_fdiv (ev_var 0 rfl (pv 0)) (ev_var 2 rfl (pv 2))) (ea_cons (ev_op op_fdivN od_fdiv (ev_var 1 rfl (pv 1)) (ev_var 2 rfl (pv 2))) ea_nil))) id (fun _ => le_none _))) PassesOwn.never))) (by first | (dsimp only [r_law_low]; done) | rfl)
abbrev slaw : Stmt := topS 37
theorem sclaw : FnScope ["script", "urn", "work", "never", "best", "least", "beat", "wide", "far", "rest", "due", "got", "many", "needs", "soft", "sums", "delays", "rounds", "good", "told", "circle", "ring", "own", "one", "other", "delay"] ["script"] (defScope slaw) := ⟨rfl, rfl, rfl, by decide +kernel, rfl, by decide +kernel, by decide +kernel⟩
def Llaw1 := (fun (s637 : PyData) d661 => (R.of ((decTup (decCons (fun d => some d) (decOne (fun d => some d)))) d661)).bind ((fun s637 p638 => ((((R.ok p638.2).bind fun x641 => (R.ok (PyData.int 0)).bind fun y642 => (R.of (dGtI x641 y642)).bind asB).bind fun k => if k = true then (((R.ok p638.1).bind fun x645 => ((R.ok s637).bind fun x643 => (R.ok (PyData.int 1)).bind fun y644 => R.of (dIx x643 y644)).bind fun y646 => R.of (dMul x645 y646)).bind fun x651 => (((R.ok s637).bind fun x647 => (R.ok (PyData.int 0)).bind fun y648 => R.of (dIx x647 y648)).bind fun x649 => (R.ok p638.2).bind fun y650 => R.of (dMul x649 y650)).bind fun y652 => (R.of (dGtI x651 y652)).bind asB) else R.ok false).bind fun k => if k = true then (((seqR [(R.ok p638.1), (R.ok p638.2)]).bind (m_law_low)).bind fun v653 => (.ok (.nx v653))) else (.ok (.nx s637)))) s637) : PyData → PyData → R (Fl PyData (PyData) (PyData)))
def Llaw2 (p545 : PyData × PyData) (v591 : PyData) := (fun (s596 : Unit) d662 => (R.of ((fun d => some d) d662)).bind ((fun s596 p597 => (((seqR [((seqR [(R.ok p545.1), (R.ok p597)]).bind (mtimes_of)), ((seqR [(R.ok p545.1), (R.ok p597)]).bind (ma_circle))]).bind fun ds => R.ok (PyData.tuple ds)).bind fun d599 => (R.of ((decTup (decCons (fun d => some d) (decOne (fun d => some d)))) d599)).bind fun p598 => (((((R.ok v591).bind fun x601 => (R.ok PyData.none).bind fun y602 => R.of (dIsNot x601 y602)).bind asB).bind fun k => if k = true then ((R.ok p597).bind fun x603 => (R.ok v591).bind fun y604 => R.of (dGeI x603 y604)) else R.ok (PyData.bool false)).bind fun v600 => (((((seqR [((seqR [((R.ok p598.1).bind fun x605 => (R.ok PyData.none).bind fun y606 => R.of (dIsNot x605 y606)), ((R.ok p598.2).bind fun x607 => (R.ok PyData.none).bind fun y608 => R.of (dIs x607 y608))]).bind fun ds => R.ok (PyData.list ds)), ((seqR [(R.ok v600), (R.ok v600)]).bind fun ds => R.ok (PyData.list ds))]).bind (m_law_same 10)).bind asB).bind fun k => R.ok (!k)).bind fun k => if k = true then (((R.ok (PyData.bool false)).bind fun d => .ok (.rt (id d)))).bind retF else (((((R.ok v600).bind asB).bind fun k => if k = true then (((seqR [(R.ok p545.1), (R.ok p597), (R.ok p598.1)]).bind (mis_times)).bind fun x611 => (R.ok (PyData.bool true)).bind fun y612 => (R.of (dIsNot x611 y612)).bind asB) else R.ok false).bind fun k => if k = true then R.ok true else ((((R.ok v600).bind asB).bind fun k => R.ok (!k)).bind fun k => if k = true then (((seqR [(R.ok p545.1), (R.ok p597), (R.ok p598.2)]).bind (mbars)).bind fun x613 => (R.ok (PyData.bool true)).bind fun y614 => (R.of (dIsNot x613 y614)).bind asB) else R.ok false)).bind fun k => if k = true then (((R.ok (PyData.bool false)).bind fun d => .ok (.rt (id d)))).bind retF else (((((R.ok v600).bind asB).bind fun k => R.ok (!k)).bind fun k => if k = true then (((lcR ((R.ok (PyData.int 1)).bind fun x => ((R.ok p597).bind fun x615 => (R.ok (PyData.int 1)).bind fun y616 => R.of (dAdd x615 y616)).bind fun y => R.of (dRange2 x y)) (fun d => some d) (fun p617 => (((seqR [(R.ok p545.1), (R.ok p617), (R.ok p598.2)]).bind (mbars)).bind fun x618 => (R.ok (PyData.bool true)).bind fun y619 => (R.of (dIsNot x618 y619)).bind asB)) (fun p617 => (R.ok (PyData.int 1)))).bind fun ds => R.ok (PyData.list ds)).bind fun x620 => ((seqR []).bind fun ds => R.ok (PyData.list ds)).bind fun y621 => (R.of (dNe x620 y621)).bind asB) else R.ok false).bind fun k => if k = true then (((R.ok (PyData.bool false)).bind fun d => .ok (.rt (id d)))).bind retF else (.ok (.nx ())))))))) s596) : Unit → PyData → R (Fl PyData (Unit) (Unit)))
def Llaw3 := (fun (s574 : PyData) d663 => (R.of ((decTup (decCons (fun d => some d) (decOne (fun d => some d)))) d663)).bind ((fun s574 p575 => ((((R.ok p575.2).bind fun x578 => (R.ok (PyData.int 0)).bind fun y579 => (R.of (dGtI x578 y579)).bind asB).bind fun k => if k = true then (((R.ok p575.1).bind fun x582 => ((R.ok s574).bind fun x580 => (R.ok (PyData.int 1)).bind fun y581 => R.of (dIx x580 y581)).bind fun y583 => R.of (dMul x582 y583)).bind fun x588 => (((R.ok s574).bind fun x584 => (R.ok (PyData.int 0)).bind fun y585 => R.of (dIx x584 y585)).bind fun x586 => (R.ok p575.2).bind fun y587 => R.of (dMul x586 y587)).bind fun y589 => (R.of (dGtI x588 y589)).bind asB) else R.ok false).bind fun k => if k = true then (((seqR [(R.ok p575.1), (R.ok p575.2)]).bind (m_law_low)).bind fun v590 => (.ok (.nx v590))) else (.ok (.nx s574)))) s574) : PyData → PyData → R (Fl PyData (PyData) (PyData)))
def rlaw : List PyData → R (Fl PyData Empty Empty)
  | [a0] => (((seqR [((seqR [(R.ok a0), (R.ok (PyData.int 1))]).bind (m_law_cells)), (R.ok (PyData.int 0))]).bind (m_law_box)).bind fun v534 => (((fun (u538 : List PyData) => (((fun (u542 : List PyData) => (((fun (u541 : List PyData) => ((R.ok (PyData.int 5)).bind fun d => R.ok (d, u541) : R (PyData × List PyData))) u542).bind fun p => ((fun (u540 : List PyData) => (((fun (u539 : List PyData) => ((R.ok (PyData.int 9)).bind fun d => R.ok (d, u539) : R (PyData × List PyData))) u540).bind fun p => ((fun (u : List PyData) => (R.ok ([], u) : R (List PyData × List PyData))) p.2).bind fun q => R.ok (p.1 :: q.1, q.2) : R (List PyData × List PyData))) p.2).bind fun q => R.ok (p.1 :: q.1, q.2) : R (List PyData × List PyData))) u538).bind fun q => m_law_work q.2 q.1 : R (PyData × List PyData))) v534).bind fun q537 => (fun v535 u536 => ((R.ok v535).bind fun d544 => (R.of ((decTup (decCons (fun d => some d) (decOne (fun d => some d)))) d544)).bind fun p543 => (((fun (u549 : List PyData) => (((fun (u556 : List PyData) => (((fun (u553 : List PyData) => (((fun (u555 : List PyData) => (((fun (u554 : List PyData) => ((R.ok v535).bind fun d => R.ok (d, u554) : R (PyData × List PyData))) u555).bind fun p => ((fun (u : List PyData) => (R.ok ([], u) : R (List PyData × List PyData))) p.2).bind fun q => R.ok (p.1 :: q.1, q.2) : R (List PyData × List PyData))) u553).bind fun q => m_law_mixed 10 q.2 q.1 : R (PyData × List PyData))) u556).bind fun p => ((fun (u552 : List PyData) => (((fun (u550 : List PyData) => (((lcR (((seqR [(R.ok v535)]).bind (m_law_rings)).bind fun d => R.of (itemsD d)) (fun d => some d) (fun p551 => (R.ok true)) (fun p551 => ((seqR [(R.ok p551)]).bind (m_law_sums)))).bind fun ds => R.ok (PyData.list ds)).bind fun d => R.ok (d, u550) : R (PyData × List PyData))) u552).bind fun p => ((fun (u : List PyData) => (R.ok ([], u) : R (List PyData × List PyData))) p.2).bind fun q => R.ok (p.1 :: q.1, q.2) : R (List PyData × List PyData))) p.2).bind fun q => R.ok (p.1 :: q.1, q.2) : R (List PyData × List PyData))) u549).bind fun p => R.ok (PyData.tuple p.1, p.2) : R (PyData × List PyData))) u536).bind fun q548 => (R.of ((decTup (decCons (fun d => some d) (decOne (fun d => some d)))) q548.1)).bind fun p545 => (fun u547 => ((((lcR ((R.ok p545.2).bind fun d => R.of (itemsD d)) (fun d => some d) (fun p560 => ((((R.ok p560).bind fun x565 => (R.ok (PyData.int 1)).bind fun y566 => R.of (dIx x565 y566)).bind fun x567 => (R.ok (PyData.int 0)).bind fun y568 => (R.of (dEq x567 y568)).bind asB).bind fun k => if k = true then (((R.ok p560).bind fun x569 => (R.ok (PyData.int 0)).bind fun y570 => R.of (dIx x569 y570)).bind fun x571 => (R.ok (PyData.int 0)).bind fun y572 => (R.of (dGtI x571 y572)).bind asB) else R.ok false)) (fun p560 => (R.ok p560))).bind fun ds => R.ok (PyData.list ds)).bind fun x558 => ((seqR []).bind fun ds => R.ok (PyData.list ds)).bind fun y559 => R.of (dNe x558 y559)).bind fun v557 => (((seqR [(R.ok (PyData.int 0)), (R.ok (PyData.int 1))]).bind fun ds => R.ok (PyData.tuple ds)).bind fun v573 => (((R.ok p545.2).bind fun d => R.of (itemsD d)).bind fun ds => (loopR (B := Empty) (Llaw3) ds v573).bind (seqF fun s574 => ((((R.ok v557).bind asB).bind fun k => if k = true then (R.ok PyData.none) else ((seqR [(R.ok (PyData.int 1)), ((seqR [(((seqR [(R.ok (PyData.int 0)), ((R.ok s574).bind fun x592 => (R.ok (PyData.int 0)).bind fun y593 => R.of (dIx x592 y593)), ((R.ok s574).bind fun x594 => (R.ok (PyData.int 1)).bind fun y595 => R.of (dIx x594 y595))]).bind fun ds => R.of (dRange3 ds)).bind fun ds => R.ok (PyData.list ds))]).bind fun ds => R.of (dLen ds))]).bind fun ds => R.of (dMax ds))).bind fun v591 => (((((seqR [((seqR [((seqR [(R.ok p545.1)]).bind (mleast_beat)), ((R.heard "Unfit" "unfit" ((seqR [(R.ok p545.1)]).bind (mgreatest_ratio))).bind flatR)]).bind fun ds => R.ok (PyData.list ds)), ((seqR [(R.ok v591), (((R.ok v557).bind asB).bind fun k => if k = true then (R.ok (PyData.str "unfit")) else (R.ok s574))]).bind fun ds => R.ok (PyData.list ds))]).bind (m_law_same 10)).bind asB).bind fun k => R.ok (!k)).bind fun k => if k = true then (((R.ok (PyData.bool false)).bind fun d => .ok (.rt (id d)))).bind retF else (((R.ok (PyData.int 1)).bind fun x => (R.ok (PyData.int 9)).bind fun y => R.of (dRange2 x y)).bind fun ds => (loopR (B := Empty) (Llaw2 p545 v591) ds ()).bind (seqF fun s596 => (((R.ok v591).bind fun x622 => (R.ok PyData.none).bind fun y623 => (R.of (dIs x622 y623)).bind asB).bind fun k => if k = true then (((R.ok (PyData.bool true)).bind fun d => .ok (.rt (id d)))).bind retF else (((seqR [(R.ok p543.1), ((seqR [((lcR ((R.ok p543.2).bind fun d => R.of (itemsD d)) (decTup (decCons (fun d => some d) (decCons (fun d => some d) (decCons (fun d => some d) (decOne (fun d => some d)))))) (fun p625 => (R.ok true)) (fun p625 => ((seqR [(R.ok p625.1), (R.ok p625.2.1), ((R.ok (PyData.int 3)).bind fun x626 => (R.ok p625.2.2.1).bind fun y627 => R.of (dMul x626 y627)), (R.ok p625.2.2.2)]).bind fun ds => R.ok (PyData.tuple ds)))).bind fun ds => R.ok (PyData.list ds))]).bind fun ds => R.of (dTuple ds))]).bind fun ds => R.ok (PyData.tuple ds)).bind fun v624 => (((seqR [((((lcR ((R.ok p543.2).bind fun d => R.of (itemsD d)) (decTup (decCons (fun d => some d) (decCons (fun d => some d) (decCons (fun d => some d) (decOne (fun d => some d)))))) (fun p629 => ((R.ok p629.2.2.2).bind fun x630 => (R.ok (PyData.int 2)).bind fun y631 => (R.of (dLtI x630 y631)).bind asB)) (fun p629 => ((seqR [(R.ok p629.1), (R.ok p629.2.1), (R.ok p629.2.2.1), ((R.ok (PyData.int 3)).bind fun x632 => (R.ok p629.2.2.2).bind fun y633 => R.of (dMul x632 y633))]).bind fun ds => R.ok (PyData.tuple ds)))).bind fun ds => R.ok (PyData.list ds)).bind fun d => R.of (dSortTups d)).bind fun ds => R.ok (PyData.list ds))]).bind fun ds => R.of (dTuple ds)).bind fun v628 => (((lcR (((seqR [((seqR [(R.ok p543.1), (R.ok v628)]).bind fun ds => R.ok (PyData.tuple ds))]).bind (m_law_rings)).bind fun d => R.of (itemsD d)) (fun d => some d) (fun p635 => (R.ok true)) (fun p635 => ((seqR [(R.ok p635)]).bind (m_law_sums)))).bind fun ds => R.ok (PyData.list ds)).bind fun v634 => (((seqR [(R.ok (PyData.int 0)), (R.ok (PyData.int 1))]).bind fun ds => R.ok (PyData.tuple ds)).bind fun v636 => (((R.ok v634).bind fun d => R.of (itemsD d)).bind fun ds => (loopR (B := Empty) (Llaw1) ds v636).bind (seqF fun s637 => (((seqR [((seqR [(R.ok v624)]).bind (mgreatest_ratio)), ((seqR [((seqR [(R.ok p543.1), (R.ok v628)]).bind fun ds => R.ok (PyData.tuple ds))]).bind (mgreatest_ratio)), ((seqR [((seqR [(R.ok p543.1), ((seqR []).bind fun ds => R.ok (PyData.tuple ds))]).bind fun ds => R.ok (PyData.tuple ds))]).bind (mleast_beat))]).bind fun ds => R.ok (PyData.list ds)).bind fun v654 => (((seqR [(R.ok v654), ((seqR [((seqR [((R.ok (PyData.int 3)).bind fun x657 => ((R.ok s574).bind fun x655 => (R.ok (PyData.int 0)).bind fun y656 => R.of (dIx x655 y656)).bind fun y658 => R.of (dMul x657 y658)), ((R.ok s574).bind fun x659 => (R.ok (PyData.int 1)).bind fun y660 => R.of (dIx x659 y660))]).bind (m_law_low)), (R.ok s637), (R.ok (PyData.int 1))]).bind fun ds => R.ok (PyData.list ds))]).bind (m_law_same 10)).bind fun d => .ok (.rt (id d)))))))))))))))))))) q548.2))) q537.1 q537.2))
  | _ => .no
def mlaw (ds : List PyData) : R PyData := (rlaw ds).bind outF
theorem oklaw (T : Top P w K mg base tabs) : FnOk P w K mg base CX0 19 T.flaw T.dlaw ["script"] (spF K tabs 1 mlaw) := by
  refine fn_FC T.Claw sclaw rlaw (fun _ => rfl) fun ds hl A outer s H E hr => ?_
  match ds, hl with
  | [a0], _ => exact EvB.cast (eb_setF 1 sclaw.nd (ef_callO (FnOk.mono (ok_law_box T) (by decide)) hr T.g_law_box T.F_law_box.kp T.b_law_box (ea_cons (ev_call (FnOk.mono (ok_law_cells T) (by decide)) hr T.g_law_cells T.F_law_cells.kp T.b_law_cells (ea_cons (ev_var 0 rfl (pv 0)) (ea_cons ev_int ea_nil)) (fun _ h => seqR_len h)) (ea_cons ev_int ea_nil)) (fun _ h => seqR_len h)) (fun v534 => (eb_setM (E' := (fun u665 => [some (.val a0), some (.own u665 none), none, none, none, none, none, none, none, none, none, none, none, none, none, none, none, none, none, none, none, none, none, none, none, none])) (u0 := v534) 2 sclaw.nd (em_callU (FnOk.mono (ok_law_work T) (by decide)) hr T.g_law_work T.F_law_work.kp T.b_law_work (pv 1) (fun _ => rfl) (fun _ _ => rfl) (ema_cons (em (fun u541 => ev_int)) (ema_cons (em (fun u539 => ev_int)) ema_nil))) (fun v535 u536 => (eb_unp (vs := [12, 13]) (ev_var 2 rfl (pv 2)) (eg_tup rfl (egs_cons (eg_name 12 (pg_name sclaw.nd rfl (by first | exact Or.inl rfl | exact Or.inr rfl))) (egs_one (eg_name 13 (pg_name sclaw.nd rfl (by first | exact Or.inl rfl | exact Or.inr rfl)))))) (fun p543 => (eb_unpM (E' := (fun u664 => [some (.val a0), some (.own u664 none), some (.val v535), none, none, none, none, none, none, none, none, none, some (.val p543.1), some (.val p543.2), none, none, none, none, none, none, none, none, none, none, none, none])) (u0 := u536) (vs := [14, 15]) (em_tup (ema_cons (em_callU (FnOk.mono (ok_law_mixed T 10) (by decide)) hr T.g_law_mixed T.F_law_mixed.kp T.b_law_mixed (pv 1) (fun _ => rfl) (fun _ _ => rfl) (ema_cons (em (fun u554 => (ev_var 2 rfl (pv 2)))) ema_nil)) (ema_cons (em (fun u550 => (ev_lc { hc := rfl, hN := sclaw.nd, hi := (ei_seq (ev_call (FnOk.mono (ok_law_rings T) (by decide)) hr T.g_law_rings T.F_law_rings.kp T.b_law_rings (ea_cons (ev_var 2 rfl (pv 2)) ea_nil) (fun _ h => seqR_len h))), ok := ⟨[("ring", 21)], blkOk_by (own := [("ring", 21)]) (N := ["script", "urn", "work", "never", "best", "least", "beat", "wide", "far", "rest", "due", "got", "many", "needs", "soft", "sums", "delays", "rounds", "good", "told", "circle", "ring", "own", "one", "other", "delay"]) (sc := defScope slaw) (by decide +kernel), rfl⟩, ho := rfl, hput := fun p i hi => (pk_name 21) p _ i hi, hg := fun _ _ _ _ _ => (eg_name 21 (pg_name sclaw.nd rfl (by first | exact Or.inl rfl | exact Or.inr rfl))), ht := fun _ _ _ _ _ p551 => ets_nil, he := fun _ _ _ _ _ p551 => (ev_call (FnOk.mono (ok_law_sums T) (by decide)) hr T.g_law_sums T.F_law_sums.kp T.b_law_sums (ea_cons (ev_var 21 rfl (pv 21)) ea_nil) (fun _ h => seqR_len h)), hs := fun _ => rfl }))) ema_nil))) (eg_tup rfl (egs_cons (eg_name 14 (pg_name sclaw.nd rfl (by first | exact Or.inl rfl | exact Or.inr rfl))) (egs_one (eg_name 15 (pg_name sclaw.nd rfl (by first | exact Or.inl rfl | exact Or.inr rfl)))))) (fun p545 u547 => (eb_set 3 sclaw.nd (ev_cmp (op_neD (Room.hu64 hr)) od_ne (ev_lc { hc := rfl, hN := sclaw.nd, hi := (ei_seq (ev_var 15 rfl (pv 15))), ok := ⟨[("own", 22)], blkOk_by (own := [("own", 22)]) (N := ["script", "urn", "work", "never", "best", "least", "beat", "wide", "far", "rest", "due", "got", "many", "needs", "soft", "sums", "delays", "rounds", "good", "told", "circle", "ring", "own", "one", "other", "delay"]) (sc := defScope slaw) (by decide +kernel), rfl⟩, ho := rfl, hput := fun p i hi => (pk_name 22) p _ i hi, hg := fun _ _ _ _ _ => (eg_name 22 (pg_name sclaw.nd rfl (by first | exact Or.inl rfl | exact Or.inr rfl))), ht := fun _ _ _ _ _ p560 => (ets_one (ew_pt (ew_and (et_cmp (op_eqD (Room.hu64 hr)) od_eq (ev_ix (ev_var 22 rfl (pv 22)) ev_int (fun _ _ => rfl)) ev_int (nomark _)) (ew_and1 (et_cmp op_gt od_cmp (ev_ix (ev_var 22 rfl (pv 22)) ev_int (fun _ _ => rfl)) ev_int (nomark _)))))), he := fun _ _ _ _ _ p560 => (ev_var 22 rfl (pv 22)), hs := fun _ => rfl }) (ev_lst ea_nil) (nomark _)) (fun v557 => (eb_set 4 sclaw.nd (ev_tup (ea_cons ev_int (ea_cons ev_int ea_nil))) (fun v573 => (eb_for (S' := PyData) (vs := [16, 17]) (fun s574 => [some (.val a0), some (.own u547 none), some (.val v535), some (.val v557), some (.val s574), none, none, none, none, none, none, none, some (.val p543.1), some (.val p543.2), some (.val p545.1), some (.val p545.2), none, none, none, none, none, none, none, none, none, none]) v573 rfl (ei_seq (ev_var 15 rfl (pv 15))) (.same (.same (.same (.same (.same (.same (.same (.same (.same (.same (.same (.same (.same (.same (.same (.same (.same (.same (.same (.same (.same (.same (.same (.same (.same (.same .nil)))))))))))))))))))))))))) (eg_tup rfl (egs_cons (eg_name 16 (pg_name sclaw.nd rfl (by first | exact Or.inl rfl | exact Or.inr rfl))) (egs_one (eg_name 17 (pg_name sclaw.nd rfl (by first | exact Or.inl rfl | exact Or.inr rfl)))))) (fun s574 p575 => (eb_if2 (ew_pt (ew_and (et_cmp op_gt od_cmp (ev_var 17 rfl (pv 17)) ev_int (nomark _)) (ew_and1 (et_cmp op_gt od_cmp (ev_op op_mul od_mul (ev_var 16 rfl (pv 16)) (ev_ix (ev_var 4 rfl (pv 4)) ev_int (fun _ _ => rfl))) (ev_op op_mul od_mul (ev_ix (ev_var 4 rfl (pv 4)) ev_int (fun _ _ => rfl)) (ev_var 17 rfl (pv 17))) (nomark _))))) (eb_set 4 sclaw.nd (ev_call (FnOk.mono (ok_law_low T) (by decide)) hr T.g_law_low T.F_law_low.kp T.b_law_low (ea_cons (ev_var 16 rfl (pv 16)) (ea_cons (ev_var 17 rfl (pv 17)) ea_nil)) (fun _ h => seqR_len h)) (fun v590 => (eb_nil (s := v590) (.same (.same (.same (.same (.same (.same (.same (.same (.same (.same (.same (.same (.same (.same (.same (.same (.skip (.skip (.same (.same (.same (.same (.same (.same (.same (.same .nil))))))))))))))))))))))))))))) (eb_nil (s := s574) (.same (.same (.same (.same (.same (.same (.same (.same (.same (.same (.same (.same (.same (.same (.same (.same (.skip (.skip (.same (.same (.same (.same (.same (.same (.same (.same .nil))))))))))))))))))))))))))))) (fun s574 => (eb_set 5 sclaw.nd (ev_if (et_val (ev_var 3 rfl (pv 3))) ev_non (ev_bi (cx_max rfl (Room.hu hr)) (by rfl) T.zmax (by decide +kernel) (ea_cons ev_int (ea_cons (ev_bi cx_len (by rfl) T.zlen (by decide +kernel) (ea_cons (EvF.ev (ef_listrange rfl T.zlist T.zrange (ea_cons ev_int (ea_cons (ev_ix (ev_var 4 rfl (pv 4)) ev_int (fun _ _ => rfl)) (ea_cons (ev_ix (ev_var 4 rfl (pv 4)) ev_int (fun _ _ => rfl)) ea_nil))))) ea_nil)) ea_nil)))) (fun v591 => (eb_ifr (et_not (et_val (ev_call (FnOk.mono (ok_law_same T 10) (by decide)) hr T.g_law_same T.F_law_same.kp T.b_law_same (ea_cons (ev_lst (ea_cons (ev_call (FnOk.mono (okleast_beat T) (by decide)) hr T.gleast_beat T.Fleast_beat.kp T.bleast_beat (ea_cons (ev_var 14 rfl (pv 14)) ea_nil) (fun _ h => seqR_len h)) (ea_cons (ev_heard (k := 14) (cls := T.cls) T.F_law_heard T.g_law_heard T.b_law_heard sc_law_heard (by exact Or.inl rfl) (fun cdv => by exact heard_gives sc_law_heard rfl T.xUnfit.g (by decide) rfl (by decide) (by decide)) T.xUnfit T.cls_Unfit T.tlaw (by rfl) (by exact T.mlaw) (by exact T.ulaw) (by exact Room.mono hr (by decide)) (by exact LamX.lamS_by (sc := defScope slaw) (by decide +kernel)) (by rfl) (by intros; rfl) (fun _ _ _ _ _ _ _ hr => (ev_callX (FnOk.mono (okgreatest_ratio T) (by decide)) (passes_call (takes_of rfl rfl rfl rfl) fun _ _ _ _ h => h) hr T.ggreatest_ratio T.Fgreatest_ratio.kp T.bgreatest_ratio (ea_cons (ev_var 14 rfl (pv 14)) ea_nil) (fun _ h => seqR_len h)))) ea_nil))) (ea_cons (ev_lst (ea_cons (ev_var 5 rfl (pv 5)) (ea_cons (ev_if (et_val (ev_var 3 rfl (pv 3))) ev_str (ev_var 4 rfl (pv 4))) ea_nil))) ea_nil)) (fun _ h => seqR_len h)))) (eb_ret ev_bl id (fun _ => le_none _)) (eb_for (S' := Unit) (vs := [6]) (fun s596 => [some (.val a0), some (.own u547 none), some (.val v535), some (.val v557), some (.val s574), some (.val v591), none, none, none, none, none, none, some (.val p543.1), some (.val p543.2), some (.val p545.1), some (.val p545.2), none, none, none, none, none, none, none, none, none, none]) () rfl (ei_range2 (by rfl) T.zrange ev_int ev_int) (.same (.same (.same (.same (.same (.same (.same (.same (.same (.same (.same (.same (.same (.same (.same (.same (.same (.same (.same (.same (.same (.same (.same (.same (.same (.same .nil)))))))))))))))))))))))))) (eg_name 6 (pg_name sclaw.nd rfl (by first | exact Or.inl rfl | exact Or.inr rfl))) (fun s596 p597 => (eb_unp (vs := [19, 20]) (ev_tup (ea_cons (ev_call (FnOk.mono (oktimes_of T) (by decide)) hr T.gtimes_of T.Ftimes_of.kp T.btimes_of (ea_cons (ev_var 14 rfl (pv 14)) (ea_cons (ev_var 6 rfl (pv 6)) ea_nil)) (fun _ h => seqR_len h)) (ea_cons (ev_call (FnOk.mono (oka_circle T) (by decide)) hr T.ga_circle T.Fa_circle.kp T.ba_circle (ea_cons (ev_var 14 rfl (pv 14)) (ea_cons (ev_var 6 rfl (pv 6)) ea_nil)) (fun _ h => seqR_len h)) ea_nil))) (eg_tup rfl (egs_cons (eg_name 19 (pg_name sclaw.nd rfl (by first | exact Or.inl rfl | exact Or.inr rfl))) (egs_one (eg_name 20 (pg_name sclaw.nd rfl (by first | exact Or.inl rfl | exact Or.inr rfl)))))) (fun p598 => (eb_set 18 sclaw.nd (ev_and (ev_cmp op_isNotX od_isNot (ev_var 5 rfl (pv 5)) ev_non (nomark _)) (ev_one (ev_cmp op_ge od_cmp (ev_var 6 rfl (pv 6)) (ev_var 5 rfl (pv 5)) (nomark _)))) (fun v600 => (eb_ifr (et_not (et_val (ev_call (FnOk.mono (ok_law_same T 10) (by decide)) hr T.g_law_same T.F_law_same.kp T.b_law_same (ea_cons (ev_lst (ea_cons (ev_cmp op_isNotX od_isNot (ev_var 19 rfl (pv 19)) ev_non (nomark _)) (ea_cons (ev_cmp op_isX od_is (ev_var 20 rfl (pv 20)) ev_non (nomark _)) ea_nil))) (ea_cons (ev_lst (ea_cons (ev_var 18 rfl (pv 18)) (ea_cons (ev_var 18 rfl (pv 18)) ea_nil))) ea_nil)) (fun _ h => seqR_len h)))) (eb_ret ev_bl id (fun _ => le_none _)) (eb_ifr (ew_pt (ew_or (ew_pt (ew_and (et_val (ev_var 18 rfl (pv 18))) (ew_and1 (et_cmp op_isNotX od_isNot (ev_call (FnOk.mono (okis_times T) (by decide)) hr T.gis_times T.Fis_times.kp T.bis_times (ea_cons (ev_var 14 rfl (pv 14)) (ea_cons (ev_var 6 rfl (pv 6)) (ea_cons (ev_var 19 rfl (pv 19)) ea_nil))) (fun _ h => seqR_len h)) ev_bl (nomark _))))) (ew_or1 (ew_pt (ew_and (et_not (et_val (ev_var 18 rfl (pv 18)))) (ew_and1 (et_cmp op_isNotX od_isNot (ev_call (FnOk.mono (okbars T) (by decide)) hr T.gbars T.Fbars.kp T.bbars (ea_cons (ev_var 14 rfl (pv 14)) (ea_cons (ev_var 6 rfl (pv 6)) (ea_cons (ev_var 20 rfl (pv 20)) ea_nil))) (fun _ h => seqR_len h)) ev_bl (nomark _)))))))) (eb_ret ev_bl id (fun _ => le_none _)) (eb_ifr (ew_pt (ew_and (et_not (et_val (ev_var 18 rfl (pv 18)))) (ew_and1 (et_cmp (op_neD (Room.hu64 hr)) od_ne (ev_lc { hc := rfl, hN := sclaw.nd, hi := (ei_range2 (by rfl) T.zrange ev_int (ev_op op_addX od_self (ev_var 6 rfl (pv 6)) ev_int)), ok := ⟨[("own", 22)], blkOk_by (own := [("own", 22)]) (N := ["script", "urn", "work", "never", "best", "least", "beat", "wide", "far", "rest", "due", "got", "many", "needs", "soft", "sums", "delays", "rounds", "good", "told", "circle", "ring", "own", "one", "other", "delay"]) (sc := defScope slaw) (by decide +kernel), rfl⟩, ho := rfl, hput := fun p i hi => (pk_name 22) p _ i hi, hg := fun _ _ _ _ _ => (eg_name 22 (pg_name sclaw.nd rfl (by first | exact Or.inl rfl | exact Or.inr rfl))), ht := fun _ _ _ _ _ p617 => (ets_one (et_cmp op_isNotX od_isNot (ev_call (FnOk.mono (okbars T) (by decide)) hr T.gbars T.Fbars.kp T.bbars (ea_cons (ev_var 14 rfl (pv 14)) (ea_cons (ev_var 22 rfl (pv 22)) (ea_cons (ev_var 20 rfl (pv 20)) ea_nil))) (fun _ h => seqR_len h)) ev_bl (nomark _))), he := fun _ _ _ _ _ p617 => ev_int, hs := fun _ => rfl }) (ev_lst ea_nil) (nomark _))))) (eb_ret ev_bl id (fun _ => le_none _)) (eb_nil (s := ()) (.same (.same (.same (.same (.same (.same (.skip (.same (.same (.same (.same (.same (.same (.same (.same (.same (.same (.same (.skip (.skip (.skip (.same (.same (.same (.same (.same .nil))))))))))))))))))))))))))))))))))) (fun s596 => (eb_ifr (et_cmp op_isX od_is (ev_var 5 rfl (pv 5)) ev_non (nomark _)) (eb_ret ev_bl id (fun _ => le_none _)) (eb_set 7 sclaw.nd (ev_tup (ea_cons (ev_var 12 rfl (pv 12)) (ea_cons (ev_ty cx_tuple (by rfl) T.ztuple (by decide +kernel) (ea_cons (ev_lc { hc := rfl, hN := sclaw.nd, hi := (ei_seq (ev_var 13 rfl (pv 13))), ok := ⟨[("one", 23), ("other", 24), ("delay", 25), ("rounds", 17)], blkOk_by (own := [("one", 23), ("other", 24), ("delay", 25), ("rounds", 17)]) (N := ["script", "urn", "work", "never", "best", "least", "beat", "wide", "far", "rest", "due", "got", "many", "needs", "soft", "sums", "delays", "rounds", "good", "told", "circle", "ring", "own", "one", "other", "delay"]) (sc := defScope slaw) (by decide +kernel), rfl⟩, ho := rfl, hput := fun p i hi => (pk_cons (pk_name 23) (pk_cons (pk_name 24) (pk_cons (pk_name 25) (pk_name 17)))) p _ i hi, hg := fun _ _ _ _ _ => (eg_tup rfl (egs_cons (eg_name 23 (pg_name sclaw.nd rfl (by first | exact Or.inl rfl | exact Or.inr rfl))) (egs_cons (eg_name 24 (pg_name sclaw.nd rfl (by first | exact Or.inl rfl | exact Or.inr rfl))) (egs_cons (eg_name 25 (pg_name sclaw.nd rfl (by first | exact Or.inl rfl | exact Or.inr rfl))) (egs_one (eg_name 17 (pg_name sclaw.nd rfl (by first | exact Or.inl rfl | exact Or.inr rfl)))))))), ht := fun _ _ _ _ _ p625 => ets_nil, he := fun _ _ _ _ _ p625 => (ev_tup (ea_cons (ev_var 23 rfl (pv 23)) (ea_cons (ev_var 24 rfl (pv 24)) (ea_cons (ev_op op_mul od_mul ev_int (ev_var 25 rfl (pv 25))) (ea_cons (ev_var 17 rfl (pv 17)) ea_nil))))), hs := fun _ => rfl }) ea_nil)) ea_nil))) (fun v624 => (eb_set 8 sclaw.nd (ev_ty cx_tuple (by rfl) T.ztuple (by decide +kernel) (ea_cons (EvF.ev (ef_sorttups T.zsorted (ev_lc { hc := rfl, hN := sclaw.nd, hi := (ei_seq (ev_var 13 rfl (pv 13))), ok := ⟨[("one", 23), ("other", 24), ("delay", 25), ("rounds", 17)], blkOk_by (own := [("one", 23), ("other", 24), ("delay", 25), ("rounds", 17)]) (N := ["script", "urn", "work", "never", "best", "least", "beat", "wide", "far", "rest", "due", "got", "many", "needs", "soft", "sums", "delays", "rounds", "good", "told", "circle", "ring", "own", "one", "other", "delay"]) (sc := defScope slaw) (by decide +kernel), rfl⟩, ho := rfl, hput := fun p i hi => (pk_cons (pk_name 23) (pk_cons (pk_name 24) (pk_cons (pk_name 25) (pk_name 17)))) p _ i hi, hg := fun _ _ _ _ _ => (eg_tup rfl (egs_cons (eg_name 23 (pg_name sclaw.nd rfl (by first | exact Or.inl rfl | exact Or.inr rfl))) (egs_cons (eg_name 24 (pg_name sclaw.nd rfl (by first | exact Or.inl rfl | exact Or.inr rfl))) (egs_cons (eg_name 25 (pg_name sclaw.nd rfl (by first | exact Or.inl rfl | exact Or.inr rfl))) (egs_one (eg_name 17 (pg_name sclaw.nd rfl (by first | exact Or.inl rfl | exact Or.inr rfl)))))))), ht := fun _ _ _ _ _ p629 => (ets_one (et_cmp op_lt od_cmp (ev_var 17 rfl (pv 17)) ev_int (nomark _))), he := fun _ _ _ _ _ p629 => (ev_tup (ea_cons (ev_var 23 rfl (pv 23)) (ea_cons (ev_var 24 rfl (pv 24)) (ea_cons (ev_var 25 rfl (pv 25)) (ea_cons (ev_op op_mul od_mul ev_int (ev_var 17 rfl (pv 17))) ea_nil))))), hs := fun _ => rfl }))) ea_nil)) (fun v628 => (eb_lc 9 { hc := rfl, hN := sclaw.nd, hi := (ei_seq (ev_call (FnOk.mono (ok_law_rings T) (by decide)) hr T.g_law_rings T.F_law_rings.kp T.b_law_rings (ea_cons (ev_tup (ea_cons (ev_var 12 rfl (pv 12)) (ea_cons (ev_var 8 rfl (pv 8)) ea_nil))) ea_nil) (fun _ h => seqR_len h))), ok := ⟨[("ring", 21)], blkOk_by (own := [("ring", 21)]) (N := ["script", "urn", "work", "never", "best", "least", "beat", "wide", "far", "rest", "due", "got", "many", "needs", "soft", "sums", "delays", "rounds", "good", "told", "circle", "ring", "own", "one", "other", "delay"]) (sc := defScope slaw) (by decide +kernel), rfl⟩, ho := rfl, hput := fun p i hi => (pk_name 21) p _ i hi, hg := fun _ _ _ _ _ => (eg_name 21 (pg_name sclaw.nd rfl (by first | exact Or.inl rfl | exact Or.inr rfl))), ht := fun _ _ _ _ _ p635 => ets_nil, he := fun _ _ _ _ _ p635 => (ev_call (FnOk.mono (ok_law_sums T) (by decide)) hr T.g_law_sums T.F_law_sums.kp T.b_law_sums (ea_cons (ev_var 21 rfl (pv 21)) ea_nil) (fun _ h => seqR_len h)), hs := fun _ => rfl } (fun v634 => (eb_set 10 sclaw.nd (ev_tup (ea_cons ev_int (ea_cons ev_int ea_nil))) (fun v636 => (eb_for (S' := PyData) (vs := [16, 17]) (fun s637 => [some (.val a0), some (.own u547 none), some (.val v535), some (.val v557), some (.val s574), some (.val v591), none, some (.val v624), some (.val v628), some (.val v634), some (.val s637), none, some (.val p543.1), some (.val p543.2), some (.val p545.1), some (.val p545.2), none, none, none, none, none, none, none, none, none, none]) v636 rfl (ei_seq (ev_var 9 rfl (pv 9))) (.same (.same (.same (.same (.same (.same (.same (.same (.same (.same (.same (.same (.same (.same (.same (.same (.same (.same (.same (.same (.same (.same (.same (.same (.same (.same .nil)))))))))))))))))))))))))) (eg_tup rfl (egs_cons (eg_name 16 (pg_name sclaw.nd rfl (by first | exact Or.inl rfl | exact Or.inr rfl))) (egs_one (eg_name 17 (pg_name sclaw.nd rfl (by first | exact Or.inl rfl | exact Or.inr rfl)))))) (fun s637 p638 => (eb_if2 (ew_pt (ew_and (et_cmp op_gt od_cmp (ev_var 17 rfl (pv 17)) ev_int (nomark _)) (ew_and1 (et_cmp op_gt od_cmp (ev_op op_mul od_mul (ev_var 16 rfl (pv 16)) (ev_ix (ev_var 10 rfl (pv 10)) ev_int (fun _ _ => rfl))) (ev_op op_mul od_mul (ev_ix (ev_var 10 rfl (pv 10)) ev_int (fun _ _ => rfl)) (ev_var 17 rfl (pv 17))) (nomark _))))) (eb_set 10 sclaw.nd (ev_call (FnOk.mono (ok_law_low T) (by decide)) hr T.g_law_low T.F_law_low.kp T.b_law_low (ea_cons (ev_var 16 rfl (pv 16)) (ea_cons (ev_var 17 rfl (pv 17)) ea_nil)) (fun _ h => seqR_len h)) (fun v653 => (eb_nil (s := v653) (.same (.same (.same (.same (.same (.same (.same (.same (.same (.same (.same (.same (.same (.same (.same (.same (.skip (.skip (.same (.same (.same (.same (.same (.same (.same (.same .nil))))))))))))))))))))))))))))) (eb_nil (s := s637) (.same (.same (.same (.same (.same (.same (.same (.same (.same (.same (.same (.same (.same (.same (.same (.same (.skip (.skip (.same (.same (.same (.same (.same (.same (.same (.same .nil))))))))))))))))))))))))))))) (fun s637 => (eb_set 11 sclaw.nd (ev_lst (ea_cons (ev_callX0 (FnOk.mono (okgreatest_ratio T) (by decide)) passL hr T.ggreatest_ratio T.Fgreatest_ratio.kp T.bgreatest_ratio (ea_cons (ev_var 7 rfl (pv 7)) ea_nil) (fun _ h => seqR_len h)) (ea_cons (ev_callX0 (FnOk.mono (okgreatest_ratio T) (by decide)) passL hr T.ggreatest_ratio T.Fgreatest_ratio.kp T.bgreatest_ratio (ea_cons (ev_tup (ea_cons (ev_var 12 rfl (pv 12)) (ea_cons (ev_var 8 rfl (pv 8)) ea_nil))) ea_nil) (fun _ h => seqR_len h)) (ea_cons (ev_call (FnOk.mono (okleast_beat T) (by decide)) hr T.gleast_beat T.Fleast_beat.kp T.bleast_beat (ea_cons (ev_tup (ea_cons (ev_var 12 rfl (pv 12)) (ea_cons (ev_tup ea_nil) ea_nil))) ea_nil) (fun _ h => seqR_len h)) ea_nil)))) (fun v654 => (eb_ret (ev_call (FnOk.mono (ok_law_same T 10) (by decide)) hr T.g_law_same T.F_law_same.kp T.b_law_same (ea_cons (ev_var 11 rfl (pv 11)) (ea_cons (ev_lst (ea_cons (ev_call (FnOk.mono (ok_law_low T) (by decide)) hr T.g_law_low T.F_law_low.kp T.b_law_low (ea_cons (ev_op op_mul od_mul ev_int (ev_ix (ev_var 4 rfl (pv 4)) ev_int (fun _ _ => rfl))) (ea_cons (ev_ix (ev_var 4 rfl (pv 4)) ev_int (fun _ _ => rfl)) ea_nil)) (fun _ h => seqR_len h)) (ea_cons (ev_var 10 rfl (pv 10)) (ea_cons ev_int ea_nil)))) ea_nil)) (fun _ h => seqR_len h)) id (fun _ => le_none _))))) PassesOwn.never))))))))))) PassesOwn.never))))) PassesOwn.never))))))))))))) (by first | (dsimp only [rlaw, Llaw1, Llaw2, Llaw3]; done) | rfl)
end
end K64

set_option maxHeartbeats 4000000
namespace K64
open PySem PySem.Spec PyProof.Rows L2 SE BF
theorem take_hi {a b c k : Int} (ha : 0 < a) (hk : 1 ≤ k) (hk2 : k < 1073741824) : m_law_take [.int a, .int b, .int c] [.int k] = .ok (.int (a.fmod k), [.int (a.fdiv k), .int b, .int c]) := by
  unfold m_law_take
  simp [r_law_take, ix0, ix1, ix2, put0, put2, ha, dMod_int (show k ≠ 0 by omega), dFdiv_int (show k ≠ 0 by omega) (show k.natAbs < 1073741824 by omega), retF]
theorem take_lo {b c k : Int} (hc : 0 ≤ c) (hc2 : c < 1000000) (hk : 1 ≤ k) (hk2 : k < 1073741824) : m_law_take [.int 0, .int b, .int c] [.int k] = .ok (.int ((drawn b c).fmod k), [.int 0, .int b, .int (c + 1)]) := by
  have m1 : SE.MulOk 48271 (c + 1) := mulOk_l (by decide) (by decide)
  have m2 : SE.MulOk (b + 48271 * (c + 1)) (39373 + (c + 1)) := mulOk_r (by omega) (by omega)
  have f1 := fmod_bd ((b + 48271 * (c + 1)) * (39373 + (c + 1))) (show (0 : Int) < 2147483647 by decide)
  have f2 := fmod_bd (((b + 48271 * (c + 1)) * (39373 + (c + 1))).fmod 2147483647) (show (0 : Int) < 40009 by decide)
  have m3 : SE.MulOk (((b + 48271 * (c + 1)) * (39373 + (c + 1))).fmod 2147483647 + (c + 1) + b.fdiv 1000003) ((((b + 48271 * (c + 1)) * (39373 + (c + 1))).fmod 2147483647).fmod 40009 + 7) := mulOk_r (by omega) (by omega)
  have m4 : ∀ x : Int, SE.MulOk x 48271 := fun x => mulOk_r (by decide) (by decide)
  unfold m_law_take
  simp [r_law_take, ix0, ix1, ix2, put0, put2, dMod_int (show k ≠ 0 by omega), dMod_int (show (2147483647 : Int) ≠ 0 by decide), dMod_int (show (40009 : Int) ≠ 0 by decide), dMod_int (show (2147483629 : Int) ≠ 0 by decide), dMod_int (show (2147483587 : Int) ≠ 0 by decide),
    dFdiv_int (show (1000003 : Int) ≠ 0 by decide) (by decide), dFdiv_int (show (64 : Int) ≠ 0 by decide) (by decide), dMul_int m1, dMul_int m2, dMul_int m3, dMul_int (m4 _), drawn]
theorem take_ok {n : Nat} {u : List PyData} {k : Int} (h : UrnOk n u) (hn : n < 1000000) (hk : 1 ≤ k) (hk2 : k < 1073741824) : ∃ r u', m_law_take u [.int k] = .ok (.int r, u') ∧ 0 ≤ r ∧ r < k ∧ UrnOk (n + 1) u' := by
  obtain ⟨a, b, c, rfl, h2, h3, h4⟩ := h
  by_cases ha : 0 < a
  · have f := fmod_bd a (show 0 < k by omega)
    have g : 0 ≤ a.fdiv k := by
      rw [Int.fdiv_eq_ediv_of_nonneg _ (by omega)]
      exact Int.ediv_nonneg h2 (by omega)
    exact ⟨_, _, take_hi ha hk hk2, f.1, f.2, _, _, _, rfl, g, h3, by omega⟩
  · have e : a = 0 := by omega
    subst e
    have f := fmod_bd (drawn b c) (show 0 < k by omega)
    exact ⟨_, _, take_lo h3 (by omega) hk hk2, f.1, f.2, _, _, _, rfl, Int.le_refl _, by omega, by omega⟩
theorem mixed_list (N : Nat) (ih : ∀ (d : PyData) (n : Nat) (u : List PyData), dep d < N → noDict d = true → UrnOk n u → n + nodes d < 1000000 → ∃ d' u', m_law_mixed N u [d] = .ok (d', u') ∧ Soft d d' ∧ UrnOk (n + nodes d) u') (f : PyData → List PyData → R (Option PyData × List PyData))
    (hf : ∀ d u, f d u = (m_law_mixed N u [d]).bind fun q => .ok (some q.1, q.2)) : ∀ (ds : List PyData) (n : Nat) (u : List PyData), depL ds < N → noDictL ds = true → UrnOk n u → n + nodesL ds < 1000000 →
    ∃ ds' u', filtM f ds u = .ok (ds', u') ∧ SoftAll ds ds' ∧ UrnOk (n + nodesL ds) u'
  | [], n, u, _, _, h, _ => ⟨[], u, rfl, .nil, by simpa [nodesL] using h⟩
  | d :: ds, n, u, hd, hn, h, hl => by
    simp only [depL] at hd
    simp only [noDictL, Bool.and_eq_true] at hn
    simp only [nodesL] at hl
    obtain ⟨d', u1, e1, s1, h1⟩ := ih d n u (by omega) hn.1 h (by omega)
    obtain ⟨ds', u2, e2, s2, h2⟩ := mixed_list N ih f hf ds (n + nodes d) u1 (by omega) hn.2 h1 (by omega)
    refine ⟨d' :: ds', u2, by simp [hf, e1, e2], .cons s1 s2, ?_⟩
    simp only [nodesL]
    rw [← Nat.add_assoc]
    exact h2
theorem mixed_ok : ∀ (N : Nat) (d : PyData) (n : Nat) (u : List PyData), dep d < N → noDict d = true → UrnOk n u → n + nodes d < 1000000 → ∃ d' u', m_law_mixed N u [d] = .ok (d', u') ∧ Soft d d' ∧ UrnOk (n + nodes d) u'
  | 0, _, _, _, h, _, _, _ => absurd h (Nat.not_lt_zero _)
  | N + 1, d, n, u, hd, hn, h, hl => by
    have leaf : (∀ ds, d ≠ .list ds) → (∀ ds, d ≠ .tuple ds) → ∃ d' u', m_law_mixed (N + 1) u [d] = .ok (d', u') ∧ Soft d d' ∧ UrnOk (n + nodes d) u' := fun h1 h2 => by
      refine ⟨d, u, ?_, .same d ?_, h.mono (Nat.le_add_right _ _)⟩
      · unfold m_law_mixed
        cases d <;> simp_all [r_law_mixed, tyR2, isTy, retF, noDict]
      · cases d <;> simp_all [itemsD]
    have seq : ∀ ds, itemsD d = some ds → depL ds < N → noDictL ds = true → nodes d = nodesL ds + 1 → tyR2 "list" "tuple" d = .ok (.bool true) → ∃ d' u', m_law_mixed (N + 1) u [d] = .ok (d', u') ∧ Soft d d' ∧ UrnOk (n + nodes d) u' := fun ds e h1 h2 h3 h4 => by
      rw [h3] at hl ⊢
      obtain ⟨ds', u1, e1, s1, g1⟩ := mixed_list N (mixed_ok N) (turnM (fun d => some d) (fun _ _ => R.ok true) (fun p u => m_law_mixed N u [p])) (fun d u => by simp [turnM]) ds n u h1 h2 h (by omega)
      obtain ⟨r, u2, e2, r0, r1, g2⟩ := take_ok (k := 2) g1 (by omega) (by decide) (by decide)
      have hr : r = 0 ∨ r = 1 := by omega
      refine ⟨if r = 0 then .list ds' else .tuple ds', u2, ?_, .seq e (by split <;> rfl) s1, by rw [← Nat.add_assoc]; exact g2⟩
      unfold m_law_mixed
      rcases hr with rfl | rfl
      · simp [r_law_mixed, h4, e, lcM, e1, e2, dEq, SeqAt.shaped, PyData.canLay0, PyData.depth, PyData.eqv]
      · simp [r_law_mixed, h4, e, lcM, e1, e2, dEq, SeqAt.shaped, PyData.canLay0, PyData.depth, PyData.eqv, dTuple_list]
    cases d with
    | list ds =>
      simp only [dep, noDict] at hd hn
      exact seq ds rfl (by omega) hn rfl rfl
    | tuple ds =>
      simp only [dep, noDict] at hd hn
      exact seq ds rfl (by omega) hn rfl rfl
    | _ => exact leaf (fun _ z => by cases z) (fun _ z => by cases z)
theorem tupled_list (N : Nat) (ih : ∀ d : PyData, dep d < N → noDict d = true → mtupled N [d] = .ok (hard d)) (f : PyData → R (Option PyData)) (hf : ∀ d, f d = (mtupled N [d]).bind fun q => .ok (some q)) : ∀ ds : List PyData, depL ds < N → noDictL ds = true → filtR f ds = .ok (hardL ds)
  | [], _, _ => rfl
  | d :: ds, h, hn => by
    simp only [depL] at h
    simp only [noDictL, Bool.and_eq_true] at hn
    simp [hf, ih d (by omega) hn.1, tupled_list N ih f hf ds (by omega) hn.2, hardL]
theorem tupled_ok : ∀ (N : Nat) (d : PyData), dep d < N → noDict d = true → mtupled N [d] = .ok (hard d)
  | 0, _, h, _ => absurd h (Nat.not_lt_zero _)
  | N + 1, d, h, hn => by
    have seq : ∀ ds, itemsD d = some ds → depL ds < N → noDictL ds = true → hard d = .tuple (hardL ds) → tyR2 "list" "tuple" d = .ok (.bool true) → mtupled (N + 1) [d] = .ok (hard d) := fun ds e h1 h2 h3 h4 => by
      have e1 := tupled_list N (tupled_ok N) (turnR (fun d => some d) (fun _ => R.ok true) (fun p => mtupled N [p])) (fun d => by simp [turnR]) ds h1 h2
      unfold mtupled
      simp [rtupled, h4, e, lcR, e1, dTuple_list, h3, retF]
    cases d with
    | list ds =>
      simp only [dep, noDict] at h hn
      exact seq ds rfl (by omega) hn rfl rfl
    | tuple ds =>
      simp only [dep, noDict] at h hn
      exact seq ds rfl (by omega) hn rfl rfl
    | dict _ => simp [noDict] at hn
    | _ =>
      unfold mtupled
      simp [rtupled, tyR2, isTy, hard]
theorem same_list (N : Nat) (ih : ∀ d : PyData, dep d < N → okD d = true → m_law_same N [d, d] = .ok (.bool true)) (f : PyData → R (Option PyData)) (hf : ∀ d e, f (.tuple [d, e]) = (m_law_same N [d, e]).bind fun q => .ok (some q)) : ∀ ds : List PyData, depL ds < N → okL ds = true →
    filtR f (pairs ds ds) = .ok (List.replicate ds.length (.bool true))
  | [], _, _ => rfl
  | d :: ds, h, hn => by
    simp only [depL] at h
    simp only [okL, Bool.and_eq_true] at hn
    simp [pairs, hf, ih d (by omega) hn.1, same_list N ih f hf ds (by omega) hn.2, List.replicate_succ]
theorem same_ok : ∀ (N : Nat) (d : PyData), dep d < N → okD d = true → m_law_same N [d, d] = .ok (.bool true)
  | 0, _, h, _ => absurd h (Nat.not_lt_zero _)
  | N + 1, d, h, hn => by
    have ne : ∀ b : Bool, dNe (.bool b) (.bool b) = some (.bool false) := fun b => by cases b <;> rfl
    have seq : ∀ ds, itemsD d = some ds → depL ds < N → okL ds = true → ds.length ≤ 100000 → (∃ b, tyR "list" d = .ok (.bool b)) → (∃ b, tyR "tuple" d = .ok (.bool b)) → tyR2 "list" "tuple" d = .ok (.bool true) → dLen [d] = some (.int ds.length) → m_law_same (N + 1) [d, d] = .ok (.bool true) := fun ds e h1 h2 hl ⟨b1, t1⟩ ⟨b2, t2⟩ h4 h5 => by
      have e1 := same_list N (same_ok N) (turnR (decTup (decCons (fun d => some d) (decOne (fun d => some d)))) (fun _ => R.ok true) (fun p => m_law_same N [p.1, p.2])) (fun d e => by simp [turnR, decTup, decCons, decOne, itemsD]) ds h1 h2
      have hz : dZipL [d, d] = some (pairs ds ds) := by
        have hp : (pairs ds ds).length ≤ sizeLine := by rw [SE.pairs_len]; exact Nat.le_trans (by omega : min ds.length ds.length ≤ 100000) (by decide)
        simp [dZipL, dZip, e, hp]
      unfold m_law_same
      simp only [r_law_same, R.bind_ok, h4, t1, t2, ne, R.of_some, asB_bool, if_true, Bool.false_eq_true, if_false, seqR_cons, seqR_nil, h5, eqv_int, hz, lcR, e1, R.calm_ok, dAll_true, R.bind_ok, outF_rt, id, retF]
    cases d with
    | list ds =>
      simp only [dep, okD, Bool.and_eq_true, decide_eq_true_eq] at h hn
      exact seq ds rfl (by omega) hn.2 hn.1 ⟨_, rfl⟩ ⟨_, rfl⟩ rfl rfl
    | tuple ds =>
      simp only [dep, okD, Bool.and_eq_true, decide_eq_true_eq] at h hn
      exact seq ds rfl (by omega) hn.2 hn.1 ⟨_, rfl⟩ ⟨_, rfl⟩ rfl rfl
    | dict _ => simp [okD] at hn
    | str _ => simp [okD] at hn
    | none =>
      unfold m_law_same
      simp [r_law_same, tyR2, tyR, isTy, dIs, isNone, eqv_bool, eqv_none, retF]
    | bool b =>
      unfold m_law_same
      simp [r_law_same, tyR2, tyR, isTy, dIs, isNone, eqv_bool, eqv_none, retF]
    | int i =>
      unfold m_law_same
      simp [r_law_same, tyR2, tyR, isTy, dIs, isNone, eqv_bool, eqv_int, retF]
theorem cells_loop (f : List PyData → PyData → R (Fl PyData (List PyData) (List PyData))) (hf : ∀ (z i c : Int), 0 ≤ i → i < 1000 → ∃ z', f [.int z] (.tuple [.int i, .int c]) = .ok (.nx [.int z'])) : ∀ (cs : List Int) (j : Nat) (z : Int), j + cs.length ≤ 1000 →
    ∃ z', loopR (B := Empty) f (numbered j (cs.map .int)) [.int z] = .ok (.nx [.int z'])
  | [], j, z, _ => ⟨z, rfl⟩
  | c :: cs, j, z, h => by
    simp only [List.length_cons] at h
    obtain ⟨z1, e1⟩ := hf z (j : Nat) c (by omega) (by omega)
    obtain ⟨z2, e2⟩ := cells_loop f hf cs (j + 1) z1 (by omega)
    exact ⟨z2, by simp [SE.numbered, loopR, e1, e2]⟩
theorem cells_ok (ns : List Int) (hl : ns.length ≤ 63) : ∃ z, m_law_cells [.dict [(.none, .list (ns.map .int))], .int 1] = .ok (.list [.int z]) := by
  have first : ∃ z, ((if (cutD (ns.map PyData.int) none (some 1)).isEmpty = true then (R.ok [PyData.int 0]) else .ok (cutD (ns.map .int) none (some 1))) : R (List PyData)) = .ok [.int z] := by
    rw [cutD_map]
    cases ns with
    | nil => exact ⟨0, rfl⟩
    | cons n r =>
      refine ⟨n, ?_⟩
      have : HT.sIx (n :: r).length (n :: r).length (some 1) = 1 := by
        show HT.sIx (r.length + 1) _ (some ((1 : Nat) : Int)) = 1
        rw [HT.sIx_nat]
        omega
      rw [this]
      rfl
  obtain ⟨z, hz⟩ := first
  obtain ⟨cs, hcs, hlen⟩ : ∃ cs : List Int, cutD (ns.map .int) (some 1) (some 63) = cs.map PyData.int ∧ cs.length ≤ 63 := ⟨_, cutD_map ns _ _, by rw [List.length_take, List.length_drop]; omega⟩
  have hen : dEnumL (.list (cs.map .int)) = some (numbered 0 (cs.map .int)) := by
    have : cs.length ≤ sizeLine := by exact Nat.le_trans hlen (by decide)
    simp [dEnumL, this]
  have key := cells_loop (L_law_cells1 (.int 1)) (fun z i c h0 h1 => by
    have m : SE.MulOk c (i + 2) := mulOk_r (by omega) (by omega)
    have e : i.fmod 1 = 0 := by have := fmod_bd i (show (0 : Int) < 1 by decide); omega
    have ix : dIx (.list [.int z]) (.int 0) = some (.int z) := rfl
    have pt : ∀ d, putD [.int z] (.int 0) d = some [d] := fun d => rfl
    exact ⟨_, by simp [L_law_cells1, decTup, decCons, decOne, itemsD, dMod_int (show (1 : Int) ≠ 0 by decide), e, ix, pt, dMul_int m]; rfl⟩) cs 0 z (by omega)
  obtain ⟨z', hk⟩ := key
  refine ⟨z', ?_⟩
  unfold m_law_cells
  simp only [r_law_cells, R.bind_ok, asI, dSlice, R.of_some, itemsD, seqR_cons, seqR_nil] at hz hk ⊢
  rw [hz, hcs]
  simp only [R.bind_ok, hen, R.of_some]
  rw [hk]
  rfl
theorem box_ok (z : Int) : ∃ u, m_law_box [.list [.int z], .int 0] = .ok u ∧ UrnOk 0 u := by
  have ix : dIx (.list [.int z]) (.int 0) = some (.int z) := rfl
  have ln : dLen [.list [.int z]] = some (.int 1) := rfl
  have ab : dAbs [.int z] = some (.int (if z < 0 then -z else z)) := rfl
  have pw : dPow (.int 10) (.int 18) = some (.int 1000000000000000000) := by simp [dPow]
  have z0 : 0 ≤ (if z < 0 then -z else z) := by split <;> omega
  have tb : ∀ b : Bool, dInt [.bool b] = some (.int (if b then 1 else 0)) := fun b => rfl
  have m1 : ∀ (x : Int) (b : Bool), SE.MulOk x (if b = true then 1 else 0) := fun x b => mulOk_r (by split <;> decide) (by split <;> decide)
  have m2 : SE.MulOk 39373 0 := mulOk_r (by decide) (by decide)
  refine ⟨[.int ((if z < 0 then -z else z) * (if (decide (1000000000000000000 ≤ (if z < 0 then -z else z))) = true then 1 else 0)), .int (z.fmod 2305843009213693951 + 39373 * 0 + 2325001), .int 0], ?_, _, _, _, rfl, ?_, Int.le_refl _, Int.le_refl _⟩
  · simp only [m_law_box, R.bind_ok, seqR_cons, seqR_nil, R.of_some, ln, dCmp_int, asB_bool, ix, ab, pw, tb, dMul_int (m1 _ _), dMul_int m2, dInt_int, dMod_int (show (2305843009213693951 : Int) ≠ 0 by decide), dAdd_int, show decide ((0 : Int) < 1) = true from rfl, if_true]
  · exact Int.mul_nonneg z0 (by generalize decide (1000000000000000000 ≤ (if z < 0 then -z else z)) = b; cases b <;> decide)
theorem work_turn {many : Int} (h1 : 1 ≤ many) (h2 : many < 1000) (n : Nat) (u : List PyData) (ds : List PyData) (x : PyData) (hu : UrnOk n u) (hn : n + 10 < 1000000) (hl : ds.length < 1000) :
    ∃ u' row, L_law_work1 (.int many) (u, ds) x = .ok (.nx (u', ds ++ [tupI row])) ∧ RowOk many row ∧ UrnOk (n + 4) u' := by
  obtain ⟨a, u1, e1, a0, a1, g1⟩ := take_ok (k := many) hu (by omega) h1 (by omega)
  obtain ⟨b, u2, e2, b0, b1, g2⟩ := take_ok (k := many) g1 (by omega) h1 (by omega)
  obtain ⟨c, u3, e3, c0, c1, g3⟩ := take_ok (k := 6) g2 (by omega) (by decide) (by decide)
  obtain ⟨d, u4, e4, d0, d1, g4⟩ := take_ok (k := 6) g3 (by omega) (by decide) (by decide)
  obtain ⟨r, er, r0, r1⟩ := ix6 (a0 := 0) (a1 := 0) (a2 := 0) (a3 := 1) (a4 := 1) (a5 := 2) (lo := 0) (hi := 3) c0 c1 (by decide)
  obtain ⟨r', er', r0', r1'⟩ := ix6 (a0 := 1) (a1 := 1) (a2 := 1) (a3 := 2) (a4 := 3) (a5 := 0) (lo := 0) (hi := 3) c0 c1 (by decide)
  obtain ⟨q, eq, q0, q1⟩ := ix6 (a0 := 0) (a1 := 1) (a2 := 1) (a3 := 2) (a4 := 3) (a5 := 5) (lo := 0) (hi := 5) d0 d1 (by decide)
  have ap : ∀ y, appD ds y = some (ds ++ [y]) := fun y => if_pos (Nat.lt_of_lt_of_le hl (by decide))
  by_cases hlt : a < b
  · exact ⟨u4, [a, b, q, r], by simp [L_law_work1, e1, e2, e3, e4, hlt, er, eq, ap, tupI], ⟨a, b, q, r, rfl, a0, a1, b0, b1, q0, q1, r0, r1⟩, g4⟩
  · exact ⟨u4, [a, b, q, r'], by simp [L_law_work1, e1, e2, e3, e4, hlt, er', eq, ap, tupI], ⟨a, b, q, r', rfl, a0, a1, b0, b1, q0, q1, r0', r1'⟩, g4⟩
theorem work_ok {most wide : Int} (hm : 1 ≤ most) (hm2 : most < 1000) (hw : 0 ≤ wide) (hw2 : wide < 60) (n : Nat) (u : List PyData) (hu : UrnOk n u) (hn : n + 1000 < 1000000) :
    ∃ many rows u', m_law_work u [.int most, .int wide] = .ok (.tuple [.int many, .tuple (rows.map tupI)], u') ∧ 1 ≤ many ∧ many ≤ most ∧ (∀ r ∈ rows, RowOk many r) ∧ Lx rows ∧ (rows.length : Int) ≤ wide ∧ UrnOk (n + 300) u' := by
  obtain ⟨a, u1, e1, a0, a1, g1⟩ := take_ok (k := most) hu (by omega) hm (by omega)
  obtain ⟨b, u2, e2, b0, b1, g2⟩ := take_ok (k := wide + 1) g1 (by omega) (by omega) (by omega)
  have lens : ∀ l : List (List Int), (sortDed l).length ≤ l.length := fun l => by
    have ins : ∀ (x : List Int) (t : List (List Int)), (insD x t).length ≤ t.length + 1 := fun x t => by
      induction t with
      | nil => simp [insD]
      | cons y t ih =>
        unfold insD
        split
        · simp
        · split
          · simp
          · simp only [List.length_cons]; omega
    induction l with
    | nil => simp [sortDed]
    | cons x t ih =>
      have := ins x (sortDed t)
      simp only [sortDed, List.length_cons]
      omega
  have ub : (upFrom 0 b.toNat).length = b.toNat := upFrom_len _ _
  obtain ⟨s', e3, rows, hs, hr, hlen, g3⟩ := loop_inv (B := Empty) (f := L_law_work1 (.int (1 + a))) (fun k (s : List PyData × List PyData) => ∃ rows : List (List Int), s.2 = rows.map tupI ∧ (∀ r ∈ rows, RowOk (1 + a) r) ∧ rows.length = k ∧ UrnOk (n + 2 + 4 * k) s.1) (upFrom 0 b.toNat) 0 (u2, [])
    (fun k s x hk hx hP => by
      obtain ⟨rows, hs, hr, hlen, g⟩ := hP
      rw [ub] at hk
      obtain ⟨u', row, e, ro, gu⟩ := work_turn (many := 1 + a) (by omega) (by omega) _ s.1 s.2 x g (by omega) (by rw [hs, List.length_map]; omega)
      refine ⟨_, e, rows ++ [row], by simp [hs], fun r hr' => ?_, by simp [hlen], gu.mono (by omega)⟩
      rcases List.mem_append.mp hr' with h | h
      · exact hr r h
      · rw [List.mem_singleton.mp h]; exact ro) ⟨[], rfl, fun _ m => (nomatch m), rfl, g2⟩
  rw [ub] at hlen g3
  obtain ⟨us, ds⟩ := s'
  have hs : ds = rows.map tupI := hs
  subst hs
  have so := sortset_ok hr (by omega) (by omega)
  refine ⟨1 + a, sortDed rows, us, ?_, by omega, by omega, fun r h => hr r (mem_sortDed.mp h), lx_sortDed rows, by have := lens rows; omega, g3.mono (by omega)⟩
  unfold m_law_work
  simp [r_law_work, e1, e2, range1_ok b0 (by omega), e3, seqF, so, dTuple_list]
end K64

set_option maxHeartbeats 4000000
namespace K64
open PySem PySem.Spec PyProof.Rows L2 SE BF
/-! ### tasks: the laps -/
theorem push_ok {n : Nat} {w : Nd → Int} {wl : PyData → R PyData} {e : Nd} {s : BF.St} (he : EOk n e) (hw : wl (Nd.D e) = .ok (.int (w e))) (ht : s.1.length = n) (hl : s.2.length = n) (m : Bool) :
    Lpushed1 wl (intsD s.1, s.2.map optD, .bool m) (Nd.D e) = .ok (.nx (intsD (BF.push w s e).1, (BF.push w s e).2.map optD, .bool (hits w s.1 e || m))) := by
  have i0 : dIx (Nd.D e) (.int 0) = some (.int (e.a : Nat)) := rfl
  have i1 : dIx (Nd.D e) (.int 1) = some (.int (e.b : Nat)) := rfl
  have xa := at_int (t := .list (s.1.map .int)) (ns := s.1) rfl (show e.a < s.1.length by rw [ht]; exact he.1)
  have xb := at_int (t := .list (s.1.map .int)) (ns := s.1) rfl (show e.b < s.1.length by rw [ht]; exact he.2)
  have p1 : ∀ x, putD (s.1.map .int) (.int (e.b : Nat)) x = some ((s.1.map .int).set e.b x) := fun x => put_nat (by rw [List.length_map, ht]; exact he.2)
  have p2 : ∀ x, putD (s.2.map optD) (.int (e.b : Nat)) x = some ((s.2.map optD).set e.b x) := fun x => put_nat (by rw [List.length_map, hl]; exact he.2)
  by_cases h : gt s.1 e.b < gt s.1 e.a + w e
  · have hp : BF.push w s e = (s.1.set e.b (gt s.1 e.a + w e), s.2.set e.b (some e)) := by unfold BF.push hits; rw [if_pos (by simp [h])]
    rw [hp]
    simp [Lpushed1, i0, i1, xa, xb, hw, h, p1, p2, hits, List.map_set, optD]
  · have hp : BF.push w s e = s := by unfold BF.push hits; rw [if_neg (by simp [h])]
    rw [hp]
    simp [Lpushed1, i0, i1, xa, xb, hw, h, hits]
theorem lap_ok {B : Type} {n : Nat} {w : Nd → Int} {wl : PyData → R PyData} : ∀ (es : List Nd), (∀ e ∈ es, EOk n e) → (∀ e ∈ es, wl (Nd.D e) = .ok (.int (w e))) → ∀ (s : BF.St) (m : Bool), s.1.length = n → s.2.length = n →
    loopR (B := B) (Lpushed1 wl) (es.map Nd.D) (intsD s.1, s.2.map optD, .bool m) = .ok (.nx (intsD (lap w es s m).1.1, (lap w es s m).1.2.map optD, .bool (lap w es s m).2))
  | [], _, _, s, m, _, _ => rfl
  | e :: es, he, hw, s, m, ht, hl => by
    have e1 := push_ok (he e List.mem_cons_self) (hw e List.mem_cons_self) ht hl m
    have e2 := lap_ok (B := B) es (fun x hx => he x (List.mem_cons_of_mem _ hx)) (fun x hx => hw x (List.mem_cons_of_mem _ hx)) (BF.push w s e) (hits w s.1 e || m) ((push_len s e).1.trans ht) ((push_len s e).2.trans hl)
    simp only [List.map_cons, loopR, e1, R.bind_ok]
    exact e2
theorem laps_ok {B : Type} {n : Nat} {es : List Nd} {w : Nd → Int} {wl : PyData → R PyData} (he : ∀ e ∈ es, EOk n e) (hw : ∀ e ∈ es, wl (Nd.D e) = .ok (.int (w e))) (p : PyData × PyData) (hp : itemsD p.2 = some (es.map Nd.D)) : ∀ (xs : List PyData) (s : BF.St), Inv w es n s →
    loopR (B := B) (Lpushed2 wl p) xs (intsD s.1, s.2.map optD) = match laps w es xs.length s with
      | (some t, l) => .ok (.rt (.tuple [timD t, .list (l.map optD)]))
      | (none, l) => .ok (.nx (intsD (after w es s xs.length).1, l.map optD))
  | [], s, _ => rfl
  | x :: xs, s, h => by
    have e1 := lap_ok (B := List PyData × List PyData) es he hw s false h.lt h.ll
    rw [List.length_cons, laps]
    cases hm : (lap w es s false).2 with
    | true =>
      rw [hm] at e1
      have step : Lpushed2 wl p (intsD s.1, s.2.map optD) x = .ok (.nx (intsD (lap w es s false).1.1, (lap w es s false).1.2.map optD)) := by
        simp [Lpushed2, hp, e1, seqF]
      simp only [loopR, step, R.bind_ok, if_true]
      rw [laps_ok (B := B) he hw p hp xs (lap w es s false).1 (inv_lap es s false h fun e m => ⟨he e m, m⟩), after_succ]
    | false =>
      rw [hm] at e1
      have step : Lpushed2 wl p (intsD s.1, s.2.map optD) x = .ok (.rt (.tuple [timD (lap w es s false).1.1, .list ((lap w es s false).1.2.map optD)])) := by
        simp [Lpushed2, hp, e1, seqF, dTuple_list, retF, timD]
      simp only [loopR, step, R.bind_ok]
      rfl
theorem pushed_ok {n : Nat} {es : List Nd} {w : Nd → Int} {wl : PyData → R PyData} {s : PyData} (hn : n ≤ 1000) (he : ∀ e ∈ es, EOk n e) (hw : ∀ e ∈ es, wl (Nd.D e) = .ok (.int (w e))) (hs : WkS n es s) :
    (rpushed wl s).bind outF = .ok (.tuple [match (laps w es (n + 1) (start0 n)).1 with | some t => timD t | none => .none, .list ((laps w es (n + 1) (start0 n)).2.map optD)]) := by
  obtain ⟨_, _, _, _, _, _, hh, hd, hnd⟩ := hs
  have ht := tupled_ok 10 s (by omega) hnd
  rw [hh] at ht
  have hr : dRange1 (.int ((n : Int) + 1)) = some ((List.range (n + 1)).map fun (i : Nat) => .int (i : Int)) := by rw [← range1_nat (k := n + 1) (by omega), Int.natCast_add]; rfl
  have key := laps_ok (B := Empty) he hw (.int (n : Nat), .tuple (es.map Nd.D)) rfl ((List.range (n + 1)).map fun (i : Nat) => .int (i : Int)) (start0 n) (inv_start w es n)
  rw [List.length_map, List.length_range] at key
  have c1 : intsD (start0 n).1 = List.replicate n (.int 0) := by simp [start0]
  have c2 : (start0 n).2.map optD = List.replicate n .none := by simp [start0, optD]
  rw [c1, c2] at key
  simp only [rpushed, seqR_cons, seqR_nil, R.bind_ok, ht, wrkD, decTup, decCons, decOne, itemsD, Option.bind_some, R.of_some, Option.map, rep_one _ (show n ≤ 100000 by omega), dAdd_int, hr]
  generalize (List.range (n + 1)).map (fun (i : Nat) => PyData.int (i : Int)) = xs at key ⊢
  rw [key]
  cases (laps w es (n + 1) (start0 n)) with
  | mk o l => cases o <;> rfl
theorem times_of_ok {n : Nat} {es : List Nd} {beat : Int} {s : PyData} (hn : n ≤ 1000) (he : ∀ e ∈ es, EOk n e) (hb : 0 ≤ beat) (hb2 : beat < 1000) (hs : WkS n es s) : mtimes_of [s, .int beat] = .ok (timO (timesOf beat n es)) := by
  unfold mtimes_of
  simp only [rtimes_of, R.bind_ok]
  rw [pushed_ok (w := wb beat) hn he (fun e _ => by
    have i2 : dIx (Nd.D e) (.int 2) = some (.int e.d) := rfl
    have i3 : dIx (Nd.D e) (.int 3) = some (.int e.r) := rfl
    simp [i2, i3, dMul_int (mulOk_r (i := e.r) (j := beat) (by omega) (by omega)), wb]) hs]
  have z : ∀ x y : PyData, dIx (.tuple [x, y]) (.int 0) = some x := fun _ _ => rfl
  simp only [R.bind_ok, z, R.of_some]
  unfold timesOf
  cases (laps (wb beat) es (n + 1) (start0 n)).1 <;> rfl
end K64

set_option maxHeartbeats 4000000
namespace K64
open PySem PySem.Spec PyProof.Rows L2 SE BF
/-! ### gaps, numbers, times -/
theorem gap_ok {beat : Int} {t : List Int} {ts nd : PyData} {e : Nd} (ht : TiS t ts) (hn : NdS e nd) (he : EOk t.length e) (hb : 0 ≤ beat) (hb2 : beat < 1000) : mgap [.int beat, ts, nd] = .ok (.int (gapOf beat t e)) := by
  have ia := at_int ht he.1
  have ib := at_int ht he.2
  unfold mgap
  simp only [rgap, R.bind_ok, dec_quad hn, R.of_some, ia, ib, dMul_int (mulOk_r (i := e.r) (j := beat) (by omega) (by omega)), dAdd_int, dSub_int]
  rfl
theorem is_number_int (i : Int) : mis_number [.int i] = .ok (.bool true) := rfl
theorem is_from_int (i k : Int) : mis_from [.int i, .int k] = .ok (.bool (decide (k ≤ i))) := rfl
theorem is_below_int (i k : Int) : mis_below [.int i, .int k] = .ok (.bool (decide (0 ≤ i) && decide (i < k))) := by
  unfold mis_below
  simp only [ris_below, seqR_cons, seqR_nil, R.bind_ok, is_number_int, asB_bool, if_true, dCmp_int, R.of_some]
  cases h : decide (0 ≤ i) <;> simp [chainR, h]
theorem is_tuple_of_tuple (ds : List PyData) (k : Int) : mis_tuple_of [.tuple ds, .int k] = .ok (.bool (decide ((ds.length : Int) = k))) := by
  have t : tyR "tuple" (.tuple ds) = .ok (.bool true) := rfl
  unfold mis_tuple_of
  simp only [ris_tuple_of, seqR_cons, seqR_nil, R.bind_ok, t, asB_bool, if_true, dlen_tuple, R.of_some, deq_int]
  rfl
theorem is_times_ok {n : Nat} {es : List Nd} {beat : Int} {t : List Int} {s : PyData} (he : ∀ e ∈ es, EOk n e) (hb : 0 ≤ beat) (hb2 : beat < 1000) (hs : WkS n es s) : mis_times [s, .int beat, timD t] = .ok (.bool (decide (t.length = n) && es.all fun e => decide (e.d ≤ gapOf beat t e))) := by
  obtain ⟨x, ps, h1, h2, rfl, h4, _⟩ := hs
  have i0 := at_zero h1
  have i1 := at_one h1
  have tt : mis_tuple_of [timD t, .int (n : Nat)] = .ok (.bool (decide (t.length = n))) := by
    unfold timD
    rw [is_tuple_of_tuple, List.length_map, decide_eq_decide.mpr (show ((t.length : Int) = (n : Int)) ↔ t.length = n by omega)]
  unfold mis_times
  simp only [ris_times, seqR_cons, seqR_nil, R.bind_ok, i0, i1, R.of_some, tt, asB_bool]
  cases h : decide (t.length = n) with
  | false => simp [retF]
  | true =>
    have hl : t.length = n := of_decide_eq_true h
    have it : itemsD (timD t) = some (t.map .int) := rfl
    simp only [Bool.not_true, Bool.false_eq_true, if_false, it, R.of_some, R.bind_ok]
    rw [lcR_map t PyData.int PyData.int (fun _ => .bool true) rfl (fun _ _ => rfl) (fun x _ => by rw [is_number_int])]
    simp only [R.bind_ok, all_of _ t (fun _ => true), R.of_some, asB_bool]
    have al : (t.all fun _ => true) = true := by simp
    simp only [al, Bool.not_true, Bool.false_eq_true, if_false, h2, R.of_some]
    rw [lcR_map ps (·.2) (·.2) (fun p => .bool (decide (p.1.d ≤ gapOf beat t p.1))) rfl (fun _ _ => rfl) (fun p hp => by
      rw [gap_ok (TiS.hard t) (h4 p hp) (by rw [hl]; exact he p.1 (List.mem_map.mpr ⟨p, hp, rfl⟩)) hb hb2]
      simp only [R.bind_ok, at_two (h4 p hp), R.of_some, dCmp_int])]
    simp only [R.bind_ok, all_of _ ps (fun p => decide (p.1.d ≤ gapOf beat t p.1)), R.of_some]
    rw [Bool.true_and, List.all_map]
    rfl
end K64

set_option maxHeartbeats 4000000
namespace K64
open PySem PySem.Spec PyProof.Rows L2 SE BF
/-! ### the law's own lives, rings, sums, earliest -/
theorem law_sums_ok (p : List Nd) : m_law_sums [ringD p] = .ok (.tuple [.int (p.map (·.d)).sum, .int (p.map (·.r)).sum]) := by
  unfold m_law_sums
  simp only [r_law_sums, seqR_cons, seqR_nil, R.bind_ok, ringD, items_tuple, R.of_some]
  rw [lcR_map p Nd.D Nd.D (fun e => .int e.d) rfl (fun _ _ => rfl) (fun e _ => by simp only [R.bind_ok, at_two (NdS.hard e), R.of_some])]
  rw [lcR_map p Nd.D Nd.D (fun e => .int e.r) rfl (fun _ _ => rfl) (fun e _ => by simp only [R.bind_ok, at_three (NdS.hard e), R.of_some])]
  have m1 : p.map (fun e => PyData.int e.d) = (p.map (·.d)).map .int := by rw [List.map_map]; rfl
  have m2 : p.map (fun e => PyData.int e.r) = (p.map (·.r)).map .int := by rw [List.map_map]; rfl
  simp only [R.bind_ok, m1, m2, dsum_ints, R.of_some]
  rfl
/-- a turn of the inner loop of the rings -/
def ringStep (es : List Nd) (s : List (List Nd) × List (List Nd)) (own : List Nd) : List (List Nd) × List (List Nd) := if closed own = true then (s.1 ++ [own], s.2) else (s.1, s.2 ++ ext es own)
def encRg (s : List (List Nd) × List (List Nd)) : List PyData × PyData := (s.1.map ringD, .list (s.2.map ringD))
theorem ring_step_ok {n : Nat} {es : List Nd} (s : List (List Nd) × List (List Nd)) {own : List Nd} (ho : own ≠ []) (h1 : s.1.length < sizeLine) (h2 : s.2.length + es.length ≤ sizeLine) (h3 : own.length < 1000) : L_law_rings1 (wrkD n es) (encRg s) (ringD own) = .ok (.nx (encRg (ringStep es s own))) := by
  have w1 : dIx (wrkD n es) (.int 1) = some (.tuple (es.map Nd.D)) := rfl
  have ng : dNeg (.int 1) = some (.int (-1)) := rfl
  obtain ⟨f, fs, hf⟩ := List.exists_cons_of_ne_nil ho
  obtain ⟨gs, g, hg⟩ : ∃ gs g, own = gs ++ [g] := by
    rcases List.eq_nil_or_concat own with h | ⟨q, e, h⟩
    · exact absurd h ho
    · exact ⟨q, e, by rw [h, List.concat_eq_append]⟩
  have e0 : endsAt own = g.b := by rw [hg]; exact endsAt_snoc gs g
  have s0 : startsAt own = f.a := by rw [hf]; rfl
  have o1 : dIx (ringD own) (.int (-1)) = some (Nd.D g) := at_last (ds := gs.map Nd.D) (by rw [ringD, hg]; simp)
  have o0 : dIx (ringD own) (.int 0) = some (Nd.D f) := at_zero (ds := fs.map Nd.D) (by rw [ringD, hf]; rfl)
  have cl : closed own = decide (((g.b : Nat) : Int) = ((f.a : Nat) : Int)) := by
    rw [closed, e0, s0]
    by_cases h : g.b = f.a
    · simp [h]
    · simp [h, Int.natCast_inj]
  have d1 : ∀ e : Nd, dIx (Nd.D e) (.int 1) = some (.int (e.b : Nat)) := fun _ => rfl
  have d0 : ∀ e : Nd, dIx (Nd.D e) (.int 0) = some (.int (e.a : Nat)) := fun _ => rfl
  simp only [L_law_rings1, R.bind_ok, R.of_some, ng, o1, o0, d1, d0, deq_int, asB_bool, ← cl]
  cases hc : closed own with
  | true =>
    have ap : appD (encRg s).1 (ringD own) = some (s.1.map ringD ++ [ringD own]) := if_pos (by simp only [encRg, List.length_map]; exact h1)
    simp only [if_true, ap, R.of_some, R.bind_ok]
    simp only [ringStep, hc, if_true, encRg, List.map_append, List.map_cons, List.map_nil]
  | false =>
    simp only [Bool.false_eq_true, if_false, w1, items_tuple, R.of_some, R.bind_ok]
    rw [lcR_ok es Nd.D Nd.D (goesOn own) (fun e => ringD (own ++ [e])) rfl (fun _ _ => rfl) (fun e _ => by
      have past : lcR (R.of (itemsD (ringD own))) (fun d => some d) (fun _ => R.ok true) (fun p => R.of (dIx p (.int 0))) = .ok ((own.map fun e => (e.a : Int)).map .int) := by
        have it : itemsD (ringD own) = some (own.map Nd.D) := rfl
        rw [it, R.of_some, lcR_map own Nd.D Nd.D (fun e => .int (e.a : Nat)) rfl (fun _ _ => rfl) (fun e _ => by simp only [d0, R.of_some]), List.map_map]
        rfl
      simp only [past, d0, deq_int, R.bind_ok, R.of_some, dCmp_int, asB_bool, notIn_ints, goesOn, e0, s0]
      have c1 : (e.a == g.b) = decide (((e.a : Nat) : Int) = ((g.b : Nat) : Int)) := by
        by_cases h : e.a = g.b
        · simp [h]
        · simp [h, Int.natCast_inj]
      have c2 : decide (f.a < e.a) = decide (((f.a : Nat) : Int) < ((e.a : Nat) : Int)) := decide_eq_decide.mpr (by omega)
      have c3 : (own.map (·.a)).contains e.a = decide (((e.a : Nat) : Int) ∈ own.map fun e => ((e.a : Nat) : Int)) := by
        rw [List.contains_eq_mem]
        refine decide_eq_decide.mpr ⟨fun h => ?_, fun h => ?_⟩
        · obtain ⟨y, hy, hz⟩ := List.mem_map.mp h
          exact List.mem_map.mpr ⟨y, hy, by rw [hz]⟩
        · obtain ⟨y, hy, hz⟩ := List.mem_map.mp h
          exact List.mem_map.mpr ⟨y, hy, by omega⟩
      rw [c1, c2, c3]
      cases decide (((e.a : Nat) : Int) = ((g.b : Nat) : Int)) <;> cases decide (((f.a : Nat) : Int) < ((e.a : Nat) : Int)) <;> rfl) (fun e _ _ => by
      have : dAdd (ringD own) (.tuple [Nd.D e]) = some (.tuple (own.map Nd.D ++ [Nd.D e])) := app_tuples (by simp; omega)
      simp only [seqR_cons, seqR_nil, R.bind_ok, this, R.of_some]
      simp only [ringD, List.map_append, List.map_cons, List.map_nil])]
    have ad : dAdd (encRg s).2 (.list ((es.filter (goesOn own)).map fun e => ringD (own ++ [e]))) = some (.list (s.2.map ringD ++ (es.filter (goesOn own)).map fun e => ringD (own ++ [e]))) := if_pos (by
      have := List.length_filter_le (goesOn own) es
      simp only [List.length_map]
      omega)
    simp only [R.bind_ok, ad, R.of_some]
    simp only [ringStep, hc, Bool.false_eq_true, if_false, encRg, List.map_append, ext, List.map_map]
    rfl
theorem ring_fold (es : List Nd) : ∀ (line : List (List Nd)) (s : List (List Nd) × List (List Nd)), line.foldl (ringStep es) s = (s.1 ++ line.filter closed, s.2 ++ (line.filter fun p => !closed p).flatMap (ext es))
  | [], s => by simp
  | p :: line, s => by
    rw [List.foldl_cons, ring_fold es line, ringStep]
    cases h : closed p <;> simp [h, List.filter_cons]
theorem rings_ok {n : Nat} {es : List Nd} {L : Nat} (hL : es.length ≤ L) (h1 : 1 ≤ L) (hn : n ≤ 900) (hb : (n + 2) * L ^ (n + 1) ≤ sizeLine) : m_law_rings [wrkD n es] = .ok (.list ((ringsOf n es).map ringD)) := by
  have w0 : dIx (wrkD n es) (.int 0) = some (.int (n : Nat)) := rfl
  have w1 : dIx (wrkD n es) (.int 1) = some (.tuple (es.map Nd.D)) := rfl
  have pw : ∀ k, k ≤ n → L ^ (k + 1) ≤ L ^ (n + 1) := fun k hk => Nat.pow_le_pow_right h1 (by omega)
  have bd : L ^ (n + 1) ≤ sizeLine := Nat.le_trans (Nat.le_mul_of_pos_left _ (by omega)) hb
  have inner : ∀ (k : Nat) (found : List (List Nd)), k < n → found.length ≤ k * L ^ (n + 1) → loopR (B := List PyData × PyData) (L_law_rings1 (wrkD n es)) ((lineAt es k).map ringD) (found.map ringD, .list []) = .ok (.nx (encRg (found ++ (lineAt es k).filter closed, longer es (lineAt es k)))) := fun k found hk hf => by
    have lk := line_len hL k
    have p1 := pw k (by omega)
    have lk1 : (lineAt es k).length * es.length ≤ L ^ (n + 1) := by
      refine Nat.le_trans (Nat.mul_le_mul lk hL) ?_
      rw [← Nat.pow_succ]
      exact pw (k + 1) (by omega)
    have big : k * L ^ (n + 1) + L ^ (n + 1) + L ^ (n + 1) ≤ sizeLine := by
      refine Nat.le_trans ?_ hb
      have : k + 2 ≤ n + 2 := by omega
      have := Nat.mul_le_mul_right (L ^ (n + 1)) this
      rw [Nat.add_mul] at this
      omega
    have := (loop_fold (B := List PyData × PyData) (f := L_law_rings1 (wrkD n es)) encRg ringD (ringStep es) (fun j s => s.1.length ≤ k * L ^ (n + 1) + j ∧ s.2.length ≤ j * es.length) (lineAt es k) 0 (found, []) ⟨by simpa using hf, by simp⟩ (fun j s own ho hj0 hj hI => by
      obtain ⟨i1, i2⟩ := hI
      obtain ⟨wy, wl⟩ := (mem_line k).mp ho
      have : (j + 1) * es.length ≤ (lineAt es k).length * es.length := Nat.mul_le_mul_right _ (by omega)
      rw [Nat.succ_mul] at this
      refine ⟨ring_step_ok s wy.ne (by omega) (by omega) (by omega), ?_⟩
      unfold ringStep
      split
      · exact ⟨by simp; omega, by simp only; rw [Nat.succ_mul]; omega⟩
      · refine ⟨by simp only; omega, ?_⟩
        have := ext_len es own
        simp only [List.length_append]
        rw [Nat.succ_mul]
        omega)).1
    rw [ring_fold] at this
    simpa [longer, encRg] using this
  have step : ∀ (k : Nat) (found : List (List Nd)) (d : PyData), k < n → found.length ≤ k * L ^ (n + 1) → L_law_rings2 (wrkD n es) (encRg (found, lineAt es k)) d = .ok (.nx (encRg (found ++ (lineAt es k).filter closed, lineAt es (k + 1)))) := fun k found d hk hf => by
    have := inner k found hk hf
    simp only [L_law_rings2, R.of_some, R.bind_ok, seqR_nil, encRg, items_list] at this ⊢
    rw [this]
    rfl
  have outer : ∀ (ds : List PyData) (k : Nat) (found : List (List Nd)), k + ds.length = n → found.length ≤ k * L ^ (n + 1) → loopR (B := Empty) (L_law_rings2 (wrkD n es)) ds (encRg (found, lineAt es k)) = .ok (.nx (encRg (found ++ rings es ds.length (lineAt es k), lineAt es n))) := fun ds => by
    induction ds with
    | nil =>
      intro k found hk _
      have : k = n := by simpa using hk
      subst this
      simp [loopR, rings]
    | cons d ds ih =>
      intro k found hk hf
      simp only [List.length_cons] at hk
      rw [loopR, step k found d (by omega) hf]
      simp only [R.bind_ok]
      rw [ih (k + 1) _ (by omega) (by
        have a := List.length_filter_le closed (lineAt es k)
        have b := line_len hL k
        have c := pw k (by omega)
        rw [List.length_append, Nat.succ_mul]
        omega)]
      rw [List.length_cons, rings, List.append_assoc]
      rfl
  unfold m_law_rings
  simp only [r_law_rings, seqR_cons, seqR_nil, R.bind_ok, w0, w1, items_tuple, R.of_some, range1_nat (show n ≤ 100000 by omega)]
  rw [lcR_map es Nd.D Nd.D (fun e => ringD [e]) rfl (fun _ _ => rfl) (fun e _ => rfl)]
  have o := outer ((List.range n).map fun (i : Nat) => .int (i : Int)) 0 [] (by simp) (by simp)
  rw [List.length_map, List.length_range] at o
  have l0 : encRg ([], lineAt es 0) = ([], .list (es.map fun e => ringD [e])) := by
    simp only [encRg, lineAt, List.map_nil, List.map_map]
    rfl
  rw [l0] at o
  simp only [R.bind_ok, o, seqF]
  rfl
end K64

set_option maxHeartbeats 4000000
namespace K64
open PySem PySem.Spec PyProof.Rows L2 SE BF
/-! ### the drawn work, typed -/
theorem drawn_ok {most wide : Nat} (hm : 1 ≤ most) (hm2 : most < 1000) (hw2 : wide < 60) (k : Nat) (u : List PyData) (hu : UrnOk k u) (hn : k + 1000 < 1000000) :
    ∃ n es u', m_law_work u [.int (most : Nat), .int (wide : Nat)] = .ok (wrkD n es, u') ∧ 1 ≤ n ∧ n ≤ most ∧ (∀ e ∈ es, NdOk n e) ∧ Lx (es.map Nd.row) ∧ es.length ≤ wide ∧ UrnOk (k + 300) u' := by
  obtain ⟨many, rows, u', e, h1, h2, h3, h4, h5, h6⟩ := work_ok (most := (most : Nat)) (wide := (wide : Nat)) (by omega) (by omega) (by omega) (by omega) k u hu hn
  obtain ⟨es, rfl, he⟩ := rows_needs h3
  refine ⟨many.toNat, es, u', ?_, by omega, by omega, fun f hf => ?_, h4, by simpa using h5, h6⟩
  · rw [e, wrkD, show ((many.toNat : Nat) : Int) = many by omega, List.map_map]
    rfl
  · exact he f hf
end K64

set_option maxHeartbeats 4000000
namespace K64
open PySem PySem.Spec PyProof.Rows L2 SE BF
/-! ### circles -/
theorem is_need_ok {n : Nat} {e : Nd} (he : EOk n e) (hd : 0 ≤ e.d) (hr : 0 ≤ e.r) : mis_need [.int (n : Nat), Nd.D e] = .ok (.bool true) := by
  have tt : mis_tuple_of [Nd.D e, .int 4] = .ok (.bool true) := is_tuple_of_tuple _ _
  have s1 : dSlice (Nd.D e) none (some 2) = some (.tuple ([((e.a : Nat) : Int), ((e.b : Nat) : Int)].map .int)) := rfl
  have s2 : dSlice (Nd.D e) (some 2) none = some (.tuple ([e.d, e.r].map .int)) := rfl
  unfold mis_need
  simp only [ris_need, seqR_cons, seqR_nil, R.bind_ok, tt, asB_bool, asI, s1, s2, R.of_some, items_tuple, Bool.not_true, Bool.false_eq_true, if_false]
  rw [lcR_map [((e.a : Nat) : Int), ((e.b : Nat) : Int)] PyData.int PyData.int (fun i => .bool (decide (0 ≤ i) && decide (i < (n : Nat)))) rfl (fun _ _ => rfl) (fun i _ => by rw [is_below_int])]
  rw [lcR_map [e.d, e.r] PyData.int PyData.int (fun i => .bool (decide (0 ≤ i))) rfl (fun _ _ => rfl) (fun i _ => by rw [is_from_int])]
  have a1 : ([((e.a : Nat) : Int), ((e.b : Nat) : Int)].all fun i => decide (0 ≤ i) && decide (i < ((n : Nat) : Int))) = true := by
    have := he.1
    have := he.2
    simp
    omega
  have a2 : ([e.d, e.r].all fun i => decide (0 ≤ i)) = true := by simp [hd, hr]
  simp only [R.bind_ok, all_of, a1, a2, R.of_some, asB_bool, Bool.not_true, Bool.false_eq_true, if_false]
  rfl
theorem set_of_ints {ns : List Int} (h : ns.length < 64) : mset_of [.list (ns.map .int)] = .ok (.tuple ((sortI ns).map .int)) := by
  unfold mset_of
  simp only [rset_of, seqR_cons, seqR_nil, R.bind_ok, sortset_ints h, R.of_some, dTuple_list]
  rfl
theorem has_needs_ok {n : Nat} {es p : List Nd} {s : PyData} (hs : WkS n es s) (hp : ∀ e ∈ p, e ∈ es ∧ EOk n e ∧ 0 ≤ e.d ∧ 0 ≤ e.r) : mhas_needs [s, ringD p] = .ok (.bool true) := by
  obtain ⟨x, ps, h1, _, _, _, hh, hd, hnd⟩ := hs
  have ht := tupled_ok 10 s (by omega) hnd
  rw [hh] at ht
  have w1 : dIx (wrkD n es) (.int 1) = some (.tuple (es.map Nd.D)) := rfl
  have z := at_zero h1
  have it : itemsD (ringD p) = some (p.map Nd.D) := rfl
  unfold mhas_needs
  simp only [rhas_needs, seqR_cons, seqR_nil, R.bind_ok, ht, w1, z, it, R.of_some]
  rw [lcR_map p Nd.D Nd.D (fun _ => .bool true) rfl (fun _ _ => rfl) (fun e he => by
    obtain ⟨a, b, c, d⟩ := hp e he
    have i := in_tupM (k := 1) (by omega) eqv_need Shp.need e es
    simp only [is_need_ok b c d, R.bind_ok, asB_bool, if_true, i, a, decide_true, R.of_some])]
  simp only [R.bind_ok, all_of _ p (fun _ => true), R.of_some]
  have : (p.all fun _ => true) = true := by simp
  rw [this]
  rfl
theorem is_circle_ok {n : Nat} {es p : List Nd} {s : PyData} (hs : WkS n es s) (hp : ∀ e ∈ p, e ∈ es ∧ EOk n e ∧ 0 ≤ e.d ∧ 0 ≤ e.r) (hl : p.length < 64) : mis_circle [s, ringD p] = .ok (.bool (circB p)) := by
  have hn := has_needs_ok hs hp
  obtain ⟨x, ps, h1, _⟩ := hs
  have z := at_zero h1
  have ty : tyR "tuple" (ringD p) = .ok (.bool true) := rfl
  have it : itemsD (ringD p) = some (p.map Nd.D) := rfl
  have ng : dNeg (.int 1) = some (.int (-1)) := rfl
  have eq0 : dEq (ringD p) (.tuple []) = some (.bool (decide (p = []))) := by
    have := dEq_shp (Shp.ring p) (Shp.ring []) (by omega) (by omega)
    rw [eqv_ring] at this
    exact this
  unfold mis_circle
  simp only [ris_circle, seqR_cons, seqR_nil, R.bind_ok, ty, asB_bool, Bool.not_true, Bool.false_eq_true, if_false, eq0, R.of_some]
  by_cases he : p = []
  · subst he
    simp [retF, circB]
  · obtain ⟨gs, g, hg⟩ := snoc_of he
    have la : dIx (ringD p) (.int (-1)) = some (Nd.D g) := at_last (ds := gs.map Nd.D) (by rw [it, hg]; simp)
    simp only [he, decide_false, Bool.false_eq_true, if_false, it, z, R.of_some]
    rw [lcR_map p Nd.D Nd.D (fun _ => .bool true) rfl (fun _ _ => rfl) (fun e he => by
      obtain ⟨a, b, c, d⟩ := hp e he
      simp only [R.bind_ok, is_need_ok b c d])]
    rw [lcR_map p Nd.D Nd.D (fun e => .int ((e.a : Nat) : Int)) rfl (fun _ _ => rfl) (fun e _ => by simp only [R.bind_ok, at_zero (NdS.hard e), R.of_some])]
    have m1 : p.map (fun e => PyData.int ((e.a : Nat) : Int)) = (p.map fun e => ((e.a : Nat) : Int)).map .int := by rw [List.map_map]; rfl
    have so := set_of_ints (ns := p.map fun e => ((e.a : Nat) : Int)) (by rw [List.length_map]; exact hl)
    have al : (p.all fun _ => true) = true := by simp
    have lr : dLen [ringD p] = some (.int (p.length : Nat)) := by rw [ringD, dlen_tuple, List.length_map]
    simp only [R.bind_ok, all_of _ p (fun _ => true), al, R.of_some, asB_bool, Bool.not_true, Bool.false_eq_true, if_false, hn, m1, so, dlen_tuple, List.length_map, lr, dne_int]
    have dd : (!decide (((sortI (p.map fun e => ((e.a : Nat) : Int))).length : Int) = (p.length : Int))) = !distinct p := by
      unfold distinct
      congr 1
      exact decide_eq_decide.mpr (by omega)
    rw [dd]
    cases hdis : distinct p with
    | false => simp [retF, circB, hdis]
    | true =>
      have ad : dAdd (.tuple [Nd.D g]) (ringD p) = some (.tuple ((g :: p).map Nd.D)) := app_tuples (by simp; omega)
      have zz := zip_ok (x := .tuple ((g :: p).map Nd.D)) (y := ringD p) rfl it (by simp; omega)
      simp only [Bool.not_true, Bool.false_eq_true, if_false, ng, R.of_some, R.bind_ok, la, ad, zz, pairs_zip]
      rw [lcR_map ((g :: p).zip p) (fun x => .tuple [Nd.D x.1, Nd.D x.2]) (fun x => (Nd.D x.1, Nd.D x.2)) (fun x => .bool (decide (((x.1.b : Nat) : Int) = ((x.2.a : Nat) : Int)))) rfl (fun _ _ => dec_pair rfl) (fun x _ => by
        simp only [R.bind_ok, at_one (NdS.hard x.1), at_zero (NdS.hard x.2), R.of_some, deq_int])]
      simp only [R.bind_ok, all_of, pairs_lk, R.of_some]
      have hc : circB p = lk g.b p := by
        have ie : p.isEmpty = false := by cases p with
          | nil => exact absurd rfl he
          | cons => rfl
        rw [circB, hdis, last_end hg, ie]
        rfl
      rw [hc]
      rfl
theorem sums_of_ok (p : List Nd) : msums_of [ringD p] = .ok (.tuple [.int (p.map (·.d)).sum, .int (p.map (·.r)).sum]) := by
  unfold msums_of
  simp only [rsums_of, seqR_cons, seqR_nil, R.bind_ok, ringD, items_tuple, R.of_some]
  rw [lcR_map p Nd.D Nd.D (fun e => .int e.d) rfl (fun _ _ => rfl) (fun e _ => by simp only [R.bind_ok, at_two (NdS.hard e), R.of_some])]
  rw [lcR_map p Nd.D Nd.D (fun e => .int e.r) rfl (fun _ _ => rfl) (fun e _ => by simp only [R.bind_ok, at_three (NdS.hard e), R.of_some])]
  have m1 : p.map (fun e => PyData.int e.d) = (p.map (·.d)).map .int := by rw [List.map_map]; rfl
  have m2 : p.map (fun e => PyData.int e.r) = (p.map (·.r)).map .int := by rw [List.map_map]; rfl
  simp only [R.bind_ok, m1, m2, dsum_ints, R.of_some]
  rfl
theorem bars_ok {n : Nat} {es p : List Nd} {s : PyData} {beat : Int} (hb : 0 ≤ beat) (hb2 : beat < 1000) (hs : WkS n es s) (hp : ∀ e ∈ p, e ∈ es ∧ EOk n e ∧ 0 ≤ e.d ∧ 0 ≤ e.r) (hl : p.length < 64) : mbars [s, .int beat, ringD p] = .ok (.bool (circB p && posR beat p)) := by
  have dp : ∀ x y : PyData, (decTup (decCons (fun d => some d) (decOne (fun d => some d)))) (.tuple [x, y]) = some (x, y) := fun _ _ => rfl
  unfold mbars
  simp only [rbars, seqR_cons, seqR_nil, R.bind_ok, is_circle_ok hs hp hl, asB_bool]
  cases h : circB p with
  | false => simp [retF]
  | true =>
    simp only [Bool.not_true, Bool.false_eq_true, if_false, sums_of_ok, R.bind_ok, dp, R.of_some, dMul_int (mulOk_r (i := (p.map (·.r)).sum) (j := beat) (by omega) (by omega)), dCmp_int]
    rfl
/-! circles found -/
theorem back_ok {n : Nat} {es : List Nd} {w : Nd → Int} {st : BF.St} (hi : Inv w es n st) : ∀ (ds : List PyData) (v : Nat), v < n → loopR (B := Empty) (Lback_from1 (.list (st.2.map optD))) ds (.int (v : Nat)) = match back st.2 ds.length v with
    | some u => .ok (.nx (.int (u : Nat)))
    | none => .ok (.rt .none)
  | [], v, _ => rfl
  | d :: ds, v, hv => by
    have ix : dIx (.list (st.2.map optD)) (.int (v : Nat)) = some (optD (gl st.2 v)) := by
      rw [at_nat rfl (by rw [List.length_map, hi.ll]; exact hv)]
      simp [gl, List.getD, hi.ll, hv]
    rw [List.length_cons, back]
    cases hg : gl st.2 v with
    | none =>
      have i1 : dIs (optD none) .none = some (.bool true) := rfl
      have : Lback_from1 (.list (st.2.map optD)) (.int (v : Nat)) d = .ok (.rt .none) := by
        simp only [Lback_from1, R.of_some, R.bind_ok, ix, hg, i1, asB_bool, if_true]
        rfl
      simp only [loopR, this, R.bind_ok]
    | some e =>
      have i1 : dIs (optD (some e)) .none = some (.bool false) := rfl
      have i2 : dIx (optD (some e)) (.int 0) = some (.int (e.a : Nat)) := rfl
      have : Lback_from1 (.list (st.2.map optD)) (.int (v : Nat)) d = .ok (.nx (.int (e.a : Nat))) := by
        simp only [Lback_from1, R.of_some, R.bind_ok, ix, hg, i1, asB_bool, Bool.false_eq_true, if_false, i2]
      simp only [loopR, this, R.bind_ok]
      exact back_ok hi ds e.a (hi.som v e hv hg).2.1
theorem back_from_ok {n : Nat} {es : List Nd} {w : Nd → Int} {st : BF.St} (hi : Inv w es n st) (hn : n ≤ 1000) {v : Nat} (hv : v < n) : mback_from [.list (st.2.map optD), .int (v : Nat), .int (n : Nat)] = .ok (bD (back st.2 n v)) := by
  have b := back_ok hi ((List.range n).map fun (i : Nat) => .int (i : Int)) v hv
  rw [List.length_map, List.length_range] at b
  unfold mback_from
  simp only [rback_from, R.bind_ok, range1_nat (show n ≤ 100000 by omega), R.of_some, b]
  cases back st.2 n v <;> rfl
theorem circle_at_loop {n : Nat} {es : List Nd} {w : Nd → Int} {st : BF.St} (hi : Inv w es n st) {x : Nat} {c : PyData × PyData → R Bool} {f : PyData × PyData → R (Fl PyData (PyData × PyData) (PyData × PyData))}
    (hc : ∀ (ds : List PyData) (v : Nat), c (.tuple ds, .int (v : Nat)) = .ok (!decide (((v : Nat) : Int) = ((x : Nat) : Int))))
    (hf : ∀ (p : List Nd) (v : Nat) (e : Nd), v < n → gl st.2 v = some e → p.length < 1000 → f (ringD p, .int (v : Nat)) = .ok (.nx (ringD (e :: p), .int (e.a : Nat)))) :
    ∀ (q : List Nd) (v : Nat) (p : List Nd) (k : Nat), v < n → Back st.2 v q x → (∀ j, j < q.length → back st.2 j v ≠ some x) → q.length < k → p.length + q.length < 1000 → whileR (B := Empty) c f k (ringD p, .int (v : Nat)) = .ok (.nx (ringD (q ++ p), .int (x : Nat))) := by
  intro q v p k hv b
  induction b generalizing p k with
  | nil v =>
    intro _ hk _
    obtain ⟨k, rfl⟩ : ∃ j, k = j + 1 := ⟨k - 1, by simp at hk; omega⟩
    rw [whileR, ringD, hc]
    simp [ringD]
  | @step v e q u g b ih =>
    intro hj hk hl
    obtain ⟨k, rfl⟩ : ∃ j, k = j + 1 := ⟨k - 1, by simp at hk; omega⟩
    simp only [List.length_append, List.length_cons, List.length_nil] at hj hk hl
    have ne : ¬ ((v : Nat) : Int) = ((u : Nat) : Int) := fun z => hj 0 (by omega) (by rw [back, show v = u by omega])
    have h1 := hf p v e hv g (by omega)
    rw [whileR, ringD, hc]
    simp only [ne, decide_false, Bool.not_false, R.bind_ok, if_true]
    rw [← ringD, h1]
    simp only [R.bind_ok]
    rw [ih hc (e :: p) k (hi.som v e hv g).2.1 (fun j hjl z => hj (j + 1) (by omega) (by rw [back]; simp [g, z])) (by omega) (by simp; omega)]
    simp
theorem circle_at_ok {n : Nat} {es : List Nd} {w : Nd → Int} {st : BF.St} (hi : Inv w es n st) (hn : n ≤ 900) {x : Nat} (hx : x < n) {p : List Nd} (b : Back st.2 x p x) (hp : p ≠ []) (hl : p.length ≤ n) (hj : ∀ j, 1 ≤ j → j < p.length → back st.2 j x ≠ some x) : mcircle_at [.list (st.2.map optD), .int (x : Nat)] = .ok (ringD p) := by
  have ix : ∀ v, v < n → dIx (.list (st.2.map optD)) (.int (v : Nat)) = some (optD (gl st.2 v)) := fun v hv => by
    rw [at_nat rfl (by rw [List.length_map, hi.ll]; exact hv)]
    simp [gl, List.getD, hi.ll, hv]
  have i0 : ∀ e : Nd, dIx (optD (some e)) (.int 0) = some (.int (e.a : Nat)) := fun _ => rfl
  generalize hxx : x = y at b
  cases b with
  | nil => exact absurd rfl hp
  | @step v e q u g b =>
    subst hxx
    simp only [List.length_append, List.length_cons, List.length_nil] at hl hj
    unfold mcircle_at
    simp only [rcircle_at, seqR_cons, seqR_nil, R.bind_ok, ix x hx, g, R.of_some, i0]
    have one : PyData.tuple [optD (some e)] = ringD [e] := rfl
    rw [one]
    rw [circle_at_loop hi (x := x) (fun ds v => by simp only [R.bind_ok, dne_int, R.of_some, asB_bool]) (fun p v f hv hg hl => by
      have it : itemsD (ringD p) = some (p.map Nd.D) := rfl
      have tp : tupD (optD (some f) :: p.map Nd.D) = some (ringD (f :: p)) := if_pos (Nat.le_trans (by simp; omega : (optD (some f) :: p.map Nd.D).length ≤ 100000) (by decide))
      simp only [R.bind_ok, ix v hv, hg, R.of_some, it, i0, List.append_nil, tp]) q e.a [e] 100000 (hi.som x e hx g).2.1 b (fun j h z => hj (j + 1) (by omega) (by omega) (by rw [back]; simp [g, z])) (by omega) (by simp; omega)]
    rfl
/-- a circle that is pushed on, or none -/
theorem circle_above_ok {n : Nat} {es : List Nd} {s : PyData} {top bottom : Int} (hn0 : 1 ≤ n) (hn : n ≤ 900) (he : ∀ e ∈ es, EOk n e ∧ (0 ≤ e.d ∧ e.d < 1000) ∧ (0 ≤ e.r ∧ e.r < 1000)) (hs : WkS n es s) :
    ((∃ t, (laps (fun e => e.d * bottom - e.r * top) es (n + 1) (start0 n)).1 = some t) ∧ mcircle_above [s, .int top, .int bottom] = .ok .none) ∨
    ((laps (fun e => e.d * bottom - e.r * top) es (n + 1) (start0 n)).1 = none ∧ ∃ p x, Circ es x p ∧ 0 < wt (fun e => e.d * bottom - e.r * top) p ∧ p.length ≤ n ∧ mcircle_above [s, .int top, .int bottom] = .ok (ringD p)) := by
  have ho := fun e m => (he e m).1
  have z := at_zero hs.choose_spec.choose_spec.1
  have pu := pushed_ok (w := fun e => e.d * bottom - e.r * top) (wl := fun d185 => ((((R.ok d185).bind fun x186 => (R.ok (PyData.int 2)).bind fun y187 => R.of (dIx x186 y187)).bind fun x188 => (R.ok (PyData.int bottom)).bind fun y189 => R.of (dMul x188 y189)).bind fun x194 => (((R.ok d185).bind fun x190 => (R.ok (PyData.int 3)).bind fun y191 => R.of (dIx x190 y191)).bind fun x192 => (R.ok (PyData.int top)).bind fun y193 => R.of (dMul x192 y193)).bind fun y195 => R.of (dSub x194 y195))) (show n ≤ 1000 by omega) ho (fun e m => by
    obtain ⟨_, ⟨d0, d1⟩, ⟨r0, r1⟩⟩ := he e m
    simp only [R.bind_ok, at_two (NdS.hard e), at_three (NdS.hard e), R.of_some, dMul_int (mulOk_l (i := e.d) (j := bottom) (by omega) (by omega)), dMul_int (mulOk_l (i := e.r) (j := top) (by omega) (by omega)), dSub_int]) hs
  have dp : ∀ x y : PyData, (decTup (decCons (fun d => some d) (decOne (fun d => some d)))) (.tuple [x, y]) = some (x, y) := fun _ _ => rfl
  cases hlp : (laps (fun e => e.d * bottom - e.r * top) es (n + 1) (start0 n)).1 with
  | some t =>
    left
    refine ⟨⟨t, rfl⟩, ?_⟩
    rw [hlp] at pu
    have i1 : dIsNot (timD t) .none = some (.bool true) := rfl
    unfold mcircle_above
    simp only [rcircle_above, R.bind_ok] at pu ⊢
    rw [pu]
    simp only [R.bind_ok, dp, R.of_some, i1, asB_bool, if_true]
    rfl
  | none =>
    right
    refine ⟨rfl, ?_⟩
    obtain ⟨⟨v, hv, hb⟩, h2⟩ := no_rest (inv_start _ es n) ho (Nat.le_succ n) (Nat.le_add_left 1 n) hlp
    have e2 := (laps_none hlp).1
    have iv := inv_after (inv_start (fun e => e.d * bottom - e.r * top) es n) ho (n + 1)
    rw [e2] at hb h2
    rw [hlp, e2] at pu
    generalize hst : after (fun e => e.d * bottom - e.r * top) es (start0 n) (n + 1) = st at hb h2 pu iv
    -- the first task that goes so far back
    have ne : (List.range n).filter (fun v => (back st.2 n v).isSome) ≠ [] := fun h => by
      have := List.filter_eq_nil_iff.mp h v (List.mem_range.mpr hv)
      cases hx : back st.2 n v with
      | none => exact hb hx
      | some x => rw [hx] at this; simp at this
    obtain ⟨v0, vs, hvs⟩ := List.exists_cons_of_ne_nil ne
    have hm : v0 ∈ (List.range n).filter (fun v => (back st.2 n v).isSome) := by rw [hvs]; exact List.mem_cons_self
    obtain ⟨m1, m2⟩ := List.mem_filter.mp hm
    have hv0 := List.mem_range.mp m1
    obtain ⟨x, hx⟩ := Option.isSome_iff_exists.mp m2
    obtain ⟨hxn, p, b, c, pos, pl, _, pj⟩ := h2 v0 x hv0 hx
    refine ⟨p, x, c, pos, pl, ?_⟩
    have i1 : dIsNot PyData.none .none = some (.bool false) := rfl
    have ca := circle_at_ok iv hn hxn b c.ne pl pj
    unfold mcircle_above
    simp only [rcircle_above, R.bind_ok] at pu ⊢
    rw [pu]
    simp only [seqR_cons, seqR_nil, R.bind_ok, dp, R.of_some, i1, asB_bool, Bool.false_eq_true, if_false, z, range1_nat (show n ≤ 100000 by omega)]
    rw [lcR_map (List.range n) (fun (v : Nat) => PyData.int (v : Int)) (fun (v : Nat) => PyData.int (v : Int)) (fun v => bD (back st.2 n v)) rfl (fun _ _ => rfl) (fun v hv => by exact back_from_ok iv (by omega) (List.mem_range.mp hv))]
    simp only [R.bind_ok, items_list, R.of_some]
    rw [lcR_ok (List.range n) (fun v => bD (back st.2 n v)) (fun v => bD (back st.2 n v)) (fun v => (back st.2 n v).isSome) (fun v => bD (back st.2 n v)) rfl (fun _ _ => rfl) (fun v _ => by
      cases back st.2 n v <;> rfl) (fun _ _ _ => rfl)]
    have ix : dIx (.list (((List.range n).filter fun v => (back st.2 n v).isSome).map fun v => bD (back st.2 n v))) (.int 0) = some (.int (x : Nat)) := by
      rw [hvs, List.map_cons, hx]
      exact at_zero rfl
    simp only [R.bind_ok, ix, R.of_some, ca]
    rfl
theorem a_circle_ok {n : Nat} {es : List Nd} {s : PyData} {beat : Int} (hn0 : 1 ≤ n) (hn : n ≤ 900) (he : ∀ e ∈ es, EOk n e ∧ (0 ≤ e.d ∧ e.d < 1000) ∧ (0 ≤ e.r ∧ e.r < 1000)) (hs : WkS n es s) :
    ((∃ t, timesOf beat n es = some t) ∧ ma_circle [s, .int beat] = .ok .none) ∨ (timesOf beat n es = none ∧ ∃ p x, Circ es x p ∧ posR beat p = true ∧ p.length ≤ n ∧ ma_circle [s, .int beat] = .ok (ringD p)) := by
  have w : (fun e : Nd => e.d * 1 - e.r * beat) = wb beat := by funext e; simp [wb]
  have := circle_above_ok (top := beat) (bottom := 1) hn0 hn he hs
  rw [w] at this
  have un : ∀ r, mcircle_above [s, .int beat, .int 1] = .ok r → ma_circle [s, .int beat] = .ok r := fun r h => by
    unfold ma_circle
    simp only [ra_circle, seqR_cons, seqR_nil, R.bind_ok, h]
    rfl
  rcases this with ⟨h1, h2⟩ | ⟨h1, p, x, c, pos, pl, h2⟩
  · exact .inl ⟨h1, un _ h2⟩
  · exact .inr ⟨h1, p, x, c, posR_iff.mpr pos, pl, un _ h2⟩
end K64

set_option maxHeartbeats 4000000
namespace K64
open PySem PySem.Spec PyProof.Rows L2 SE BF
/-! ### the law k64: the least beat, the greatest ratio -/
theorem sums_ok (c : List Nd) : msums_of [ringD c] = .ok (.tuple [.int (sD c), .int (sR c)]) := sums_of_ok c
theorem lsums_ok (c : List Nd) : m_law_sums [ringD c] = .ok (.tuple [.int (sD c), .int (sR c)]) := law_sums_ok c
theorem dec_two (x y : PyData) : (decTup (decCons (fun d => some d) (decOne (fun d => some d)))) (.tuple [x, y]) = some (x, y) := rfl
theorem law_low_ok {a b : Int} (ha : 0 ≤ a) (hb : 0 < b) (hb2 : b < 1000) : m_law_low [.int a, .int b] = .ok (.tuple [.int (low a b).1, .int (low a b).2]) := by
  obtain ⟨m, rfl⟩ := Int.eq_ofNat_of_zero_le ha
  obtain ⟨k, rfl⟩ := Int.eq_ofNat_of_zero_le (show 0 ≤ b by omega)
  have hg : 0 < Nat.gcd m k := Nat.gcd_pos_of_pos_right m (by omega)
  have hg2 : Nat.gcd m k ≤ k := Nat.le_of_dvd (by omega) (Nat.gcd_dvd_right m k)
  have fd : ∀ i : Int, dFdiv (.int i) (.int (Nat.gcd m k : Nat)) = some (.int (i / (Nat.gcd m k : Nat))) := fun i => by
    rw [dFdiv_int (by omega) (by omega), Int.fdiv_eq_ediv_of_nonneg _ (by omega)]
  unfold m_law_low
  simp only [r_law_low, R.bind_ok]
  rw [euclid (fun a b => by simp only [R.bind_ok, dne_int, R.of_some, asB_bool]) (fun a b hb => by simp only [seqR_cons, seqR_nil, R.bind_ok, dInt_int, R.of_some, dMod_int hb]) 100000 m k (by omega)]
  simp only [R.bind_ok, seqF, seqR_cons, seqR_nil, fd, R.of_some]
  rfl
def LbOut (n : Nat) (es : List Nd) (p q : Int) (r : R (Fl PyData (PyData × PyData) Empty)) : Prop :=
  (∃ x, r = .ok (.nx (.int (max 1 (ceilB p q)), x)) ∧ neverB n es = false) ∨ (r = .ok (.rt .none) ∧ neverB n es = true)
theorem least_beat_ok {n : Nat} {es : List Nd} {s : PyData} {p q : Int} (hn1 : 1 ≤ n) (hn : n ≤ 5) (he : ∀ e ∈ es, N15 n e) (hs : WkS n es s) (hB : BestW es p q) : mleast_beat [s] = .ok (if neverB n es = true then .none else .int (max 1 (ceilB p q))) := by
  have ho := fun e m => (he e m).ok
  have ac := fun b => a_circle_ok (beat := b) hn1 (by omega) (fun e m => ⟨ho e m, ⟨(he e m).d0, by have := (he e m).d15; omega⟩, ⟨(he e m).r0, by have := (he e m).r3; omega⟩⟩) hs
  have kept := fun (b : Int) (hb : 1 ≤ b) => kept_iff (b := b) ho (fun e m => (he e m).r0) hB hb
  -- the circle told at a beat
  have st : ∀ b : Int, ∃ x, ma_circle [s, .int b] = .ok x := fun b => by
    rcases ac b with ⟨_, h⟩ | ⟨_, c, x, _, _, _, h⟩
    · exact ⟨_, h⟩
    · exact ⟨_, h⟩
  obtain ⟨x1, hx1⟩ := st 1
  unfold mleast_beat
  simp only [rleast_beat, seqR_cons, seqR_nil, R.bind_ok, hx1]
  generalize hw : whileR (B := Empty) _ _ 100000 _ = w
  have key : LbOut n es p q w := by
    rw [← hw]
    refine while_meas (fun s' => ∃ b : Int, s'.1 = .int b ∧ 1 ≤ b ∧ b ≤ 76 ∧ (∀ b', 1 ≤ b' → (∀ x c, Circ es x c → sD c ≤ sR c * b') → b ≤ b') ∧ ma_circle [s, .int b] = .ok s'.2) (fun s' => match s'.1 with | .int b => (100 - b).toNat | _ => 0) (LbOut n es p q) (fun s' hI => ?_) 100000 _ ⟨1, rfl, by omega, by omega, fun b' h _ => h, hx1⟩ (by show (100 - (1 : Int)).toNat < 100000; omega)
    obtain ⟨s1, s2⟩ := s'
    obtain ⟨b, e1, b1, b2, low', e2⟩ := hI
    simp only at e1 e2
    subst e1
    rcases ac b with ⟨⟨t, ht⟩, h⟩ | ⟨ht, c, x, hc, pos, pl, h⟩
    · rw [h] at e2
      cases e2
      left
      have i1 : dIsNot PyData.none .none = some (.bool false) := rfl
      refine ⟨by simp only [R.bind_ok, i1, R.of_some, asB_bool], .inl ⟨PyData.none, ?_, ?_⟩⟩
      · have k1 := (kept b b1).mp ((kept_beat ho).mp ⟨t, ht⟩)
        have k2 := low' (max 1 (ceilB p q)) (by omega) ((kept _ (by omega)).mpr ⟨k1.1, by omega⟩)
        rw [show b = max 1 (ceilB p q) by omega]
      · exact ((kept b b1).mp ((kept_beat ho).mp ⟨t, ht⟩)).1
    · rw [h] at e2
      cases e2
      right
      have i1 : dIsNot (ringD c) .none = some (.bool true) := rfl
      refine ⟨by simp only [R.bind_ok, i1, R.of_some, asB_bool], ?_⟩
      have ps : sR c * b < sD c := of_decide_eq_true pos
      obtain ⟨⟨d0, d75⟩, r0, r15⟩ := circ_bd hn he hc
      by_cases hz : sR c = 0
      · right; left
        refine ⟨.none, ?_, .inr ⟨rfl, (never_iff ho).mpr ⟨x, c, hc, hz, by rw [hz, Int.zero_mul] at ps; exact ps⟩⟩⟩
        simp only [seqR_cons, seqR_nil, R.bind_ok, sums_ok, dec_two, R.of_some, deq_int, hz, decide_true, asB_bool, if_true]
        rfl
      · left
        have fd : (sD c + sR c - 1).fdiv (sR c) = (sD c + sR c - 1) / sR c := Int.fdiv_eq_ediv_of_nonneg _ (by omega)
        have g1 : b + 1 ≤ (sD c + sR c - 1) / sR c := (Int.le_ediv_iff_mul_le (by omega)).mpr (by rw [Int.add_mul, Int.mul_comm b]; omega)
        have g2 : (sD c + sR c - 1) / sR c < 76 := (Int.ediv_lt_iff_lt_mul (by omega)).mpr (by omega)
        have g3 : ∀ b', (∀ x c, Circ es x c → sD c ≤ sR c * b') → (sD c + sR c - 1) / sR c ≤ b' := fun b' hb' => by
          have := hb' x c hc
          have : (sD c + sR c - 1) / sR c < b' + 1 := (Int.ediv_lt_iff_lt_mul (by omega)).mpr (by rw [Int.add_mul, Int.mul_comm b']; omega)
          omega
        obtain ⟨x2, hx2⟩ := st ((sD c + sR c - 1) / sR c)
        refine ⟨(.int ((sD c + sR c - 1) / sR c), x2), ?_, ⟨_, rfl, by omega, by omega, fun b' _ h => g3 b' h, hx2⟩, ?_⟩
        · simp only [seqR_cons, seqR_nil, R.bind_ok, sums_ok, dec_two, R.of_some, deq_int, hz, decide_false, asB_bool, Bool.false_eq_true, if_false, dAdd_int, dSub_int, dFdiv_int (show sR c ≠ 0 from hz) (show (sR c).natAbs < 1073741824 by omega), fd, hx2]
        · show (100 - (sD c + sR c - 1) / sR c).toNat < (100 - b).toNat
          omega
  rcases key with ⟨x, rfl, hv⟩ | ⟨rfl, hv⟩
  · simp only [R.bind_ok, seqF, hv, Bool.false_eq_true, if_false]
    rfl
  · simp only [R.bind_ok, seqF, hv, if_true]
    rfl
def GrOut (n : Nat) (es : List Nd) (r : R (Fl PyData (PyData × PyData) Empty)) : Prop :=
  (∃ x p q, r = .ok (.nx (.tuple [.int p, .int q], x)) ∧ Best es p q ∧ neverB n es = false) ∨ (r = .ex "Unfit" [] ∧ neverB n es = true)
theorem greatest_ok {n : Nat} {es : List Nd} {s : PyData} {p q : Int} (hn1 : 1 ≤ n) (hn : n ≤ 5) (he : ∀ e ∈ es, N15 n e) (hs : WkS n es s) (hB : BestW es p q) : mgreatest_ratio [s] = if neverB n es = true then .ex "Unfit" [] else .ok (.tuple [.int p, .int q]) := by
  have ho := fun e m => (he e m).ok
  have ca := fun t b => circle_above_ok (top := t) (bottom := b) hn1 (by omega) (fun e m => ⟨ho e m, ⟨(he e m).d0, by have := (he e m).d15; omega⟩, ⟨(he e m).r0, by have := (he e m).r3; omega⟩⟩) hs
  have st : ∀ t b : Int, ∃ x, mcircle_above [s, .int t, .int b] = .ok x := fun t b => by
    rcases ca t b with ⟨_, h⟩ | ⟨_, c, x, _, _, _, h⟩
    · exact ⟨_, h⟩
    · exact ⟨_, h⟩
  obtain ⟨x1, hx1⟩ := st 0 1
  unfold mgreatest_ratio
  simp only [rgreatest_ratio, seqR_cons, seqR_nil, R.bind_ok, hx1, calm_ok]
  generalize hw : whileR (B := Empty) _ _ 100000 _ = w
  have key : GrOut n es w := by
    rw [← hw]
    refine while_meas (fun s' => ∃ p q : Int, s'.1 = .tuple [.int p, .int q] ∧ Part es p q ∧ mcircle_above [s, .int p, .int q] = .ok s'.2) (fun s' => match s'.1 with | .tuple [.int p, .int q] => (20000 - 225 * p / q).toNat | _ => 0) (GrOut n es) (fun s' hI => ?_) 100000 _ ⟨0, 1, rfl, Part.start es, hx1⟩ (by show (20000 - 225 * (0 : Int) / 1).toNat < 100000; decide)
    obtain ⟨s1, s2⟩ := s'
    obtain ⟨p, q, e1, hP, e2⟩ := hI
    simp only at e1 e2
    subst e1
    rcases ca p q with ⟨t, h⟩ | ⟨ht, c, x, hc, pos, pl, h⟩
    · rw [h] at e2
      cases e2
      left
      have i1 : dIsNot PyData.none .none = some (.bool false) := rfl
      have u := (kept_ratio ho).mp t
      refine ⟨by simp only [R.bind_ok, i1, R.of_some, asB_bool], .inl ⟨PyData.none, p, q, rfl, Best.of hP u, ?_⟩⟩
      rw [← Bool.not_eq_true]
      intro z
      obtain ⟨y, d, hd, h1, h2⟩ := (never_iff ho).mp z
      have := u y d hd
      rw [h1, Int.zero_mul] at this
      have := Int.mul_pos h2 hP.q0
      omega
    · rw [h] at e2
      cases e2
      right
      have i1 : dIsNot (ringD c) .none = some (.bool true) := rfl
      refine ⟨by simp only [R.bind_ok, i1, R.of_some, asB_bool], ?_⟩
      rw [wt_ratio] at pos
      obtain ⟨⟨d0, d75⟩, r0, r15⟩ := circ_bd hn he hc
      have q0 := hP.q0
      by_cases hz : sR c = 0
      · right; right
        refine ⟨"Unfit", [], ?_, .inr ⟨rfl, (never_iff ho).mpr ⟨x, c, hc, hz, ?_⟩⟩⟩
        · simp only [seqR_cons, seqR_nil, R.bind_ok, sums_ok, calm_ok, dec_two, R.of_some, deq_int, hz, decide_true, asB_bool, if_true]
          rfl
        · rw [hz, Int.zero_mul] at pos
          apply Classical.byContradiction
          intro z
          rw [show sD c = 0 by omega, Int.zero_mul] at pos
          omega
      · left
        have hr : 0 < sR c := by omega
        have lp := Part.of hn he hc hr
        have gr := grows hn he hc hr hP (by rw [Int.mul_comm p]; omega)
        have lf := lp.fl
        have pf := hP.fl
        obtain ⟨x2, hx2⟩ := st (low (sD c) (sR c)).1 (low (sD c) (sR c)).2
        have gl : (Nat.gcd (sD c).natAbs (sR c).natAbs : Int) = (Int.gcd (sD c) (sR c) : Int) := rfl
        obtain ⟨g0, ea, eb, h1, h2, h3, h4, h5⟩ := low_spec d0 hr
        have gle : (Int.gcd (sD c) (sR c) : Int) ≤ 15 := by
          have := Int.gcd_le_right (sD c) hr
          omega
        have fd : ∀ i : Int, dFdiv (.int i) (.int (Int.gcd (sD c) (sR c) : Int)) = some (.int (i / (Int.gcd (sD c) (sR c) : Int))) := fun i => by
          rw [dFdiv_int (by omega) (by omega), Int.fdiv_eq_ediv_of_nonneg _ (by omega)]
        have j0 : ∀ u v : PyData, dIx (.tuple [u, v]) (.int 0) = some u := fun _ _ => rfl
        have j1 : ∀ u v : PyData, dIx (.tuple [u, v]) (.int 1) = some v := fun _ _ => rfl
        have hx2 : mcircle_above [s, .int (sD c / (Int.gcd (sD c) (sR c) : Int)), .int (sR c / (Int.gcd (sD c) (sR c) : Int))] = .ok x2 := hx2
        refine ⟨(.tuple [.int (low (sD c) (sR c)).1, .int (low (sD c) (sR c)).2], x2), ?_, ⟨_, _, rfl, lp, hx2⟩, ?_⟩
        · simp only [seqR_cons, seqR_nil, R.bind_ok, sums_ok, calm_ok, dec_two, R.of_some, deq_int, hz, decide_false, asB_bool, Bool.false_eq_true, if_false, dGcd, gl, fd, j0, j1, hx2]
          rfl
        · show (20000 - 225 * (low (sD c) (sR c)).1 / (low (sD c) (sR c)).2).toNat < (20000 - 225 * p / q).toNat
          omega
  rcases key with ⟨x, p', q', rfl, hb, hv⟩ | ⟨rfl, hv⟩
  · obtain ⟨rfl, rfl⟩ := hB.uniq hb.w
    simp only [R.bind_ok, seqF, hv, Bool.false_eq_true, if_false]
    rfl
  · simp only [hv, if_true]
    rfl
end K64

set_option maxHeartbeats 4000000
namespace K64
open PySem PySem.Spec PyProof.Rows L2 SE BF
theorem foldL_ok {L : PyData → PyData → R (Fl PyData PyData PyData)} (hL : ∀ p q D R : Int, 0 ≤ D → D < 1000 → 0 ≤ R → R < 1000 → L (.tuple [.int p, .int q]) (.tuple [.int D, .int R]) = .ok (.nx (.tuple [.int (stepB (p, q) (D, R)).1, .int (stepB (p, q) (D, R)).2]))) :
    ∀ (xs : List (Int × Int)) (s : Int × Int), (∀ x ∈ xs, (0 ≤ x.1 ∧ x.1 < 1000) ∧ 0 ≤ x.2 ∧ x.2 < 1000) → loopR (B := Empty) L (xs.map fun x => .tuple [.int x.1, .int x.2]) (.tuple [.int s.1, .int s.2]) = .ok (.nx (.tuple [.int (xs.foldl stepB s).1, .int (xs.foldl stepB s).2]))
  | [], _, _ => rfl
  | x :: xs, s, h => by
    obtain ⟨⟨h1, h2⟩, h3, h4⟩ := h x List.mem_cons_self
    rw [List.map_cons, loopR, hL s.1 s.2 x.1 x.2 h1 h2 h3 h4]
    exact foldL_ok hL xs (stepB s x) fun y m => h y (List.mem_cons_of_mem _ m)
theorem law1_ok (p q D r : Int) (h1 : 0 ≤ D) (h2 : D < 1000) (h3 : 0 ≤ r) (h4 : r < 1000) : Llaw1 (.tuple [.int p, .int q]) (.tuple [.int D, .int r]) = .ok (.nx (.tuple [.int (stepB (p, q) (D, r)).1, .int (stepB (p, q) (D, r)).2])) := by
  have j0 : ∀ u v : PyData, dIx (.tuple [u, v]) (.int 0) = some u := fun _ _ => rfl
  have j1 : ∀ u v : PyData, dIx (.tuple [u, v]) (.int 1) = some v := fun _ _ => rfl
  unfold stepB
  by_cases hr : 0 < r
  · by_cases hd : p * r < D * q
    · rw [if_pos ⟨hr, hd⟩]
      simp only [Llaw1, R.of_some, dec_two, seqR_cons, seqR_nil, R.bind_ok, j0, j1, dCmp_int, dMul_int (mulOk_l (i := D) (j := q) (by omega) (by omega)), dMul_int (mulOk_r (i := p) (j := r) (by omega) (by omega)), hr, hd, decide_true, asB_bool, if_true, law_low_ok h1 hr h4]
    · rw [if_neg fun z => hd z.2]
      simp only [Llaw1, R.of_some, dec_two, seqR_cons, seqR_nil, R.bind_ok, j0, j1, dCmp_int, dMul_int (mulOk_l (i := D) (j := q) (by omega) (by omega)), dMul_int (mulOk_r (i := p) (j := r) (by omega) (by omega)), hr, hd, decide_true, decide_false, asB_bool, if_true, Bool.false_eq_true, if_false]
  · rw [if_neg fun z => hr z.1]
    simp only [Llaw1, R.of_some, dec_two, seqR_cons, seqR_nil, R.bind_ok, dCmp_int, hr, decide_false, asB_bool, Bool.false_eq_true, if_false]
theorem law3_eq : Llaw3 = Llaw1 := rfl
theorem bars_low {n : Nat} {es c : List Nd} {s : PyData} {b x : Int} {v : Nat} (hn : n ≤ 5) (he : ∀ e ∈ es, NdOk n e) (hs : WkS n es s) (hc : Circ es v c) (pos : posR b c = true) (hb : b ≤ 8) (h0 : 0 ≤ x) (h1 : x ≤ b) : mbars [s, .int x, ringD c] = .ok (.bool true) := by
  have hl := hc.len fun e m => (he e m).ok
  rw [bars_ok h0 (by omega) hs (fun e m => by
    have := hc.walk.mem e m
    exact ⟨this, (he e this).ok, (he e this).d0, (he e this).r0⟩) (by omega), circ_B hc]
  have ps : sR c * b < sD c := of_decide_eq_true pos
  have r0 : 0 ≤ sR c := wt_nonneg fun e m => (he e (hc.walk.mem e m)).r0
  have : sR c * x ≤ sR c * b := Int.mul_le_mul_of_nonneg_left h1 r0
  have : posR x c = true := decide_eq_true (show sR c * x < sD c by omega)
  rw [this]
  rfl
theorem beat_ok {n : Nat} {es : List Nd} {soft w : PyData} {p q b : Int} (hn1 : 1 ≤ n) (hn : n ≤ 5) (he : ∀ e ∈ es, NdOk n e) (hs : WkS n es soft) (hB : BestW es p q) (b1 : 1 ≤ b) (b8 : b ≤ 8) : Llaw2 (soft, w) (if neverB n es = true then .none else .int (max 1 (ceilB p q))) () (.int b) = .ok (.nx ()) := by
  have ho := fun e m => (he e m).ok
  have kept := kept_iff (b := b) ho (fun e m => (he e m).r0) hB b1
  have tm := times_of_ok (beat := b) (show n ≤ 1000 by omega) ho (by omega) (by omega) hs
  have ac := a_circle_ok (beat := b) hn1 (by omega) (fun e m => ⟨ho e m, ⟨(he e m).d0, by have := (he e m).d5; omega⟩, ⟨(he e m).r0, by have := (he e m).r3; omega⟩⟩) hs
  have n1 : dIsNot PyData.none .none = some (.bool false) := rfl
  have n2 : dIs PyData.none .none = some (.bool true) := rfl
  have n3 : ∀ i : Int, dIsNot (.int i) .none = some (.bool true) := fun _ => rfl
  have isT : dIsNot (.bool true) (.bool true) = some (.bool false) := rfl
  have sm : ∀ x y : Bool, m_law_same 10 [.list [.bool x, .bool y], .list [.bool x, .bool y]] = .ok (.bool true) := fun x y => by
    refine same_ok 10 _ ?_ ?_
    · simp [dep, depL]
    · simp [okD, okL]
  rcases ac with ⟨⟨t, ht⟩, hc⟩ | ⟨ht, c, x, cc, pos, pl, hc⟩
  · obtain ⟨k1, k2⟩ := kept.mp ((kept_beat ho).mp ⟨t, ht⟩)
    rw [ht] at tm
    obtain ⟨tl, t0, t20, tf⟩ := timesOf_spec he (by omega) ht
    have n4 : dIsNot (timO (some t)) .none = some (.bool true) := rfl
    have it := is_times_ok (t := t) ho (show 0 ≤ b by omega) (by omega) hs
    have it : mis_times [soft, .int b, timO (some t)] = .ok (.bool true) := by
      rw [show timO (some t) = timD t from rfl, it, tl]
      have : (es.all fun e => decide (e.d ≤ gapOf b t e)) = true := List.all_eq_true.mpr fun e m => decide_eq_true (tf e m)
      rw [this]
      simp
    simp only [Llaw2, k1, Bool.false_eq_true, if_false, seqR_cons, seqR_nil, R.bind_ok, R.of_some, tm, hc, dec_two, n3, asB_bool, if_true, dCmp_int, k2, decide_true, n4, n2, sm, Bool.not_true, it, isT]
  · have nk : ¬ (∀ x c, Circ es x c → sD c ≤ sR c * b) := fun h => by
      have := h x c cc
      have ps : sR c * b < sD c := of_decide_eq_true pos
      omega
    rw [ht] at tm
    have n4 : dIsNot (timO none) .none = some (.bool false) := rfl
    have n5 : dIs (ringD c) .none = some (.bool false) := rfl
    have ba := fun (y : Int) (h0 : 0 ≤ y) (h1 : y ≤ b) => bars_low hn he hs cc pos b8 h0 h1
    have ne : dNe (.list []) (.list []) = some (.bool false) := rfl
    have good : (((R.of (dIsNot (if neverB n es = true then PyData.none else .int (max 1 (ceilB p q))) .none)).bind asB).bind fun k => if k = true then R.of (dGeI (.int b) (if neverB n es = true then PyData.none else .int (max 1 (ceilB p q)))) else R.ok (.bool false)) = .ok (.bool false) := by
      cases hv : neverB n es with
      | true => simp only [if_true, n1, R.of_some, R.bind_ok, asB_bool, Bool.false_eq_true, if_false]
      | false =>
        have : ¬ max 1 (ceilB p q) ≤ b := fun z => nk (kept.mpr ⟨hv, z⟩)
        simp only [Bool.false_eq_true, if_false, n3, R.of_some, R.bind_ok, asB_bool, if_true, dCmp_int, this, decide_false]
    simp only [Llaw2, seqR_cons, seqR_nil, R.bind_ok, R.of_some, tm, hc, dec_two]
    rw [good]
    simp only [R.bind_ok, n4, n5, R.of_some, sm, asB_bool, Bool.not_true, Bool.not_false, Bool.false_eq_true, if_false, if_true, ba b (by omega) (Int.le_refl _), isT, dAdd_int, range2_ok (show -100000 ≤ (1 : Int) by omega) (show b + 1 ≤ 100000 by omega) (by omega)]
    rw [lcR_ok (List.range (b + 1 - 1).toNat) (fun (k : Nat) => PyData.int (1 + (k : Int))) (fun (k : Nat) => PyData.int (1 + (k : Int))) (fun _ => false) (fun _ => .int 1) rfl (fun _ _ => rfl) (fun k m => by
      have := List.mem_range.mp m
      simp only [ba (1 + (k : Int)) (by omega) (by omega), R.bind_ok, isT, R.of_some, asB_bool]) (fun _ _ h => by cases h)]
    have f0 : (List.range (b + 1 - 1).toNat).filter (fun _ => false) = [] := by simp
    simp only [R.bind_ok, f0, List.map_nil, ne, R.of_some, asB_bool, Bool.false_eq_true, if_false]
end K64

set_option maxHeartbeats 4000000
namespace K64
open PySem PySem.Spec PyProof.Rows L2 SE BF
theorem neverD (n : Nat) (es : List Nd) : dNe (.list ((((ringsOf n es).map fun p => (sD p, sR p)).filter fun x => decide (x.2 = 0) && decide (0 < x.1)).map fun x => .tuple [.int x.1, .int x.2])) (.list []) = some (.bool (neverB n es)) := by
  rw [dNe_shp (Shp.lstM (f := fun x : Int × Int => PyData.tuple [.int x.1, .int x.2]) fun x _ => Shp.val x) (Shp.list (k := 0) (ds := []) fun _ h => nomatch h) (by omega) (by omega)]
  have : neverB n es = !(((ringsOf n es).map fun p => (sD p, sR p)).filter fun x => decide (x.2 = 0) && decide (0 < x.1)).isEmpty := by
    rw [neverB, Bool.eq_iff_iff, List.any_eq_true, Bool.not_eq_true', List.isEmpty_eq_false_iff_exists_mem]
    constructor
    · rintro ⟨p, hp, h⟩
      exact ⟨(sD p, sR p), List.mem_filter.mpr ⟨List.mem_map.mpr ⟨p, hp, rfl⟩, h⟩⟩
    · rintro ⟨x, hx⟩
      obtain ⟨h1, h2⟩ := List.mem_filter.mp hx
      obtain ⟨p, hp, rfl⟩ := List.mem_map.mp h1
      exact ⟨p, hp, h2⟩
  rw [this]
  cases (((ringsOf n es).map fun p => (sD p, sR p)).filter fun x => decide (x.2 = 0) && decide (0 < x.1)) <;> rfl
theorem best_none : BestW [] 0 1 := ⟨by omega, by omega, rfl, .inl rfl, fun x c h => by
  have : c = [] := List.eq_nil_iff_forall_not_mem.mpr fun e m => nomatch h.walk.mem e m
  exact absurd this h.ne⟩
theorem never_none (n : Nat) : neverB n [] = false := by
  rw [← Bool.not_eq_true]
  intro z
  obtain ⟨x, c, h, _⟩ := (never_iff (n := n) (es := []) (fun e m => absurd m (by simp))).mp z
  have : c = [] := List.eq_nil_iff_forall_not_mem.mpr fun e m => nomatch h.walk.mem e m
  exact absurd this h.ne
theorem same_unfit : m_law_same 10 [.list [.none, .str "unfit"], .list [.none, .str "unfit"]] = .ok (.bool true) := by
  have so : PyData.strOk (Str.ofString "unfit") = true := by decide +kernel
  have es : dEq (.str "unfit") (.str "unfit") = some (.bool true) := by simp [dEq, SeqAt.shaped, PyData.canLay0, PyData.depth, PyData.eqv, so]
  have s1 : m_law_same 9 [.none, .none] = .ok (.bool true) := same_ok 9 .none (by simp [dep]) (by simp [okD])
  have s2 : m_law_same 9 [.str "unfit", .str "unfit"] = .ok (.bool true) := by
    unfold m_law_same
    simp [r_law_same, tyR2, tyR, isTy, dIs, isNone, retF, es]
  have ne : ∀ b : Bool, dNe (.bool b) (.bool b) = some (.bool false) := fun b => by cases b <;> rfl
  have t1 : tyR "list" (.list [.none, .str "unfit"]) = .ok (.bool true) := rfl
  have t2 : tyR "tuple" (.list [.none, .str "unfit"]) = .ok (.bool false) := rfl
  have t3 : tyR2 "list" "tuple" (.list [.none, .str "unfit"]) = .ok (.bool true) := rfl
  have z : dZipL [.list [.none, .str "unfit"], .list [.none, .str "unfit"]] = some ([PyData.none, .str "unfit"].map fun d => .tuple [d, d]) := by
    have := zip_ok (x := .list [.none, .str "unfit"]) (y := .list [.none, .str "unfit"]) rfl rfl (by simp)
    exact this
  have l : dLen [.list [.none, .str "unfit"]] = some (.int 2) := rfl
  unfold m_law_same
  simp only [r_law_same, R.bind_ok, t1, t2, t3, ne, R.of_some, asB_bool, if_true, Bool.false_eq_true, if_false, seqR_cons, seqR_nil, l, deq_int, decide_true, z]
  rw [lcR_map [PyData.none, .str "unfit"] (fun d => .tuple [d, d]) (fun d => (d, d)) (fun _ => .bool true) rfl (fun _ _ => rfl) (fun d m => by
    simp only [List.mem_cons, List.not_mem_nil, or_false] at m
    rcases m with rfl | rfl
    · exact s1
    · exact s2)]
  simp only [R.bind_ok, List.map_cons, List.map_nil]
  rfl
theorem fold_sums {n : Nat} {es : List Nd} (hn : n ≤ 5) (he : ∀ e ∈ es, N15 n e) : loopR (B := Empty) Llaw1 (((ringsOf n es).map fun p => (sD p, sR p)).map fun x => .tuple [.int x.1, .int x.2]) (.tuple [.int 0, .int 1]) = .ok (.nx (.tuple [.int (((ringsOf n es).map fun p => (sD p, sR p)).foldl stepB (0, 1)).1, .int (((ringsOf n es).map fun p => (sD p, sR p)).foldl stepB (0, 1)).2])) :=
  foldL_ok law1_ok _ (0, 1) fun x m => by
    obtain ⟨p, hp, rfl⟩ := List.mem_map.mp m
    have := circ_bd hn he (ring_circ hp)
    simp only
    omega
theorem math (ns : List Int) (hl : ns.length ≤ 63) : mlaw [.dict [(.none, .list (ns.map .int))]] = .ok (.bool true) := by
  obtain ⟨z, hz⟩ := cells_ok ns hl
  obtain ⟨u0, hbx, g0⟩ := box_ok z
  obtain ⟨n, es, u1, hw, n1, n5, he, hx, h9, g1⟩ := drawn_ok (most := 5) (wide := 9) (by omega) (by omega) (by omega) 0 u0 g0 (by omega)
  have hw : m_law_work u0 [.int 5, .int 9] = .ok (wrkD n es, u1) := hw
  have ho := fun e m => (he e m).ok
  have h15 : ∀ e ∈ es, N15 n e := fun e m => N15.of (he e m)
  have dp := dep_wrk n es
  obtain ⟨soft, u2, hs, ss, g2⟩ := mixed_ok 10 (wrkD n es) _ u1 (by omega) dp.2 g1 (by have := nodes_wrk n es; omega)
  have ws := WkS.of ss
  have hbd : (n + 2) * 9 ^ (n + 1) ≤ sizeLine := by
    have : (n = 1 ∨ n = 2 ∨ n = 3 ∨ n = 4 ∨ n = 5) := by omega
    rcases this with rfl | rfl | rfl | rfl | rfl <;> decide
  have hr := rings_ok (n := n) (es := es) (L := 9) h9 (by omega) (by omega) hbd
  have lf : (farOf es).length ≤ es.length := by rw [farOf, List.length_map]; exact List.length_filter_le _ _
  have hrf := rings_ok (n := n) (es := farOf es) (L := 9) (by omega) (by omega) (by omega) hbd
  have sm : ∀ E : List Nd, (ringsOf n E).map (fun p => PyData.tuple [.int (sD p), .int (sR p)]) = ((ringsOf n E).map fun p => (sD p, sR p)).map fun x => .tuple [.int x.1, .int x.2] := fun E => by rw [List.map_map]; rfl
  have f15 : ∀ e ∈ farOf es, N15 n e := fun e m => by
    obtain ⟨f, hf, rfl⟩ := List.mem_map.mp m
    obtain ⟨hf1, hf2⟩ := List.mem_filter.mp hf
    exact N15.rowd (he f hf1) (of_decide_eq_true hf2)
  have t15 : ∀ e ∈ es.map trip, N15 n e := fun e m => by
    obtain ⟨f, hf, rfl⟩ := List.mem_map.mp m
    exact N15.trip (he f hf)
  have hB := foldB_best n5 h15
  have hF := foldB_best n5 f15
  have fs := fold_sums n5 h15
  have ff := fold_sums n5 f15
  have prw : (decTup (decCons (fun d => some d) (decOne (fun d => some d)))) (wrkD n es) = some (.int (n : Nat), .tuple (es.map Nd.D)) := rfl
  have nv := neverD n es
  generalize (((ringsOf n es).map fun p => (sD p, sR p)).foldl stepB (0, 1)).1 = P at hB fs
  generalize (((ringsOf n es).map fun p => (sD p, sR p)).foldl stepB (0, 1)).2 = Q at hB fs
  generalize (((ringsOf n (farOf es)).map fun p => (sD p, sR p)).foldl stepB (0, 1)).1 = P' at hF ff
  generalize (((ringsOf n (farOf es)).map fun p => (sD p, sR p)).foldl stepB (0, 1)).2 = Q' at hF ff
  have lb := least_beat_ok n1 n5 h15 ws hB.w
  have gr := greatest_ok n1 n5 h15 ws hB.w
  have P0 := hB.p0; have P75 := hB.p75; have Q0 := hB.q0; have Q15 := hB.q15
  have r3 : dRange3 [.int 0, .int P, .int Q] = some ((List.range (if 0 < P then (P - 0 - 1) / Q + 1 else 0).toNat).map fun (i : Nat) => .int (0 + i * Q)) := if_pos ⟨⟨by omega, by omega, by omega, by omega⟩, by omega, by omega⟩
  have cl : (((if 0 < P then (P - 0 - 1) / Q + 1 else 0).toNat : Nat) : Int) = ceilB P Q := by
    unfold ceilB
    split
    · have := Int.ediv_nonneg (a := P - 1) (b := Q) (by omega) (by omega)
      rw [show P - 0 - 1 = P - 1 by omega]
      omega
    · rfl
  have j0 : ∀ u v : PyData, dIx (.tuple [u, v]) (.int 0) = some u := fun _ _ => rfl
  have j1 : ∀ u v : PyData, dIx (.tuple [u, v]) (.int 1) = some v := fun _ _ => rfl
  have bt := fun (b : Int) (b1 : 1 ≤ b) (b8 : b ≤ 8) (w : PyData) => beat_ok (w := w) n1 n5 he ws hB.w b1 b8
  have lp : ∀ w : PyData, loopR (B := Empty) (Llaw2 (soft, w) (if neverB n es = true then .none else .int (max 1 (ceilB P Q)))) ((List.range (9 - 1 : Int).toNat).map fun (k : Nat) => .int (1 + k)) () = .ok (.nx ()) := fun w => by
    obtain ⟨⟨⟩, e, _⟩ := loop_inv (B := Empty) (f := Llaw2 (soft, w) (if neverB n es = true then .none else .int (max 1 (ceilB P Q)))) (fun _ _ => True) ((List.range (9 - 1 : Int).toNat).map fun (k : Nat) => PyData.int (1 + k)) 0 () (fun j s x _ hx _ => by
      obtain ⟨k, hk, rfl⟩ := List.mem_map.mp hx
      have := List.mem_range.mp hk
      exact ⟨(), bt (1 + k) (by omega) (by omega) w, trivial⟩) trivial
    exact e
  have r2 : dRange2 (.int 1) (.int 9) = some ((List.range (9 - 1 : Int).toNat).map fun (k : Nat) => .int (1 + k)) := range2_ok (by omega) (by omega) (by omega)
  unfold mlaw
  simp only [rlaw, seqR_cons, seqR_nil, R.bind_ok, hz, hbx, hw, R.of_some, prw, hs, hr, items_list, dec_two]
  rw [lcR_map (ringsOf n es) ringD ringD (fun p => .tuple [.int (sD p), .int (sR p)]) rfl (fun _ _ => rfl) (fun p _ => by exact lsums_ok p)]
  simp only [R.bind_ok, sm, items_list, R.of_some, dec_two]
  rw [lcR_ok ((ringsOf n es).map fun p => (sD p, sR p)) (fun x => .tuple [.int x.1, .int x.2]) (fun x => PyData.tuple [.int x.1, .int x.2]) (fun x => decide (x.2 = 0) && decide (0 < x.1)) (fun x => .tuple [.int x.1, .int x.2]) rfl (fun _ _ => rfl) (fun x _ => by
    simp only [R.bind_ok, j0, j1, R.of_some, deq_int, asB_bool, dCmp_int]
    by_cases h : x.2 = 0 <;> simp [h]) (fun _ _ _ => rfl)]
  simp only [R.bind_ok, nv, R.of_some, law3_eq, fs, seqF, asB_bool, j0, j1]
  cases hv : neverB n es with
  | true =>
    rw [hv] at lb gr lp
    simp only [if_true] at lb gr lp
    have s1 : m_law_same 10 [.list [.none, .str "unfit"], .list [.none, .str "unfit"]] = .ok (.bool true) := same_unfit
    have hd : (R.heard "Unfit" "unfit" (R.ex "Unfit" [])).bind flatR = .ok (.str "unfit") := by
      show (R.ok (PyData.str "unfit")).bind flatR = _
      rw [R.bind_ok]
      exact if_pos (flatD_str _)
    have i1 : dIs PyData.none .none = some (.bool true) := rfl
    simp only [if_true, R.bind_ok, lb, gr, hd, s1, asB_bool, Bool.not_true, Bool.false_eq_true, if_false, r2, R.of_some, lp, i1]
    rfl
  | false =>
    rw [hv] at lb gr lp
    simp only [Bool.false_eq_true, if_false] at lb gr lp
    have gw := greatest_ok n1 n5 t15 (WkS.hard n (es.map trip)) (best_trip hB.w)
    have gf := greatest_ok n1 n5 f15 (WkS.hard n (farOf es)) hF.w
    have l0 := least_beat_ok (es := []) n1 n5 (fun e m => nomatch m) (WkS.hard n []) best_none
    rw [never_trip he hv] at gw
    rw [never_far he hv] at gf
    rw [never_none] at l0
    simp only [Bool.false_eq_true, if_false] at gw gf l0
    have l0 : mleast_beat [.tuple [.int (n : Nat), .tuple []]] = .ok (.int 1) := l0
    have hd : (R.heard "Unfit" "unfit" (R.ok (.tuple [.int P, .int Q]))).bind flatR = .ok (.tuple [.int P, .int Q]) := by
      show (R.ok (PyData.tuple [.int P, .int Q])).bind flatR = _
      rw [R.bind_ok]
      exact if_pos (by simp)
    have s1 : ∀ m : Int, m_law_same 10 [.list [.int m, .tuple [.int P, .int Q]], .list [.int m, .tuple [.int P, .int Q]]] = .ok (.bool true) := fun m => by
      refine same_ok 10 _ ?_ ?_
      · simp [dep, depL]
      · simp [okD, okL]
    have i1 : ∀ m : Int, dIs (.int m) .none = some (.bool false) := fun _ => rfl
    have ll := law_low_ok (a := 3 * P) (b := Q) (by omega) Q0 (by omega)
    have s2 : ∀ a b c d : Int, m_law_same 10 [.list [.tuple [.int a, .int b], .tuple [.int c, .int d], .int 1], .list [.tuple [.int a, .int b], .tuple [.int c, .int d], .int 1]] = .ok (.bool true) := fun a b c d => by
      refine same_ok 10 _ ?_ ?_
      · simp [dep, depL]
      · simp [okD, okL]
    have wd : (PyData.tuple [.int (n : Nat), .tuple (es.map fun e => Nd.D (trip e))]) = wrkD n (es.map trip) := by rw [wrkD, List.map_map]; rfl
    have wf : (PyData.tuple [.int (n : Nat), .tuple ((farOf es).map Nd.D)]) = wrkD n (farOf es) := rfl
    have fo := far_ok he (by omega) hx (by omega)
    have fm : ((es.filter fun e => decide (e.r < 2)).map fun e => Nd.D (rowd e)) = (farOf es).map Nd.D := by rw [farOf, List.map_map]; rfl
    simp only [Bool.false_eq_true, if_false, R.bind_ok, r3, R.of_some, dlen_list, List.length_map, List.length_range, cl, dmax_two, lb, gr, hd, s1, asB_bool, Bool.not_true, r2, lp, seqF, i1, items_tuple]
    rw [lcR_map es Nd.D (fun e => (.int (e.a : Nat), .int (e.b : Nat), .int e.d, .int e.r)) (fun e => Nd.D (trip e)) rfl (fun e _ => dec_quad rfl) (fun e m => by
      simp only [dMul_int (mulOk_l (i := 3) (j := e.d) (by omega) (by omega)), R.of_some, R.bind_ok]
      rfl)]
    simp only [R.bind_ok, dTuple_list, R.of_some, wd]
    rw [lcR_ok es Nd.D (fun e => (.int (e.a : Nat), .int (e.b : Nat), .int e.d, .int e.r)) (fun e => decide (e.r < 2)) (fun e => Nd.D (rowd e)) rfl (fun e _ => dec_quad rfl) (fun e _ => by simp only [dCmp_int, R.of_some, R.bind_ok, asB_bool]) (fun e m _ => by
      simp only [dMul_int (mulOk_l (i := 3) (j := e.r) (by omega) (by omega)), R.of_some, R.bind_ok]
      rfl)]
    simp only [R.bind_ok, fm, fo, R.of_some, dTuple_list, wf, hrf, items_list]
    rw [lcR_map (ringsOf n (farOf es)) ringD ringD (fun p => .tuple [.int (sD p), .int (sR p)]) rfl (fun _ _ => rfl) (fun p _ => by exact lsums_ok p)]
    simp only [R.bind_ok, sm, items_list, R.of_some, ff, seqF, gw, gf, l0, dMul_int (mulOk_l (i := 3) (j := P) (by omega) (by omega)), ll, s2]
    rfl
end K64

namespace K64
open PySem PySem.Spec PyProof.Rows L2 SE
theorem all_mk {l : PySem.W.OpenLaw} {w : World} {K : PySem.W.Frag} {h : Heap} {mg : Str → Option Value} {fa fis_number fis_tuple_of fgap fis_times fset_of fis_from fis_below fis_need ftupled fhas_needs fis_circle fsums_of fbars fpushed ftimes_of fback_from fcircle_at fcircle_above fa_circle fleast_beat fgreatest_ratio f_law_box f_law_cells f_law_take f_law_mixed f_law_same f_law_work f_law_rings f_law_sums f_law_heard f_law_low flaw ctimes_of Ptimes_of ccircle_above Pcircle_above claw Plaw : Addr} (X : K.In h) (G : h.Ns mainGlobals mg) (hfa : mg "law" = some (.ref fa)) 
    {od0 an0 : Option Addr} {sl0 : Array (Option Value)} {oc0 kV0 dc0 pm0 ct0 cd0 : Value} (a0 : PySem.W.nsIn K mainGlobals "is_number" = some (some (.ref fis_number))) (l0 : K.lookup fis_number = some ⟨oc0, od0, .func (PySem.W.fnOf "is_number" "is_number" (defArgs (topS 3)) (defBody (topS 3)) (defScope (topS 3)) .none kV0 dc0 pm0 an0 cd0 ct0), sl0⟩) (c0 : PySem.W.codeIn K cd0 "is_number" = true) (k0 : PySem.W.keepIn K (.ref fis_number) = true) 
    {od1 an1 : Option Addr} {sl1 : Array (Option Value)} {oc1 kV1 dc1 pm1 ct1 cd1 : Value} (a1 : PySem.W.nsIn K mainGlobals "is_tuple_of" = some (some (.ref fis_tuple_of))) (l1 : K.lookup fis_tuple_of = some ⟨oc1, od1, .func (PySem.W.fnOf "is_tuple_of" "is_tuple_of" (defArgs (topS 6)) (defBody (topS 6)) (defScope (topS 6)) .none kV1 dc1 pm1 an1 cd1 ct1), sl1⟩) (c1 : PySem.W.codeIn K cd1 "is_tuple_of" = true) (k1 : PySem.W.keepIn K (.ref fis_tuple_of) = true) 
    {od2 an2 : Option Addr} {sl2 : Array (Option Value)} {oc2 kV2 dc2 pm2 ct2 cd2 : Value} (a2 : PySem.W.nsIn K mainGlobals "gap" = some (some (.ref fgap))) (l2 : K.lookup fgap = some ⟨oc2, od2, .func (PySem.W.fnOf "gap" "gap" (defArgs (topS 12)) (defBody (topS 12)) (defScope (topS 12)) .none kV2 dc2 pm2 an2 cd2 ct2), sl2⟩) (c2 : PySem.W.codeIn K cd2 "gap" = true) (k2 : PySem.W.keepIn K (.ref fgap) = true) 
    {od3 an3 : Option Addr} {sl3 : Array (Option Value)} {oc3 kV3 dc3 pm3 ct3 cd3 : Value} (a3 : PySem.W.nsIn K mainGlobals "is_times" = some (some (.ref fis_times))) (l3 : K.lookup fis_times = some ⟨oc3, od3, .func (PySem.W.fnOf "is_times" "is_times" (defArgs (topS 13)) (defBody (topS 13)) (defScope (topS 13)) .none kV3 dc3 pm3 an3 cd3 ct3), sl3⟩) (c3 : PySem.W.codeIn K cd3 "is_times" = true) (k3 : PySem.W.keepIn K (.ref fis_times) = true) 
    {od4 an4 : Option Addr} {sl4 : Array (Option Value)} {oc4 kV4 dc4 pm4 ct4 cd4 : Value} (a4 : PySem.W.nsIn K mainGlobals "set_of" = some (some (.ref fset_of))) (l4 : K.lookup fset_of = some ⟨oc4, od4, .func (PySem.W.fnOf "set_of" "set_of" (defArgs (topS 7)) (defBody (topS 7)) (defScope (topS 7)) .none kV4 dc4 pm4 an4 cd4 ct4), sl4⟩) (c4 : PySem.W.codeIn K cd4 "set_of" = true) (k4 : PySem.W.keepIn K (.ref fset_of) = true) 
    {od5 an5 : Option Addr} {sl5 : Array (Option Value)} {oc5 kV5 dc5 pm5 ct5 cd5 : Value} (a5 : PySem.W.nsIn K mainGlobals "is_from" = some (some (.ref fis_from))) (l5 : K.lookup fis_from = some ⟨oc5, od5, .func (PySem.W.fnOf "is_from" "is_from" (defArgs (topS 4)) (defBody (topS 4)) (defScope (topS 4)) .none kV5 dc5 pm5 an5 cd5 ct5), sl5⟩) (c5 : PySem.W.codeIn K cd5 "is_from" = true) (k5 : PySem.W.keepIn K (.ref fis_from) = true) 
    {od6 an6 : Option Addr} {sl6 : Array (Option Value)} {oc6 kV6 dc6 pm6 ct6 cd6 : Value} (a6 : PySem.W.nsIn K mainGlobals "is_below" = some (some (.ref fis_below))) (l6 : K.lookup fis_below = some ⟨oc6, od6, .func (PySem.W.fnOf "is_below" "is_below" (defArgs (topS 5)) (defBody (topS 5)) (defScope (topS 5)) .none kV6 dc6 pm6 an6 cd6 ct6), sl6⟩) (c6 : PySem.W.codeIn K cd6 "is_below" = true) (k6 : PySem.W.keepIn K (.ref fis_below) = true) 
    {od7 an7 : Option Addr} {sl7 : Array (Option Value)} {oc7 kV7 dc7 pm7 ct7 cd7 : Value} (a7 : PySem.W.nsIn K mainGlobals "is_need" = some (some (.ref fis_need))) (l7 : K.lookup fis_need = some ⟨oc7, od7, .func (PySem.W.fnOf "is_need" "is_need" (defArgs (topS 11)) (defBody (topS 11)) (defScope (topS 11)) .none kV7 dc7 pm7 an7 cd7 ct7), sl7⟩) (c7 : PySem.W.codeIn K cd7 "is_need" = true) (k7 : PySem.W.keepIn K (.ref fis_need) = true) 
    {od8 an8 : Option Addr} {sl8 : Array (Option Value)} {oc8 kV8 dc8 pm8 ct8 cd8 : Value} (a8 : PySem.W.nsIn K mainGlobals "tupled" = some (some (.ref ftupled))) (l8 : K.lookup ftupled = some ⟨oc8, od8, .func (PySem.W.fnOf "tupled" "tupled" (defArgs (topS 2)) (defBody (topS 2)) (defScope (topS 2)) .none kV8 dc8 pm8 an8 cd8 ct8), sl8⟩) (c8 : PySem.W.codeIn K cd8 "tupled" = true) (k8 : PySem.W.keepIn K (.ref ftupled) = true) 
    {od9 an9 : Option Addr} {sl9 : Array (Option Value)} {oc9 kV9 dc9 pm9 ct9 cd9 : Value} (a9 : PySem.W.nsIn K mainGlobals "has_needs" = some (some (.ref fhas_needs))) (l9 : K.lookup fhas_needs = some ⟨oc9, od9, .func (PySem.W.fnOf "has_needs" "has_needs" (defArgs (topS 15)) (defBody (topS 15)) (defScope (topS 15)) .none kV9 dc9 pm9 an9 cd9 ct9), sl9⟩) (c9 : PySem.W.codeIn K cd9 "has_needs" = true) (k9 : PySem.W.keepIn K (.ref fhas_needs) = true) 
    {od10 an10 : Option Addr} {sl10 : Array (Option Value)} {oc10 kV10 dc10 pm10 ct10 cd10 : Value} (a10 : PySem.W.nsIn K mainGlobals "is_circle" = some (some (.ref fis_circle))) (l10 : K.lookup fis_circle = some ⟨oc10, od10, .func (PySem.W.fnOf "is_circle" "is_circle" (defArgs (topS 14)) (defBody (topS 14)) (defScope (topS 14)) .none kV10 dc10 pm10 an10 cd10 ct10), sl10⟩) (c10 : PySem.W.codeIn K cd10 "is_circle" = true) (k10 : PySem.W.keepIn K (.ref fis_circle) = true) 
    {od11 an11 : Option Addr} {sl11 : Array (Option Value)} {oc11 kV11 dc11 pm11 ct11 cd11 : Value} (a11 : PySem.W.nsIn K mainGlobals "sums_of" = some (some (.ref fsums_of))) (l11 : K.lookup fsums_of = some ⟨oc11, od11, .func (PySem.W.fnOf "sums_of" "sums_of" (defArgs (topS 16)) (defBody (topS 16)) (defScope (topS 16)) .none kV11 dc11 pm11 an11 cd11 ct11), sl11⟩) (c11 : PySem.W.codeIn K cd11 "sums_of" = true) (k11 : PySem.W.keepIn K (.ref fsums_of) = true) 
    {od12 an12 : Option Addr} {sl12 : Array (Option Value)} {oc12 kV12 dc12 pm12 ct12 cd12 : Value} (a12 : PySem.W.nsIn K mainGlobals "bars" = some (some (.ref fbars))) (l12 : K.lookup fbars = some ⟨oc12, od12, .func (PySem.W.fnOf "bars" "bars" (defArgs (topS 17)) (defBody (topS 17)) (defScope (topS 17)) .none kV12 dc12 pm12 an12 cd12 ct12), sl12⟩) (c12 : PySem.W.codeIn K cd12 "bars" = true) (k12 : PySem.W.keepIn K (.ref fbars) = true) 
    {od13 an13 : Option Addr} {sl13 : Array (Option Value)} {oc13 kV13 dc13 pm13 ct13 cd13 : Value} (a13 : PySem.W.nsIn K mainGlobals "pushed" = some (some (.ref fpushed))) (l13 : K.lookup fpushed = some ⟨oc13, od13, .func (PySem.W.fnOf "pushed" "pushed" (defArgs (topS 18)) (defBody (topS 18)) (defScope (topS 18)) .none kV13 dc13 pm13 an13 cd13 ct13), sl13⟩) (c13 : PySem.W.codeIn K cd13 "pushed" = true) (k13 : PySem.W.keepIn K (.ref fpushed) = true) 
    {od14 an14 : Option Addr} {sl14 : Array (Option Value)} {oc14 kV14 dc14 pm14 ct14 : Value} (a14 : PySem.W.nsIn K mainGlobals "times_of" = some (some (.ref ftimes_of))) (l14 : K.lookup ftimes_of = some ⟨oc14, od14, .func (PySem.W.fnOf "times_of" "times_of" (defArgs (topS 22)) (defBody (topS 22)) (defScope (topS 22)) .none kV14 dc14 pm14 an14 (.ref ctimes_of) ct14), sl14⟩) (c14 : PySem.W.codeIn K (.ref ctimes_of) "times_of" = true) (k14 : PySem.W.keepIn K (.ref ftimes_of) = true) 
    {od15 an15 : Option Addr} {sl15 : Array (Option Value)} {oc15 kV15 dc15 pm15 ct15 cd15 : Value} (a15 : PySem.W.nsIn K mainGlobals "back_from" = some (some (.ref fback_from))) (l15 : K.lookup fback_from = some ⟨oc15, od15, .func (PySem.W.fnOf "back_from" "back_from" (defArgs (topS 20)) (defBody (topS 20)) (defScope (topS 20)) .none kV15 dc15 pm15 an15 cd15 ct15), sl15⟩) (c15 : PySem.W.codeIn K cd15 "back_from" = true) (k15 : PySem.W.keepIn K (.ref fback_from) = true) 
    {od16 an16 : Option Addr} {sl16 : Array (Option Value)} {oc16 kV16 dc16 pm16 ct16 cd16 : Value} (a16 : PySem.W.nsIn K mainGlobals "circle_at" = some (some (.ref fcircle_at))) (l16 : K.lookup fcircle_at = some ⟨oc16, od16, .func (PySem.W.fnOf "circle_at" "circle_at" (defArgs (topS 21)) (defBody (topS 21)) (defScope (topS 21)) .none kV16 dc16 pm16 an16 cd16 ct16), sl16⟩) (c16 : PySem.W.codeIn K cd16 "circle_at" = true) (k16 : PySem.W.keepIn K (.ref fcircle_at) = true) 
    {od17 an17 : Option Addr} {sl17 : Array (Option Value)} {oc17 kV17 dc17 pm17 ct17 : Value} (a17 : PySem.W.nsIn K mainGlobals "circle_above" = some (some (.ref fcircle_above))) (l17 : K.lookup fcircle_above = some ⟨oc17, od17, .func (PySem.W.fnOf "circle_above" "circle_above" (defArgs (topS 19)) (defBody (topS 19)) (defScope (topS 19)) .none kV17 dc17 pm17 an17 (.ref ccircle_above) ct17), sl17⟩) (c17 : PySem.W.codeIn K (.ref ccircle_above) "circle_above" = true) (k17 : PySem.W.keepIn K (.ref fcircle_above) = true) 
    {od18 an18 : Option Addr} {sl18 : Array (Option Value)} {oc18 kV18 dc18 pm18 ct18 cd18 : Value} (a18 : PySem.W.nsIn K mainGlobals "a_circle" = some (some (.ref fa_circle))) (l18 : K.lookup fa_circle = some ⟨oc18, od18, .func (PySem.W.fnOf "a_circle" "a_circle" (defArgs (topS 23)) (defBody (topS 23)) (defScope (topS 23)) .none kV18 dc18 pm18 an18 cd18 ct18), sl18⟩) (c18 : PySem.W.codeIn K cd18 "a_circle" = true) (k18 : PySem.W.keepIn K (.ref fa_circle) = true) 
    {od19 an19 : Option Addr} {sl19 : Array (Option Value)} {oc19 kV19 dc19 pm19 ct19 cd19 : Value} (a19 : PySem.W.nsIn K mainGlobals "least_beat" = some (some (.ref fleast_beat))) (l19 : K.lookup fleast_beat = some ⟨oc19, od19, .func (PySem.W.fnOf "least_beat" "least_beat" (defArgs (topS 24)) (defBody (topS 24)) (defScope (topS 24)) .none kV19 dc19 pm19 an19 cd19 ct19), sl19⟩) (c19 : PySem.W.codeIn K cd19 "least_beat" = true) (k19 : PySem.W.keepIn K (.ref fleast_beat) = true) 
    {od20 an20 : Option Addr} {sl20 : Array (Option Value)} {oc20 kV20 dc20 pm20 ct20 cd20 : Value} (a20 : PySem.W.nsIn K mainGlobals "greatest_ratio" = some (some (.ref fgreatest_ratio))) (l20 : K.lookup fgreatest_ratio = some ⟨oc20, od20, .func (PySem.W.fnOf "greatest_ratio" "greatest_ratio" (defArgs (topS 25)) (defBody (topS 25)) (defScope (topS 25)) .none kV20 dc20 pm20 an20 cd20 ct20), sl20⟩) (c20 : PySem.W.codeIn K cd20 "greatest_ratio" = true) (k20 : PySem.W.keepIn K (.ref fgreatest_ratio) = true) 
    {od21 an21 : Option Addr} {sl21 : Array (Option Value)} {oc21 kV21 dc21 pm21 ct21 cd21 : Value} (a21 : PySem.W.nsIn K mainGlobals "_law_box" = some (some (.ref f_law_box))) (l21 : K.lookup f_law_box = some ⟨oc21, od21, .func (PySem.W.fnOf "_law_box" "_law_box" (defArgs (topS 27)) (defBody (topS 27)) (defScope (topS 27)) .none kV21 dc21 pm21 an21 cd21 ct21), sl21⟩) (c21 : PySem.W.codeIn K cd21 "_law_box" = true) (k21 : PySem.W.keepIn K (.ref f_law_box) = true) 
    {od22 an22 : Option Addr} {sl22 : Array (Option Value)} {oc22 kV22 dc22 pm22 ct22 cd22 : Value} (a22 : PySem.W.nsIn K mainGlobals "_law_cells" = some (some (.ref f_law_cells))) (l22 : K.lookup f_law_cells = some ⟨oc22, od22, .func (PySem.W.fnOf "_law_cells" "_law_cells" (defArgs (topS 29)) (defBody (topS 29)) (defScope (topS 29)) .none kV22 dc22 pm22 an22 cd22 ct22), sl22⟩) (c22 : PySem.W.codeIn K cd22 "_law_cells" = true) (k22 : PySem.W.keepIn K (.ref f_law_cells) = true) 
    {od23 an23 : Option Addr} {sl23 : Array (Option Value)} {oc23 kV23 dc23 pm23 ct23 cd23 : Value} (a23 : PySem.W.nsIn K mainGlobals "_law_take" = some (some (.ref f_law_take))) (l23 : K.lookup f_law_take = some ⟨oc23, od23, .func (PySem.W.fnOf "_law_take" "_law_take" (defArgs (topS 28)) (defBody (topS 28)) (defScope (topS 28)) .none kV23 dc23 pm23 an23 cd23 ct23), sl23⟩) (c23 : PySem.W.codeIn K cd23 "_law_take" = true) (k23 : PySem.W.keepIn K (.ref f_law_take) = true) 
    {od24 an24 : Option Addr} {sl24 : Array (Option Value)} {oc24 kV24 dc24 pm24 ct24 cd24 : Value} (a24 : PySem.W.nsIn K mainGlobals "_law_mixed" = some (some (.ref f_law_mixed))) (l24 : K.lookup f_law_mixed = some ⟨oc24, od24, .func (PySem.W.fnOf "_law_mixed" "_law_mixed" (defArgs (topS 30)) (defBody (topS 30)) (defScope (topS 30)) .none kV24 dc24 pm24 an24 cd24 ct24), sl24⟩) (c24 : PySem.W.codeIn K cd24 "_law_mixed" = true) (k24 : PySem.W.keepIn K (.ref f_law_mixed) = true) 
    {od25 an25 : Option Addr} {sl25 : Array (Option Value)} {oc25 kV25 dc25 pm25 ct25 cd25 : Value} (a25 : PySem.W.nsIn K mainGlobals "_law_same" = some (some (.ref f_law_same))) (l25 : K.lookup f_law_same = some ⟨oc25, od25, .func (PySem.W.fnOf "_law_same" "_law_same" (defArgs (topS 31)) (defBody (topS 31)) (defScope (topS 31)) .none kV25 dc25 pm25 an25 cd25 ct25), sl25⟩) (c25 : PySem.W.codeIn K cd25 "_law_same" = true) (k25 : PySem.W.keepIn K (.ref f_law_same) = true) 
    {od26 an26 : Option Addr} {sl26 : Array (Option Value)} {oc26 kV26 dc26 pm26 ct26 cd26 : Value} (a26 : PySem.W.nsIn K mainGlobals "_law_work" = some (some (.ref f_law_work))) (l26 : K.lookup f_law_work = some ⟨oc26, od26, .func (PySem.W.fnOf "_law_work" "_law_work" (defArgs (topS 32)) (defBody (topS 32)) (defScope (topS 32)) .none kV26 dc26 pm26 an26 cd26 ct26), sl26⟩) (c26 : PySem.W.codeIn K cd26 "_law_work" = true) (k26 : PySem.W.keepIn K (.ref f_law_work) = true) 
    {od27 an27 : Option Addr} {sl27 : Array (Option Value)} {oc27 kV27 dc27 pm27 ct27 cd27 : Value} (a27 : PySem.W.nsIn K mainGlobals "_law_rings" = some (some (.ref f_law_rings))) (l27 : K.lookup f_law_rings = some ⟨oc27, od27, .func (PySem.W.fnOf "_law_rings" "_law_rings" (defArgs (topS 33)) (defBody (topS 33)) (defScope (topS 33)) .none kV27 dc27 pm27 an27 cd27 ct27), sl27⟩) (c27 : PySem.W.codeIn K cd27 "_law_rings" = true) (k27 : PySem.W.keepIn K (.ref f_law_rings) = true) 
    {od28 an28 : Option Addr} {sl28 : Array (Option Value)} {oc28 kV28 dc28 pm28 ct28 cd28 : Value} (a28 : PySem.W.nsIn K mainGlobals "_law_sums" = some (some (.ref f_law_sums))) (l28 : K.lookup f_law_sums = some ⟨oc28, od28, .func (PySem.W.fnOf "_law_sums" "_law_sums" (defArgs (topS 34)) (defBody (topS 34)) (defScope (topS 34)) .none kV28 dc28 pm28 an28 cd28 ct28), sl28⟩) (c28 : PySem.W.codeIn K cd28 "_law_sums" = true) (k28 : PySem.W.keepIn K (.ref f_law_sums) = true) 
    {od29 an29 : Option Addr} {sl29 : Array (Option Value)} {oc29 kV29 dc29 pm29 ct29 cd29 : Value} (a29 : PySem.W.nsIn K mainGlobals "_law_heard" = some (some (.ref f_law_heard))) (l29 : K.lookup f_law_heard = some ⟨oc29, od29, .func (PySem.W.fnOf "_law_heard" "_law_heard" (defArgs (topS 35)) (defBody (topS 35)) (defScope (topS 35)) .none kV29 dc29 pm29 an29 cd29 ct29), sl29⟩) (c29 : PySem.W.codeIn K cd29 "_law_heard" = true) (k29 : PySem.W.keepIn K (.ref f_law_heard) = true) 
    {od30 an30 : Option Addr} {sl30 : Array (Option Value)} {oc30 kV30 dc30 pm30 ct30 cd30 : Value} (a30 : PySem.W.nsIn K mainGlobals "_law_low" = some (some (.ref f_law_low))) (l30 : K.lookup f_law_low = some ⟨oc30, od30, .func (PySem.W.fnOf "_law_low" "_law_low" (defArgs (topS 36)) (defBody (topS 36)) (defScope (topS 36)) .none kV30 dc30 pm30 an30 cd30 ct30), sl30⟩) (c30 : PySem.W.codeIn K cd30 "_law_low" = true) (k30 : PySem.W.keepIn K (.ref f_law_low) = true) 
    {od31 an31 : Option Addr} {sl31 : Array (Option Value)} {oc31 kV31 dc31 pm31 ct31 : Value} (a31 : PySem.W.nsIn K mainGlobals "law" = some (some (.ref flaw))) (l31 : K.lookup flaw = some ⟨oc31, od31, .func (PySem.W.fnOf "law" "law" (defArgs (topS 37)) (defBody (topS 37)) (defScope (topS 37)) .none kV31 dc31 pm31 an31 (.ref claw) ct31), sl31⟩) (c31 : PySem.W.codeIn K (.ref claw) "law" = true) (k31 : PySem.W.keepIn K (.ref flaw) = true) {odtimes_of : Option Addr} {sltimes_of : Array (Option Value)} {vstimes_of : Array Value} (lctimes_of : K.lookup ctimes_of = some ⟨.type "code", odtimes_of, .fields vstimes_of, sltimes_of⟩) (hvtimes_of : (vstimes_of[11]? : Option Value) = some (.ref Ptimes_of)) (hdtimes_of : codeChk vstimes_of ctimes_of Ptimes_of = true) (tltimes_of : K.lookup Ptimes_of = none) (httimes_of : h.get? Ptimes_of = some (PySem.W.tabObj #[])) {odcircle_above : Option Addr} {slcircle_above : Array (Option Value)} {vscircle_above : Array Value} (lccircle_above : K.lookup ccircle_above = some ⟨.type "code", odcircle_above, .fields vscircle_above, slcircle_above⟩) (hvcircle_above : (vscircle_above[11]? : Option Value) = some (.ref Pcircle_above)) (hdcircle_above : codeChk vscircle_above ccircle_above Pcircle_above = true) (tlcircle_above : K.lookup Pcircle_above = none) (htcircle_above : h.get? Pcircle_above = some (PySem.W.tabObj #[])) {odlaw : Option Addr} {sllaw : Array (Option Value)} {vslaw : Array Value} (lclaw : K.lookup claw = some ⟨.type "code", odlaw, .fields vslaw, sllaw⟩) (hvlaw : (vslaw[11]? : Option Value) = some (.ref Plaw)) (hdlaw : codeChk vslaw claw Plaw = true) (tllaw : K.lookup Plaw = none) (htlaw : h.get? Plaw = some (PySem.W.tabObj #[])) (hnecircle_abovetimes_of : Pcircle_above ≠ Ptimes_of) (hnelawtimes_of : Plaw ≠ Ptimes_of) (hnetimes_ofcircle_above : Ptimes_of ≠ Pcircle_above) (hnelawcircle_above : Plaw ≠ Pcircle_above) (hnetimes_oflaw : Ptimes_of ≠ Plaw) (hnecircle_abovelaw : Pcircle_above ≠ Plaw) {cUnfit : Addr} (gxUnfit : PySem.W.nsIn K mainGlobals "Unfit" = some (some (.ref cUnfit))) (qxUnfit : PySem.W.excIn K cUnfit [.type "ValueError", .type "Exception", .type "BaseException", .type "object"] "ValueError.__new__" = true) (kxUnfit : PySem.W.keepIn K (.ref cUnfit) = true) (bxUnfit : PySem.W.subIn K (.ref cUnfit) (.type "BaseException") = some true) (txUnfit : PySem.W.typeIn K (.ref cUnfit) = some (.type "type")) (ixUnfit : PySem.W.isClsIn K cUnfit = true) (sxUnfit : PySem.W.subIn K (.ref cUnfit) (.ref cUnfit) = some true) (ggcd : PySem.W.nsIn K mainGlobals "gcd" = some (some (.builtin "math.gcd"))) (zlen : PySem.W.nsIn K mainGlobals "len" = some none) (zsum : PySem.W.nsIn K mainGlobals "sum" = some none) (zmax : PySem.W.nsIn K mainGlobals "max" = some none) (zabs : PySem.W.nsIn K mainGlobals "abs" = some none) (zall : PySem.W.nsIn K mainGlobals "all" = some none) (zint : PySem.W.nsIn K mainGlobals "int" = some none) (ztuple : PySem.W.nsIn K mainGlobals "tuple" = some none) (zlist : PySem.W.nsIn K mainGlobals "list" = some none) (zisinstance : PySem.W.nsIn K mainGlobals "isinstance" = some none) (zrange : PySem.W.nsIn K mainGlobals "range" = some none) (zzip : PySem.W.nsIn K mainGlobals "zip" = some none) (zenumerate : PySem.W.nsIn K mainGlobals "enumerate" = some none) (zsorted : PySem.W.nsIn K mainGlobals "sorted" = some none) (zset : PySem.W.nsIn K mainGlobals "set" = some none) (zbool : PySem.W.nsIn K mainGlobals "bool" = some none) (zstr : PySem.W.nsIn K mainGlobals "str" = some none)
    (hmath : ∀ ns : List Int, ns.length ≤ 63 → (∀ z ∈ ns, Builtin.Int.intBits z ≤ 1048576) → mlaw [.dict [(.none, .list (ns.map .int))]] = .ok (.bool true)) :
    LamX.LawAtS l w K CX0 19 63 "script" mg fa h := by
  obtain ⟨dis_number, Fis_number, gis_number⟩ := (show FunAt K "is_number" (topS 3) fis_number from ⟨_, _, _, _, _, _, _, _, _, a0, l0, c0, k0⟩).get X G
  obtain ⟨dis_tuple_of, Fis_tuple_of, gis_tuple_of⟩ := (show FunAt K "is_tuple_of" (topS 6) fis_tuple_of from ⟨_, _, _, _, _, _, _, _, _, a1, l1, c1, k1⟩).get X G
  obtain ⟨dgap, Fgap, ggap⟩ := (show FunAt K "gap" (topS 12) fgap from ⟨_, _, _, _, _, _, _, _, _, a2, l2, c2, k2⟩).get X G
  obtain ⟨dis_times, Fis_times, gis_times⟩ := (show FunAt K "is_times" (topS 13) fis_times from ⟨_, _, _, _, _, _, _, _, _, a3, l3, c3, k3⟩).get X G
  obtain ⟨dset_of, Fset_of, gset_of⟩ := (show FunAt K "set_of" (topS 7) fset_of from ⟨_, _, _, _, _, _, _, _, _, a4, l4, c4, k4⟩).get X G
  obtain ⟨dis_from, Fis_from, gis_from⟩ := (show FunAt K "is_from" (topS 4) fis_from from ⟨_, _, _, _, _, _, _, _, _, a5, l5, c5, k5⟩).get X G
  obtain ⟨dis_below, Fis_below, gis_below⟩ := (show FunAt K "is_below" (topS 5) fis_below from ⟨_, _, _, _, _, _, _, _, _, a6, l6, c6, k6⟩).get X G
  obtain ⟨dis_need, Fis_need, gis_need⟩ := (show FunAt K "is_need" (topS 11) fis_need from ⟨_, _, _, _, _, _, _, _, _, a7, l7, c7, k7⟩).get X G
  obtain ⟨dtupled, Ftupled, gtupled⟩ := (show FunAt K "tupled" (topS 2) ftupled from ⟨_, _, _, _, _, _, _, _, _, a8, l8, c8, k8⟩).get X G
  obtain ⟨dhas_needs, Fhas_needs, ghas_needs⟩ := (show FunAt K "has_needs" (topS 15) fhas_needs from ⟨_, _, _, _, _, _, _, _, _, a9, l9, c9, k9⟩).get X G
  obtain ⟨dis_circle, Fis_circle, gis_circle⟩ := (show FunAt K "is_circle" (topS 14) fis_circle from ⟨_, _, _, _, _, _, _, _, _, a10, l10, c10, k10⟩).get X G
  obtain ⟨dsums_of, Fsums_of, gsums_of⟩ := (show FunAt K "sums_of" (topS 16) fsums_of from ⟨_, _, _, _, _, _, _, _, _, a11, l11, c11, k11⟩).get X G
  obtain ⟨dbars, Fbars, gbars⟩ := (show FunAt K "bars" (topS 17) fbars from ⟨_, _, _, _, _, _, _, _, _, a12, l12, c12, k12⟩).get X G
  obtain ⟨dpushed, Fpushed, gpushed⟩ := (show FunAt K "pushed" (topS 18) fpushed from ⟨_, _, _, _, _, _, _, _, _, a13, l13, c13, k13⟩).get X G
  obtain ⟨dtimes_of, Ftimes_of, gtimes_of⟩ := (show FunAtC K "times_of" (topS 22) ftimes_of ctimes_of from ⟨_, _, _, _, _, _, _, _, a14, l14, c14, k14⟩).get X G
  obtain ⟨dback_from, Fback_from, gback_from⟩ := (show FunAt K "back_from" (topS 20) fback_from from ⟨_, _, _, _, _, _, _, _, _, a15, l15, c15, k15⟩).get X G
  obtain ⟨dcircle_at, Fcircle_at, gcircle_at⟩ := (show FunAt K "circle_at" (topS 21) fcircle_at from ⟨_, _, _, _, _, _, _, _, _, a16, l16, c16, k16⟩).get X G
  obtain ⟨dcircle_above, Fcircle_above, gcircle_above⟩ := (show FunAtC K "circle_above" (topS 19) fcircle_above ccircle_above from ⟨_, _, _, _, _, _, _, _, a17, l17, c17, k17⟩).get X G
  obtain ⟨da_circle, Fa_circle, ga_circle⟩ := (show FunAt K "a_circle" (topS 23) fa_circle from ⟨_, _, _, _, _, _, _, _, _, a18, l18, c18, k18⟩).get X G
  obtain ⟨dleast_beat, Fleast_beat, gleast_beat⟩ := (show FunAt K "least_beat" (topS 24) fleast_beat from ⟨_, _, _, _, _, _, _, _, _, a19, l19, c19, k19⟩).get X G
  obtain ⟨dgreatest_ratio, Fgreatest_ratio, ggreatest_ratio⟩ := (show FunAt K "greatest_ratio" (topS 25) fgreatest_ratio from ⟨_, _, _, _, _, _, _, _, _, a20, l20, c20, k20⟩).get X G
  obtain ⟨d_law_box, F_law_box, g_law_box⟩ := (show FunAt K "_law_box" (topS 27) f_law_box from ⟨_, _, _, _, _, _, _, _, _, a21, l21, c21, k21⟩).get X G
  obtain ⟨d_law_cells, F_law_cells, g_law_cells⟩ := (show FunAt K "_law_cells" (topS 29) f_law_cells from ⟨_, _, _, _, _, _, _, _, _, a22, l22, c22, k22⟩).get X G
  obtain ⟨d_law_take, F_law_take, g_law_take⟩ := (show FunAt K "_law_take" (topS 28) f_law_take from ⟨_, _, _, _, _, _, _, _, _, a23, l23, c23, k23⟩).get X G
  obtain ⟨d_law_mixed, F_law_mixed, g_law_mixed⟩ := (show FunAt K "_law_mixed" (topS 30) f_law_mixed from ⟨_, _, _, _, _, _, _, _, _, a24, l24, c24, k24⟩).get X G
  obtain ⟨d_law_same, F_law_same, g_law_same⟩ := (show FunAt K "_law_same" (topS 31) f_law_same from ⟨_, _, _, _, _, _, _, _, _, a25, l25, c25, k25⟩).get X G
  obtain ⟨d_law_work, F_law_work, g_law_work⟩ := (show FunAt K "_law_work" (topS 32) f_law_work from ⟨_, _, _, _, _, _, _, _, _, a26, l26, c26, k26⟩).get X G
  obtain ⟨d_law_rings, F_law_rings, g_law_rings⟩ := (show FunAt K "_law_rings" (topS 33) f_law_rings from ⟨_, _, _, _, _, _, _, _, _, a27, l27, c27, k27⟩).get X G
  obtain ⟨d_law_sums, F_law_sums, g_law_sums⟩ := (show FunAt K "_law_sums" (topS 34) f_law_sums from ⟨_, _, _, _, _, _, _, _, _, a28, l28, c28, k28⟩).get X G
  obtain ⟨d_law_heard, F_law_heard, g_law_heard⟩ := (show FunAt K "_law_heard" (topS 35) f_law_heard from ⟨_, _, _, _, _, _, _, _, _, a29, l29, c29, k29⟩).get X G
  obtain ⟨d_law_low, F_law_low, g_law_low⟩ := (show FunAt K "_law_low" (topS 36) f_law_low from ⟨_, _, _, _, _, _, _, _, _, a30, l30, c30, k30⟩).get X G
  obtain ⟨dlaw, Flaw, glaw⟩ := (show FunAtC K "law" (topS 37) flaw claw from ⟨_, _, _, _, _, _, _, _, a31, l31, c31, k31⟩).get X G
  have bis_number := Fis_number.binds (ps := ["thing"]) fun _ _ _ _ _ _ us hl => match us, hl with | [_], _ => rfl
  have bis_tuple_of := Fis_tuple_of.binds (ps := ["thing", "many"]) fun _ _ _ _ _ _ us hl => match us, hl with | [_, _], _ => rfl
  have bgap := Fgap.binds (ps := ["beat", "times", "need"]) fun _ _ _ _ _ _ us hl => match us, hl with | [_, _, _], _ => rfl
  have bis_times := Fis_times.binds (ps := ["work", "beat", "thing"]) fun _ _ _ _ _ _ us hl => match us, hl with | [_, _, _], _ => rfl
  have bset_of := Fset_of.binds (ps := ["things"]) fun _ _ _ _ _ _ us hl => match us, hl with | [_], _ => rfl
  have bis_from := Fis_from.binds (ps := ["thing", "least"]) fun _ _ _ _ _ _ us hl => match us, hl with | [_, _], _ => rfl
  have bis_below := Fis_below.binds (ps := ["thing", "many"]) fun _ _ _ _ _ _ us hl => match us, hl with | [_, _], _ => rfl
  have bis_need := Fis_need.binds (ps := ["many", "thing"]) fun _ _ _ _ _ _ us hl => match us, hl with | [_, _], _ => rfl
  have btupled := Ftupled.binds (ps := ["thing"]) fun _ _ _ _ _ _ us hl => match us, hl with | [_], _ => rfl
  have bhas_needs := Fhas_needs.binds (ps := ["work", "some"]) fun _ _ _ _ _ _ us hl => match us, hl with | [_, _], _ => rfl
  have bis_circle := Fis_circle.binds (ps := ["work", "thing"]) fun _ _ _ _ _ _ us hl => match us, hl with | [_, _], _ => rfl
  have bsums_of := Fsums_of.binds (ps := ["needs"]) fun _ _ _ _ _ _ us hl => match us, hl with | [_], _ => rfl
  have bbars := Fbars.binds (ps := ["work", "beat", "thing"]) fun _ _ _ _ _ _ us hl => match us, hl with | [_, _, _], _ => rfl
  have bpushed := Fpushed.binds (ps := ["work", "weigh"]) fun _ _ _ _ _ _ us hl => match us, hl with | [_, _], _ => rfl
  have btimes_of := Ftimes_of.fun.binds (ps := ["work", "beat"]) fun _ _ _ _ _ _ us hl => match us, hl with | [_, _], _ => rfl
  have bback_from := Fback_from.binds (ps := ["last", "task", "many"]) fun _ _ _ _ _ _ us hl => match us, hl with | [_, _, _], _ => rfl
  have bcircle_at := Fcircle_at.binds (ps := ["last", "task"]) fun _ _ _ _ _ _ us hl => match us, hl with | [_, _], _ => rfl
  have bcircle_above := Fcircle_above.fun.binds (ps := ["work", "top", "bottom"]) fun _ _ _ _ _ _ us hl => match us, hl with | [_, _, _], _ => rfl
  have ba_circle := Fa_circle.binds (ps := ["work", "beat"]) fun _ _ _ _ _ _ us hl => match us, hl with | [_, _], _ => rfl
  have bleast_beat := Fleast_beat.binds (ps := ["work"]) fun _ _ _ _ _ _ us hl => match us, hl with | [_], _ => rfl
  have bgreatest_ratio := Fgreatest_ratio.binds (ps := ["work"]) fun _ _ _ _ _ _ us hl => match us, hl with | [_], _ => rfl
  have b_law_box := F_law_box.binds (ps := ["script", "k"]) fun _ _ _ _ _ _ us hl => match us, hl with | [_, _], _ => rfl
  have b_law_cells := F_law_cells.binds (ps := ["script", "many"]) fun _ _ _ _ _ _ us hl => match us, hl with | [_, _], _ => rfl
  have b_law_take := F_law_take.binds (ps := ["urn", "below"]) fun _ _ _ _ _ _ us hl => match us, hl with | [_, _], _ => rfl
  have b_law_mixed := F_law_mixed.binds (ps := ["urn", "matter"]) fun _ _ _ _ _ _ us hl => match us, hl with | [_, _], _ => rfl
  have b_law_same := F_law_same.binds (ps := ["got", "due"]) fun _ _ _ _ _ _ us hl => match us, hl with | [_, _], _ => rfl
  have b_law_work := F_law_work.binds (ps := ["urn", "most", "wide"]) fun _ _ _ _ _ _ us hl => match us, hl with | [_, _, _], _ => rfl
  have b_law_rings := F_law_rings.binds (ps := ["work"]) fun _ _ _ _ _ _ us hl => match us, hl with | [_], _ => rfl
  have b_law_sums := F_law_sums.binds (ps := ["needs"]) fun _ _ _ _ _ _ us hl => match us, hl with | [_], _ => rfl
  have b_law_heard := F_law_heard.binds (ps := ["call"]) fun _ _ _ _ _ _ us hl => match us, hl with | [_], _ => rfl
  have b_law_low := F_law_low.binds (ps := ["top", "bottom"]) fun _ _ _ _ _ _ us hl => match us, hl with | [_, _], _ => rfl
  have blaw := Flaw.fun.binds (ps := ["script"]) fun _ _ _ _ _ _ us hl => match us, hl with | [_], _ => rfl
  cases hfa.symm.trans glaw
  refine ⟨dlaw, [(ctimes_of, Ptimes_of), (ccircle_above, Pcircle_above), (claw, Plaw)], spF K [(Ptimes_of, (("times_of" : Str) ++ ".<locals>." ++ "<lambda>")), (Pcircle_above, (("circle_above" : Str) ++ ".<locals>." ++ "<lambda>")), (Plaw, (("law" : Str) ++ ".<locals>." ++ "<lambda>"))] 1 mlaw, ?_, ?_, ?_, fun s u => ?_, ?_, fun base hK hN hT => ?_⟩
  · intro p hp
    simp only [List.mem_cons, List.not_mem_nil, or_false] at hp
    rcases hp with rfl | rfl | rfl
    · exact httimes_of
    · exact htcircle_above
    · exact htlaw
  · intro p hp
    simp only [List.mem_cons, List.not_mem_nil, or_false] at hp
    rcases hp with rfl | rfl | rfl
    · exact tltimes_of
    · exact tlcircle_above
    · exact tllaw
  · intro p hp
    simp only [List.mem_cons, List.not_mem_nil, or_false] at hp
    rcases hp with rfl | rfl | rfl
    · exact PySem.W.codeHd_of_K X (hd_of lctimes_of hdtimes_of)
    · exact PySem.W.codeHd_of_K X (hd_of lccircle_above hdcircle_above)
    · exact PySem.W.codeHd_of_K X (hd_of lclaw hdlaw)
  · obtain ⟨oc, od, kV, doc, pm, an, cdv, ct, osl, rfl, lk, hcd⟩ := Flaw.fun.ex
    exact .of_eq rfl
  · intro H a ns hl hb hH hS
    refine law_sp (fun p hp => ?_) hS (hmath ns hl hb)
    simp only [List.mem_cons, List.not_mem_nil, or_false] at hp
    rcases hp with rfl | rfl | rfl
    · exact hH (ctimes_of, Ptimes_of) (by simp)
    · exact hH (ccircle_above, Pcircle_above) (by simp)
    · exact hH (claw, Plaw) (by simp)
  · have utabstimes_of : ∀ p ∈ ([(Ptimes_of, (("times_of" : Str) ++ ".<locals>." ++ "<lambda>")), (Pcircle_above, (("circle_above" : Str) ++ ".<locals>." ++ "<lambda>")), (Plaw, (("law" : Str) ++ ".<locals>." ++ "<lambda>"))] : List (Addr × Str)), p.1 = Ptimes_of → p.2 = (("times_of" : Str) ++ ".<locals>." ++ "<lambda>") := fun p hp e => by
      simp only [List.mem_cons, List.not_mem_nil, or_false] at hp
      rcases hp with rfl | rfl | rfl
      · rfl
      · exact absurd e hnecircle_abovetimes_of
      · exact absurd e hnelawtimes_of
    have utabscircle_above : ∀ p ∈ ([(Ptimes_of, (("times_of" : Str) ++ ".<locals>." ++ "<lambda>")), (Pcircle_above, (("circle_above" : Str) ++ ".<locals>." ++ "<lambda>")), (Plaw, (("law" : Str) ++ ".<locals>." ++ "<lambda>"))] : List (Addr × Str)), p.1 = Pcircle_above → p.2 = (("circle_above" : Str) ++ ".<locals>." ++ "<lambda>") := fun p hp e => by
      simp only [List.mem_cons, List.not_mem_nil, or_false] at hp
      rcases hp with rfl | rfl | rfl
      · exact absurd e hnetimes_ofcircle_above
      · rfl
      · exact absurd e hnelawcircle_above
    have utabslaw : ∀ p ∈ ([(Ptimes_of, (("times_of" : Str) ++ ".<locals>." ++ "<lambda>")), (Pcircle_above, (("circle_above" : Str) ++ ".<locals>." ++ "<lambda>")), (Plaw, (("law" : Str) ++ ".<locals>." ++ "<lambda>"))] : List (Addr × Str)), p.1 = Plaw → p.2 = (("law" : Str) ++ ".<locals>." ++ "<lambda>") := fun p hp e => by
      simp only [List.mem_cons, List.not_mem_nil, or_false] at hp
      rcases hp with rfl | rfl | rfl
      · exact absurd e hnetimes_oflaw
      · exact absurd e hnecircle_abovelaw
      · rfl
    exact oklaw (tabs := [(Ptimes_of, (("times_of" : Str) ++ ".<locals>." ++ "<lambda>")), (Pcircle_above, (("circle_above" : Str) ++ ".<locals>." ++ "<lambda>")), (Plaw, (("law" : Str) ++ ".<locals>." ++ "<lambda>"))]) { fis_number := fis_number, dis_number := dis_number, Fis_number := Fis_number, gis_number := gis_number, bis_number := bis_number, fis_tuple_of := fis_tuple_of, dis_tuple_of := dis_tuple_of, Fis_tuple_of := Fis_tuple_of, gis_tuple_of := gis_tuple_of, bis_tuple_of := bis_tuple_of, fgap := fgap, dgap := dgap, Fgap := Fgap, ggap := ggap, bgap := bgap, fis_times := fis_times, dis_times := dis_times, Fis_times := Fis_times, gis_times := gis_times, bis_times := bis_times, fset_of := fset_of, dset_of := dset_of, Fset_of := Fset_of, gset_of := gset_of, bset_of := bset_of, fis_from := fis_from, dis_from := dis_from, Fis_from := Fis_from, gis_from := gis_from, bis_from := bis_from, fis_below := fis_below, dis_below := dis_below, Fis_below := Fis_below, gis_below := gis_below, bis_below := bis_below, fis_need := fis_need, dis_need := dis_need, Fis_need := Fis_need, gis_need := gis_need, bis_need := bis_need, ftupled := ftupled, dtupled := dtupled, Ftupled := Ftupled, gtupled := gtupled, btupled := btupled, fhas_needs := fhas_needs, dhas_needs := dhas_needs, Fhas_needs := Fhas_needs, ghas_needs := ghas_needs, bhas_needs := bhas_needs, fis_circle := fis_circle, dis_circle := dis_circle, Fis_circle := Fis_circle, gis_circle := gis_circle, bis_circle := bis_circle, fsums_of := fsums_of, dsums_of := dsums_of, Fsums_of := Fsums_of, gsums_of := gsums_of, bsums_of := bsums_of, fbars := fbars, dbars := dbars, Fbars := Fbars, gbars := gbars, bbars := bbars, fpushed := fpushed, dpushed := dpushed, Fpushed := Fpushed, gpushed := gpushed, bpushed := bpushed, ftimes_of := ftimes_of, dtimes_of := dtimes_of, Ftimes_of := Ftimes_of.fun, gtimes_of := gtimes_of, btimes_of := btimes_of, ctimes_of := ctimes_of, Ptimes_of := Ptimes_of, Ctimes_of := Ftimes_of, ttimes_of := hT (ctimes_of, Ptimes_of) (by simp), mtimes_of := by simp, utimes_of := utabstimes_of, fback_from := fback_from, dback_from := dback_from, Fback_from := Fback_from, gback_from := gback_from, bback_from := bback_from, fcircle_at := fcircle_at, dcircle_at := dcircle_at, Fcircle_at := Fcircle_at, gcircle_at := gcircle_at, bcircle_at := bcircle_at, fcircle_above := fcircle_above, dcircle_above := dcircle_above, Fcircle_above := Fcircle_above.fun, gcircle_above := gcircle_above, bcircle_above := bcircle_above, ccircle_above := ccircle_above, Pcircle_above := Pcircle_above, Ccircle_above := Fcircle_above, tcircle_above := hT (ccircle_above, Pcircle_above) (by simp), mcircle_above := by simp, ucircle_above := utabscircle_above, fa_circle := fa_circle, da_circle := da_circle, Fa_circle := Fa_circle, ga_circle := ga_circle, ba_circle := ba_circle, fleast_beat := fleast_beat, dleast_beat := dleast_beat, Fleast_beat := Fleast_beat, gleast_beat := gleast_beat, bleast_beat := bleast_beat, fgreatest_ratio := fgreatest_ratio, dgreatest_ratio := dgreatest_ratio, Fgreatest_ratio := Fgreatest_ratio, ggreatest_ratio := ggreatest_ratio, bgreatest_ratio := bgreatest_ratio, f_law_box := f_law_box, d_law_box := d_law_box, F_law_box := F_law_box, g_law_box := g_law_box, b_law_box := b_law_box, f_law_cells := f_law_cells, d_law_cells := d_law_cells, F_law_cells := F_law_cells, g_law_cells := g_law_cells, b_law_cells := b_law_cells, f_law_take := f_law_take, d_law_take := d_law_take, F_law_take := F_law_take, g_law_take := g_law_take, b_law_take := b_law_take, f_law_mixed := f_law_mixed, d_law_mixed := d_law_mixed, F_law_mixed := F_law_mixed, g_law_mixed := g_law_mixed, b_law_mixed := b_law_mixed, f_law_same := f_law_same, d_law_same := d_law_same, F_law_same := F_law_same, g_law_same := g_law_same, b_law_same := b_law_same, f_law_work := f_law_work, d_law_work := d_law_work, F_law_work := F_law_work, g_law_work := g_law_work, b_law_work := b_law_work, f_law_rings := f_law_rings, d_law_rings := d_law_rings, F_law_rings := F_law_rings, g_law_rings := g_law_rings, b_law_rings := b_law_rings, f_law_sums := f_law_sums, d_law_sums := d_law_sums, F_law_sums := F_law_sums, g_law_sums := g_law_sums, b_law_sums := b_law_sums, f_law_heard := f_law_heard, d_law_heard := d_law_heard, F_law_heard := F_law_heard, g_law_heard := g_law_heard, b_law_heard := b_law_heard, f_law_low := f_law_low, d_law_low := d_law_low, F_law_low := F_law_low, g_law_low := g_law_low, b_law_low := b_law_low, flaw := fa, dlaw := dlaw, Flaw := Flaw.fun, glaw := glaw, blaw := blaw, claw := claw, Plaw := Plaw, Claw := Flaw, tlaw := hT (claw, Plaw) (by simp), mlaw := by simp, ulaw := utabslaw, zlen := PySem.W.mg_none_of X G zlen, zsum := PySem.W.mg_none_of X G zsum, zmax := PySem.W.mg_none_of X G zmax, zabs := PySem.W.mg_none_of X G zabs, zall := PySem.W.mg_none_of X G zall, zint := PySem.W.mg_none_of X G zint, ztuple := PySem.W.mg_none_of X G ztuple, zlist := PySem.W.mg_none_of X G zlist, zisinstance := PySem.W.mg_none_of X G zisinstance, zrange := PySem.W.mg_none_of X G zrange, zzip := PySem.W.mg_none_of X G zzip, zenumerate := PySem.W.mg_none_of X G zenumerate, zsorted := PySem.W.mg_none_of X G zsorted, zset := PySem.W.mg_none_of X G zset, zbool := PySem.W.mg_none_of X G zbool, zstr := PySem.W.mg_none_of X G zstr, cUnfit := cUnfit, xUnfit := ⟨PySem.W.mg_of X G gxUnfit, qxUnfit, kxUnfit, bxUnfit, txUnfit, exm_self bxUnfit ixUnfit txUnfit sxUnfit⟩, ggcd := PySem.W.mg_of X G ggcd }
end K64
open PySem PySem.W PyProof.Rows
set_option maxHeartbeats 0 in
theorem PySem.Challenge.cw_loopplaces_k64_main_the_least_beat_holds : PySem.Challenge.rw_loopplaces_k64_main_the_least_beat.Holds := by
  w_on; o_law; k_head; (case hw => w_witness2)
  k_fill
  refine LamX.walk_ofTs (l := PySem.Challenge.rw_loopplaces_k64_main_the_least_beat) (n := 63) (k := 19) (x := "script") (CX := fun _ => L2.CX0) rfl (by decide) rfl ⟨rfl, by decide, by decide⟩ (fun w h Y => PySem.W.km_in_of Y) ?F (fun _ _ _ _ _ h => h)
  case F =>
    intro w mg fa h Y KX G hmg
    have TT := PySem.W.km_tabs_of Y
    refine' K64.all_mk KX G hmg ?a0 ?l0 ?c0 ?k0 ?a1 ?l1 ?c1 ?k1 ?a2 ?l2 ?c2 ?k2 ?a3 ?l3 ?c3 ?k3 ?a4 ?l4 ?c4 ?k4 ?a5 ?l5 ?c5 ?k5 ?a6 ?l6 ?c6 ?k6 ?a7 ?l7 ?c7 ?k7 ?a8 ?l8 ?c8 ?k8 ?a9 ?l9 ?c9 ?k9 ?a10 ?l10 ?c10 ?k10 ?a11 ?l11 ?c11 ?k11 ?a12 ?l12 ?c12 ?k12 ?a13 ?l13 ?c13 ?k13 ?a14 ?l14 ?c14 ?k14 ?a15 ?l15 ?c15 ?k15 ?a16 ?l16 ?c16 ?k16 ?a17 ?l17 ?c17 ?k17 ?a18 ?l18 ?c18 ?k18 ?a19 ?l19 ?c19 ?k19 ?a20 ?l20 ?c20 ?k20 ?a21 ?l21 ?c21 ?k21 ?a22 ?l22 ?c22 ?k22 ?a23 ?l23 ?c23 ?k23 ?a24 ?l24 ?c24 ?k24 ?a25 ?l25 ?c25 ?k25 ?a26 ?l26 ?c26 ?k26 ?a27 ?l27 ?c27 ?k27 ?a28 ?l28 ?c28 ?k28 ?a29 ?l29 ?c29 ?k29 ?a30 ?l30 ?c30 ?k30 ?a31 ?l31 ?c31 ?k31 ?lctimes_of ?hvtimes_of ?hdtimes_of ?tltimes_of ?httimes_of ?lccircle_above ?hvcircle_above ?hdcircle_above ?tlcircle_above ?htcircle_above ?lclaw ?hvlaw ?hdlaw ?tllaw ?htlaw ?hnecircle_abovetimes_of ?hnelawtimes_of ?hnetimes_ofcircle_above ?hnelawcircle_above ?hnetimes_oflaw ?hnecircle_abovelaw ?gxUnfit ?qxUnfit ?kxUnfit ?bxUnfit ?txUnfit ?ixUnfit ?sxUnfit ?ggcd ?zlen ?zsum ?zmax ?zabs ?zall ?zint ?ztuple ?zlist ?zisinstance ?zrange ?zzip ?zenumerate ?zsorted ?zset ?zbool ?zstr ?hmath
    case hmath => exact fun ns hl _ => K64.math ns hl
    (case a0 => k_is); (case l0 => k_is); (case c0 => k_is); (case k0 => k_is)
    (case a1 => k_is); (case l1 => k_is); (case c1 => k_is); (case k1 => k_is)
    (case a2 => k_is); (case l2 => k_is); (case c2 => k_is); (case k2 => k_is)
    (case a3 => k_is); (case l3 => k_is); (case c3 => k_is); (case k3 => k_is)
    (case a4 => k_is); (case l4 => k_is); (case c4 => k_is); (case k4 => k_is)
    (case a5 => k_is); (case l5 => k_is); (case c5 => k_is); (case k5 => k_is)
    (case a6 => k_is); (case l6 => k_is); (case c6 => k_is); (case k6 => k_is)
    (case a7 => k_is); (case l7 => k_is); (case c7 => k_is); (case k7 => k_is)
    (case a8 => k_is); (case l8 => k_is); (case c8 => k_is); (case k8 => k_is)
    (case a9 => k_is); (case l9 => k_is); (case c9 => k_is); (case k9 => k_is)
    (case a10 => k_is); (case l10 => k_is); (case c10 => k_is); (case k10 => k_is)
    (case a11 => k_is); (case l11 => k_is); (case c11 => k_is); (case k11 => k_is)
    (case a12 => k_is); (case l12 => k_is); (case c12 => k_is); (case k12 => k_is)
    (case a13 => k_is); (case l13 => k_is); (case c13 => k_is); (case k13 => k_is)
    (case a14 => k_is); (case l14 => k_is); (case c14 => k_is); (case k14 => k_is)
    (case a15 => k_is); (case l15 => k_is); (case c15 => k_is); (case k15 => k_is)
    (case a16 => k_is); (case l16 => k_is); (case c16 => k_is); (case k16 => k_is)
    (case a17 => k_is); (case l17 => k_is); (case c17 => k_is); (case k17 => k_is)
    (case a18 => k_is); (case l18 => k_is); (case c18 => k_is); (case k18 => k_is)
    (case a19 => k_is); (case l19 => k_is); (case c19 => k_is); (case k19 => k_is)
    (case a20 => k_is); (case l20 => k_is); (case c20 => k_is); (case k20 => k_is)
    (case a21 => k_is); (case l21 => k_is); (case c21 => k_is); (case k21 => k_is)
    (case a22 => k_is); (case l22 => k_is); (case c22 => k_is); (case k22 => k_is)
    (case a23 => k_is); (case l23 => k_is); (case c23 => k_is); (case k23 => k_is)
    (case a24 => k_is); (case l24 => k_is); (case c24 => k_is); (case k24 => k_is)
    (case a25 => k_is); (case l25 => k_is); (case c25 => k_is); (case k25 => k_is)
    (case a26 => k_is); (case l26 => k_is); (case c26 => k_is); (case k26 => k_is)
    (case a27 => k_is); (case l27 => k_is); (case c27 => k_is); (case k27 => k_is)
    (case a28 => k_is); (case l28 => k_is); (case c28 => k_is); (case k28 => k_is)
    (case a29 => k_is); (case l29 => k_is); (case c29 => k_is); (case k29 => k_is)
    (case a30 => k_is); (case l30 => k_is); (case c30 => k_is); (case k30 => k_is)
    (case a31 => k_is); (case l31 => k_is); (case c31 => k_is); (case k31 => k_is)
    (case lctimes_of => k_is); (case hvtimes_of => exact rfl); (case hdtimes_of => rfl); (case tltimes_of => first | rfl | kernel_rfl); (case httimes_of => exact TT _ (by decide))
    (case lccircle_above => k_is); (case hvcircle_above => exact rfl); (case hdcircle_above => rfl); (case tlcircle_above => first | rfl | kernel_rfl); (case htcircle_above => exact TT _ (by decide))
    (case lclaw => k_is); (case hvlaw => exact rfl); (case hdlaw => rfl); (case tllaw => first | rfl | kernel_rfl); (case htlaw => exact TT _ (by decide))
    (case hnecircle_abovetimes_of => first | decide | exact Nat.ne_of_beq_eq_false rfl)
    (case hnelawtimes_of => first | decide | exact Nat.ne_of_beq_eq_false rfl)
    (case hnetimes_ofcircle_above => first | decide | exact Nat.ne_of_beq_eq_false rfl)
    (case hnelawcircle_above => first | decide | exact Nat.ne_of_beq_eq_false rfl)
    (case hnetimes_oflaw => first | decide | exact Nat.ne_of_beq_eq_false rfl)
    (case hnecircle_abovelaw => first | decide | exact Nat.ne_of_beq_eq_false rfl)
    (case gxUnfit => k_is)
    (case qxUnfit => k_exc)
    (case kxUnfit => k_is)
    (case bxUnfit => k_is)
    (case txUnfit => k_is)
    (case ixUnfit => k_is)
    (case sxUnfit => first | rfl | k_is)
    (case ggcd => k_is)
    (case zlen => k_is)
    (case zsum => k_is)
    (case zmax => k_is)
    (case zabs => k_is)
    (case zall => k_is)
    (case zint => k_is)
    (case ztuple => k_is)
    (case zlist => k_is)
    (case zisinstance => k_is)
    (case zrange => k_is)
    (case zzip => k_is)
    (case zenumerate => k_is)
    (case zsorted => k_is)
    (case zset => k_is)
    (case zbool => k_is)
    (case zstr => k_is)

