import PyProof.Rows.All
import Wide.All
import OpenK.AllK
import Wide.FinOn
import HandS.ForMost
import HandS.ForExc
import HandS.IsInst
import HandS.TupAny
import HandS.TupMul
import HandS.Wide
import HandS.WideMore
import HandS.Deep
import HandS.Zip
import HandS.EndBits
import HandS.ExcIs
import HandS.RaiseMore
import PySem.Challenge.RW_waysinstep_k63_whole_expressions_judged
set_option Elab.async false
set_option linter.all false
set_option maxRecDepth 100000
set_option maxHeartbeats 2000000
/-! Sm0: plain data over the hand layer: values as trees, a store of what may change, results; how they lie in the abstract heap. -/
namespace Sm
open PySem L2

/-- a value of the mirror: plain data; a thing of the store; the script -/
inductive W where
  | dat (d : PyData)
  | ref (i : Nat)
  | scr (ns : List Int)

/-- a thing of the store -/
inductive O where
  | dead
  | lst (xs : List PyData)

abbrev SS := List O
/-- where the store's things lie; what else is not to be met in plain data (a list that a comprehension is filling) -/
structure Io where
  tab : List (Option Addr)
  prot : List Addr
abbrev En := List (Option W)

inductive Res (α : Type) where
  | ok (a : α) (S : SS)
  | exc (c : Nat) (S : SS)
  | stuck

def Res.bind {α β : Type} (r : Res α) (f : α → SS → Res β) : Res β := match r with
  | .ok a S => f a S
  | .exc c S => .exc c S
  | .stuck => .stuck

def hot (ι : Io) (a : Addr) : Prop := ∃ i : Nat, ι.tab[i]? = some (some a)
def live (ι : Io) (a : Addr) : Prop := hot ι a ∨ a ∈ ι.prot

def keyD : Key → PyData
  | .inl i => .int i
  | .inr x => .str x

/-- a tuple that stays -/
def SqN (K : PySem.W.Frag) (ι : Io) (H : Hp) (a : Addr) (xs : List V) : Prop :=
  (Rd H a (.tup xs) ∧ ¬ live ι a) ∨
    ∃ (o : Obj) (its : Array Value) (n : Nat), K.lookup a = some o ∧ o.cls = .type "tuple" ∧ o.data = .seq its n ∧ its.size ≤ sizeLine ∧ Vals xs its.toList
/-- a list that stays (the script) -/
def SlN (K : PySem.W.Frag) (ι : Io) (H : Hp) (a : Addr) (xs : List V) : Prop :=
  (Rd H a (.lst xs) ∧ ¬ live ι a) ∨
    ∃ (o : Obj) (its : Array Value) (n : Nat), K.lookup a = some o ∧ o.cls = .type "list" ∧ o.dict = none ∧ o.data = .seq its n ∧ its.size ≤ sizeLine ∧ Vals xs its.toList
theorem SqN.sq {K : PySem.W.Frag} {ι : Io} {H : Hp} {a : Addr} {xs : List V} (h : SqN K ι H a xs) : SqT K H a xs := by
  rcases h with h | h
  · exact .inl h.1
  · exact .inr h
theorem SlN.sq {K : PySem.W.Frag} {ι : Io} {H : Hp} {a : Addr} {xs : List V} (h : SlN K ι H a xs) : SqL K H a xs := by
  rcases h with h | h
  · exact .inl h.1
  · exact .inr h

mutual
inductive Dv (K : PySem.W.Frag) (ι : Io) (H : Hp) : V → PyData → Prop
  | non : Dv K ι H .non .none
  | bl (b : Bool) : Dv K ι H (.bl b) (.bool b)
  | int (i : Int) : Dv K ι H (.int i) (.int i)
  | str (x : Str) : Dv K ι H (.str x) (.str x)
  | lst {a : Addr} {xs : List V} {ds : List PyData} : H a = some (.lst xs) → ¬ live ι a → Dl K ι H xs ds → Dv K ι H (.ref a) (.list ds)
  | tup {a : Addr} {xs : List V} {ds : List PyData} : SqN K ι H a xs → Dl K ι H xs ds → Dv K ι H (.ref a) (.tuple ds)
  | dic {a : Addr} {kvs : List (Key × V)} {es : List (PyData × PyData)} : H a = some (.dK kvs) → ¬ live ι a → Dk K ι H kvs es → Dv K ι H (.ref a) (.dict es)
inductive Dl (K : PySem.W.Frag) (ι : Io) (H : Hp) : List V → List PyData → Prop
  | nil : Dl K ι H [] []
  | cons {v : V} {vs : List V} {d : PyData} {ds : List PyData} : Dv K ι H v d → Dl K ι H vs ds → Dl K ι H (v :: vs) (d :: ds)
inductive Dk (K : PySem.W.Frag) (ι : Io) (H : Hp) : List (Key × V) → List (PyData × PyData) → Prop
  | nil : Dk K ι H [] []
  | cons {k : Key} {v : V} {vs : List (Key × V)} {d : PyData} {ds : List (PyData × PyData)} : Dv K ι H v d → Dk K ι H vs ds → Dk K ι H ((k, v) :: vs) ((keyD k, d) :: ds)
end

/-- how a value of the mirror lies -/
def Rw (K : PySem.W.Frag) (ι : Io) (H : Hp) : W → V → Prop
  | .dat d, v => Dv K ι H v d
  | .ref i, v => i < ι.tab.length ∧ ∀ a, ι.tab[i]? = some (some a) → v = .ref a
  | .scr ns, v => ∃ a, v = .ref a ∧ SlN K ι H a (ns.map V.int)

def Ro (K : PySem.W.Frag) (ι : Io) (H : Hp) : O → HO → Prop
  | .lst ds, .lst xs => Dl K ι H xs ds
  | _, _ => False

structure StOk (K : PySem.W.Frag) (ι : Io) (S : SS) (H : Hp) : Prop where
  len : ι.tab.length = S.length
  inj : ∀ (i j : Nat) (a : Addr), ι.tab[i]? = some (some a) → ι.tab[j]? = some (some a) → i = j
  ded : ∀ i : Nat, S[i]? = some .dead → ι.tab[i]? = some none
  obj : ∀ (i : Nat) (o : O), S[i]? = some o → o ≠ .dead → ∃ a ho, ι.tab[i]? = some (some a) ∧ H a = some ho ∧ Ro K ι H o ho
  pro : ∀ a ∈ ι.prot, H a ≠ none ∧ ¬ hot ι a

/-- what is wished of an exception that leaves; what more is known of the slots -/
structure Wi where
  x : WX
  p : L2.St → Prop
structure EnvR (K : PySem.W.Frag) (p : L2.St → Prop) (ι : Io) (H : Hp) (ρ : En) (σ : L2.St) : Prop where
  len : ρ.length = σ.length
  val : ∀ (i : Nat) (w : W), ρ[i]? = some (some w) → ∃ v, σ[i]? = some (some v) ∧ Rw K ι H w v
  more : p σ

/-- what plain data needs in order to stay -/
structure Mo (ι : Io) (H : Hp) (ι' : Io) (H' : Hp) : Prop where
  go : ∀ (a : Addr) (o : HO), H a = some o → ¬ live ι a → H' a = some o ∧ ¬ live ι' a
  len : ι.tab.length ≤ ι'.tab.length
  old : ∀ (i : Nat) (a : Addr), i < ι.tab.length → ι'.tab[i]? = some (some a) → ι.tab[i]? = some (some a)
structure Step (ι : Io) (H : Hp) (ι' : Io) (H' : Hp) : Prop where
  len : ι.tab.length ≤ ι'.tab.length
  old : ∀ (i : Nat) (a : Addr), ι'.tab[i]? = some (some a) → ι.tab[i]? = some (some a) ∨ (ι.tab.length ≤ i ∧ H a = none)
  keep : ∀ (a : Addr) (o : HO), H a = some o → ¬ hot ι a → H' a = some o
  none : ∀ a : Addr, H' a = none → H a = none
  pro : ι'.prot = ι.prot

theorem Step.refl (ι : Io) (H : Hp) : Step ι H ι H := ⟨Nat.le_refl _, fun _ _ h => .inl h, fun _ _ h _ => h, fun _ h => h, rfl⟩
theorem Step.cold {ι ι' : Io} {H H' : Hp} (s : Step ι H ι' H') {a : Addr} {o : HO} (h : H a = some o) (n : ¬ hot ι a) : ¬ hot ι' a := fun ⟨i, e⟩ => by
  rcases s.old i a e with q | ⟨_, q⟩
  · exact n ⟨i, q⟩
  · rw [h] at q
    cases q
theorem Step.trans {ι ι1 ι2 : Io} {H H1 H2 : Hp} (s : Step ι H ι1 H1) (t : Step ι1 H1 ι2 H2) : Step ι H ι2 H2 := by
  refine ⟨Nat.le_trans s.len t.len, fun i a e => ?_, fun a o h n => ?_, fun a h => s.none a (t.none a h), t.pro.trans s.pro⟩
  · rcases t.old i a e with q | ⟨l, q⟩
    · exact s.old i a q
    · exact .inr ⟨Nat.le_trans s.len l, s.none a q⟩
  · exact t.keep a o (s.keep a o h n) (s.cold h n)
theorem Step.mo {ι ι' : Io} {H H' : Hp} (s : Step ι H ι' H') : Mo ι H ι' H' := by
  refine ⟨fun a o h n => ⟨s.keep a o h fun z => n (.inl z), fun z => ?_⟩, s.len, fun i a hi e => ?_⟩
  · rcases z with z | z
    · exact s.cold h (fun z => n (.inl z)) z
    · rw [s.pro] at z
      exact n (.inr z)
  · rcases s.old i a e with q | ⟨l, _⟩
    · exact q
    · exact absurd hi (Nat.not_lt.mpr l)

section
variable {K : PySem.W.Frag} {ι ι' : Io} {H H' : Hp}
theorem SqN.mo {a : Addr} {xs : List V} (s : Mo ι H ι' H') (h : SqN K ι H a xs) : SqN K ι' H' a xs := by
  rcases h with ⟨h | ⟨o, h⟩, n⟩ | h
  · exact .inl ⟨.inl (s.go _ _ h n).1, (s.go _ _ h n).2⟩
  · exact .inl ⟨.inr ⟨o, (s.go _ _ h n).1⟩, (s.go _ _ h n).2⟩
  · exact .inr h
theorem SlN.mo {a : Addr} {xs : List V} (s : Mo ι H ι' H') (h : SlN K ι H a xs) : SlN K ι' H' a xs := by
  rcases h with ⟨h | ⟨o, h⟩, n⟩ | h
  · exact .inl ⟨.inl (s.go _ _ h n).1, (s.go _ _ h n).2⟩
  · exact .inl ⟨.inr ⟨o, (s.go _ _ h n).1⟩, (s.go _ _ h n).2⟩
  · exact .inr h
mutual
theorem Dv.mo (s : Mo ι H ι' H') : ∀ {d : PyData} {v : V}, Dv K ι H v d → Dv K ι' H' v d
  | _, _, .non => .non
  | _, _, .bl b => .bl b
  | _, _, .int i => .int i
  | _, _, .str x => .str x
  | _, _, .lst h n a => .lst (s.go _ _ h n).1 (s.go _ _ h n).2 (Dl.mo s a)
  | _, _, .tup h a => .tup (h.mo s) (Dl.mo s a)
  | _, _, .dic h n a => .dic (s.go _ _ h n).1 (s.go _ _ h n).2 (Dk.mo s a)
theorem Dl.mo (s : Mo ι H ι' H') : ∀ {ds : List PyData} {vs : List V}, Dl K ι H vs ds → Dl K ι' H' vs ds
  | _, _, .nil => .nil
  | _, _, .cons a b => .cons (Dv.mo s a) (Dl.mo s b)
theorem Dk.mo (s : Mo ι H ι' H') : ∀ {ds : List (PyData × PyData)} {vs : List (Key × V)}, Dk K ι H vs ds → Dk K ι' H' vs ds
  | _, _, .nil => .nil
  | _, _, .cons a b => .cons (Dv.mo s a) (Dk.mo s b)
end
theorem Rw.mo (s : Mo ι H ι' H') {w : W} {v : V} (h : Rw K ι H w v) : Rw K ι' H' w v := by
  cases w with
  | dat d => exact Dv.mo s h
  | ref i => exact ⟨Nat.lt_of_lt_of_le h.1 s.len, fun a e => h.2 a (s.old i a h.1 e)⟩
  | scr ns =>
    obtain ⟨a, e, q⟩ := h
    exact ⟨a, e, q.mo s⟩
theorem EnvR.mo {P : L2.St → Prop} (s : Mo ι H ι' H') {ρ : En} {σ : L2.St} (h : EnvR K P ι H ρ σ) : EnvR K P ι' H' ρ σ := ⟨h.len, fun i w e => by
  obtain ⟨v, a, b⟩ := h.val i w e
  exact ⟨v, a, b.mo s⟩, h.more⟩
theorem Ro.mo (s : Mo ι H ι' H') {o : O} {ho : HO} (h : Ro K ι H o ho) : Ro K ι' H' o ho := by
  cases o with
  | dead => cases h
  | lst ds => cases ho <;> first | exact Dl.mo s h | cases h
theorem Dv.mono (s : Step ι H ι' H') {d : PyData} {v : V} (h : Dv K ι H v d) : Dv K ι' H' v d := h.mo s.mo
theorem Dl.mono (s : Step ι H ι' H') {d : List PyData} {v : List V} (h : Dl K ι H v d) : Dl K ι' H' v d := h.mo s.mo
theorem Rw.mono (s : Step ι H ι' H') {w : W} {v : V} (h : Rw K ι H w v) : Rw K ι' H' w v := h.mo s.mo
theorem EnvR.mono {P : L2.St → Prop} (s : Step ι H ι' H') {ρ : En} {σ : L2.St} (h : EnvR K P ι H ρ σ) : EnvR K P ι' H' ρ σ := h.mo s.mo
theorem Ro.mono (s : Step ι H ι' H') {o : O} {ho : HO} (h : Ro K ι H o ho) : Ro K ι' H' o ho := h.mo s.mo
theorem Paired.monoW (s : Step ι H ι' H') : ∀ {ws : List W} {vs : List V}, Paired (Rw K ι H) ws vs → Paired (Rw K ι' H') ws vs
  | _, _, .nil => .nil
  | _, _, .cons a b => .cons (Rw.mono s a) (Paired.monoW s b)

/-! ### a new object -/
theorem hot_ne {S : SS} (st : StOk K ι S H) {p : Addr} (hp : H p = none) : ¬ hot ι p := fun ⟨i, e⟩ => by
  have hi : i < ι.tab.length := (List.getElem?_eq_some_iff.mp e).1
  have hs : i < S.length := by rw [← st.len]; exact hi
  have e2 : S[i]? = some S[i] := List.getElem?_eq_getElem hs
  by_cases hd : S[i] = .dead
  · rw [hd] at e2
    have := st.ded i e2
    rw [e] at this
    cases this
  · obtain ⟨a, ho, e3, e4, _⟩ := st.obj i _ e2 hd
    rw [e] at e3
    have z : p = a := Option.some.inj (Option.some.inj e3)
    rw [← z, hp] at e4
    cases e4
theorem live_ne {S : SS} (st : StOk K ι S H) {p : Addr} (hp : H p = none) : ¬ live ι p := fun z => by
  rcases z with z | z
  · exact hot_ne st hp z
  · exact (st.pro p z).1 hp
theorem step_new {p : Addr} (hp : H p = none) (o : HO) : Step ι H ι (upd H p o) := by
  refine ⟨Nat.le_refl _, fun _ _ h => .inl h, fun a u h _ => ?_, fun a h => ?_, rfl⟩
  · rw [upd_ne (ne_of_none h hp)]
    exact h
  · by_cases e : a = p
    · rw [e] at h ⊢
      rw [upd_same] at h
      cases h
    · rw [upd_ne e] at h
      exact h
/-- the store over a change that plain data does not see -/
theorem StOk.mo {S : SS} (st : StOk K ι S H) (s : Mo ι H ι H') (hh : ∀ a ho, hot ι a → H a = some ho → H' a = some ho) (hp : ∀ a ∈ ι.prot, H' a ≠ none) : StOk K ι S H' := by
  refine ⟨st.len, st.inj, st.ded, fun i u e n => ?_, fun a h => ⟨hp a h, (st.pro a h).2⟩⟩
  obtain ⟨a, ho, e1, e2, r⟩ := st.obj i u e n
  exact ⟨a, ho, e1, hh a ho ⟨i, e1⟩ e2, r.mo s⟩
theorem StOk.new {S : SS} (st : StOk K ι S H) {p : Addr} (hp : H p = none) (o : HO) : StOk K ι S (upd H p o) :=
  st.mo (step_new hp o).mo (fun a ho _ h => by rw [upd_ne (ne_of_none h hp)]; exact h) fun a h z => (st.pro a h).1 ((step_new (ι := ι) hp o).none a z)
theorem tab_last {l : List (Option Addr)} {p a : Addr} {i : Nat} (h1 : ¬ i < l.length) (e : (l ++ [some p])[i]? = some (some a)) : i = l.length ∧ p = a := by
  rw [List.getElem?_append_right (Nat.not_lt.mp h1)] at e
  have h0 : i - l.length = 0 := by
    have := (List.getElem?_eq_some_iff.mp e).1
    simp at this
    omega
  rw [h0] at e
  exact ⟨by omega, Option.some.inj (Option.some.inj e)⟩
abbrev Io.push (ι : Io) (p : Addr) : Io := ⟨ι.tab ++ [some p], ι.prot⟩
/-- a new list becomes a thing of the store -/
theorem push_mo {S : SS} (st : StOk K ι S H) {p : Addr} (hp : H p = none) (o : HO) : Mo ι H (ι.push p) (upd H p o) := by
  refine ⟨fun a u h n => ⟨by rw [upd_ne (ne_of_none h hp)]; exact h, fun z => ?_⟩, by simp [Io.push], fun i a hi e => ?_⟩
  · rcases z with ⟨i, e⟩ | z
    · by_cases h1 : i < ι.tab.length
      · have e' : ι.tab[i]? = some (some a) := by rw [← List.getElem?_append_left (l₂ := [some p]) h1]; exact e
        exact n (.inl ⟨i, e'⟩)
      · have := (tab_last h1 e).2
        rw [← this, hp] at h
        cases h
    · exact n (.inr z)
  · have e' : (ι.tab ++ [some p])[i]? = some (some a) := e
    rw [List.getElem?_append_left hi] at e'
    exact e'
theorem push_step {S : SS} (st : StOk K ι S H) {p : Addr} (hp : H p = none) (o : HO) : Step ι H (ι.push p) (upd H p o) := by
  refine ⟨by simp [Io.push], fun i a e => ?_, fun a u h _ => by rw [upd_ne (ne_of_none h hp)]; exact h, (step_new (ι := ι) hp o).none, rfl⟩
  by_cases h1 : i < ι.tab.length
  · have e' : (ι.tab ++ [some p])[i]? = some (some a) := e
    rw [List.getElem?_append_left h1] at e'
    exact .inl e'
  · obtain ⟨q1, q2⟩ := tab_last h1 e
    subst q2
    exact .inr ⟨Nat.not_lt.mp h1, hp⟩
theorem StOk.push {S : SS} (st : StOk K ι S H) {p : Addr} (hp : H p = none) {o : O} {ho : HO} (r : Ro K ι H o ho) (nd : o ≠ .dead) : StOk K (ι.push p) (S ++ [o]) (upd H p ho) := by
  have lv : ¬ hot ι p := hot_ne st hp
  refine ⟨by simp [Io.push, st.len], fun i j a e1 e2 => ?_, fun i e => ?_, fun i u e n => ?_, fun a h => ⟨fun z => (st.pro a h).1 ((step_new (ι := ι) hp ho).none a z), fun ⟨i, e⟩ => ?_⟩⟩
  · have e1 : (ι.tab ++ [some p])[i]? = some (some a) := e1
    have e2 : (ι.tab ++ [some p])[j]? = some (some a) := e2
    by_cases h1 : i < ι.tab.length
    · rw [List.getElem?_append_left h1] at e1
      by_cases h2 : j < ι.tab.length
      · rw [List.getElem?_append_left h2] at e2
        exact st.inj i j a e1 e2
      · have := (tab_last h2 e2).2
        exact absurd ⟨i, this ▸ e1⟩ lv
    · obtain ⟨q1, q2⟩ := tab_last h1 e1
      by_cases h2 : j < ι.tab.length
      · rw [List.getElem?_append_left h2] at e2
        exact absurd ⟨j, q2 ▸ e2⟩ lv
      · have := (tab_last h2 e2).1
        omega
  · show (ι.tab ++ [some p])[i]? = some none
    by_cases h1 : i < S.length
    · rw [List.getElem?_append_left h1] at e
      rw [List.getElem?_append_left (by rw [st.len]; exact h1)]
      exact st.ded i e
    · rw [List.getElem?_append_right (Nat.not_lt.mp h1)] at e
      have h0 : i - S.length = 0 := by
        have := (List.getElem?_eq_some_iff.mp e).1
        simp at this
        omega
      rw [h0] at e
      exact absurd (Option.some.inj e) nd
  · by_cases h1 : i < S.length
    · rw [List.getElem?_append_left h1] at e
      obtain ⟨a, u', e1, e2, r⟩ := st.obj i u e n
      refine ⟨a, u', ?_, by rw [upd_ne (ne_of_none e2 hp)]; exact e2, r.mo (push_mo st hp ho)⟩
      show (ι.tab ++ [some p])[i]? = _
      rw [List.getElem?_append_left (by rw [st.len]; exact h1)]
      exact e1
    · rw [List.getElem?_append_right (Nat.not_lt.mp h1)] at e
      have h0 : i - S.length = 0 := by
        have := (List.getElem?_eq_some_iff.mp e).1
        simp at this
        omega
      rw [h0] at e
      have eu : o = u := Option.some.inj e
      subst eu
      refine ⟨p, ho, ?_, upd_same, r.mo (push_mo st hp ho)⟩
      show (ι.tab ++ [some p])[i]? = _
      rw [List.getElem?_append_right (by rw [st.len]; exact Nat.not_lt.mp h1), st.len, h0]
      rfl
  · have e' : (ι.tab ++ [some p])[i]? = some (some a) := e
    by_cases h1 : i < ι.tab.length
    · rw [List.getElem?_append_left h1] at e'
      exact (st.pro a h).2 ⟨i, e'⟩
    · have := (tab_last h1 e').2
      subst this
      exact (st.pro p h).1 hp
/-- a thing of the store changes -/
theorem StOk.set {S : SS} (st : StOk K ι S H) {i : Nat} {p : Addr} {o : O} {ho : HO} (hi : ι.tab[i]? = some (some p)) (r : Ro K ι H o ho) (nd : o ≠ .dead) : Step ι H ι (upd H p ho) ∧ StOk K ι (S.set i o) (upd H p ho) := by
  have hp : hot ι p := ⟨i, hi⟩
  have hne : H p ≠ none := fun z => hot_ne st z hp
  have s : Step ι H ι (upd H p ho) := by
    refine ⟨Nat.le_refl _, fun _ _ h => .inl h, fun a u h n => ?_, fun a h => ?_, rfl⟩
    · rw [upd_ne (fun (z : a = p) => n (by rw [z]; exact hp))]
      exact h
    · by_cases e : a = p
      · rw [e, upd_same] at h
        cases h
      · rw [upd_ne e] at h
        exact h
  have hl : i < S.length := by rw [← st.len]; exact (List.getElem?_eq_some_iff.mp hi).1
  refine ⟨s, ⟨by rw [List.length_set]; exact st.len, st.inj, fun j e => ?_, fun j u e n => ?_, fun a h => ⟨fun z => (st.pro a h).1 (s.none a z), (st.pro a h).2⟩⟩⟩
  · by_cases hj : i = j
    · subst hj
      rw [List.getElem?_set_self hl] at e
      exact absurd (Option.some.inj e) nd
    · rw [List.getElem?_set_ne hj] at e
      exact st.ded j e
  · by_cases hj : i = j
    · subst hj
      rw [List.getElem?_set_self hl] at e
      have eu := Option.some.inj e
      subst eu
      exact ⟨p, ho, hi, upd_same, r.mono s⟩
    · rw [List.getElem?_set_ne hj] at e
      obtain ⟨a, u', e1, e2, r2⟩ := st.obj j u e n
      refine ⟨a, u', e1, ?_, r2.mono s⟩
      rw [upd_ne (fun (z : a = p) => hj (st.inj i j a (by rw [z]; exact hi) e1))]
      exact e2
/-- a thing of the store becomes plain data -/
abbrev Io.kill (ι : Io) (i : Nat) : Io := ⟨ι.tab.set i none, ι.prot⟩
theorem kill_step (i : Nat) : Step ι H (ι.kill i) H := by
  refine ⟨by simp [Io.kill], fun j a e => ?_, fun a o h _ => h, fun _ h => h, rfl⟩
  have e' : (ι.tab.set i none)[j]? = some (some a) := e
  by_cases hj : i = j
  · subst hj
    by_cases hl : i < ι.tab.length
    · rw [List.getElem?_set_self hl] at e'
      cases e'
    · rw [List.getElem?_set, if_pos rfl, if_neg hl] at e'
      cases e'
  · rw [List.getElem?_set_ne hj] at e'
    exact .inl e'
theorem StOk.kill {S : SS} (st : StOk K ι S H) (i : Nat) (hl : i < S.length) : StOk K (ι.kill i) (S.set i .dead) H := by
  have h1 : i < ι.tab.length := by rw [st.len]; exact hl
  have old : ∀ (j : Nat) (a : Addr), (ι.tab.set i none)[j]? = some (some a) → i ≠ j ∧ ι.tab[j]? = some (some a) := fun j a e => by
    by_cases hj : i = j
    · subst hj
      rw [List.getElem?_set_self h1] at e
      cases e
    · rw [List.getElem?_set_ne hj] at e
      exact ⟨hj, e⟩
  refine ⟨by simp [Io.kill, st.len], fun j k a e1 e2 => st.inj j k a (old j a e1).2 (old k a e2).2, fun j e => ?_, fun j u e n => ?_, fun a h => ⟨(st.pro a h).1, fun ⟨j, e⟩ => (st.pro a h).2 ⟨j, (old j a e).2⟩⟩⟩
  · show (ι.tab.set i none)[j]? = some none
    by_cases hj : i = j
    · subst hj
      exact List.getElem?_set_self h1
    · rw [List.getElem?_set_ne hj] at e ⊢
      exact st.ded j e
  · by_cases hj : i = j
    · subst hj
      rw [List.getElem?_set_self hl] at e
      exact absurd (Option.some.inj e).symm n
    · rw [List.getElem?_set_ne hj] at e
      obtain ⟨a, u', e1, e2, r2⟩ := st.obj j u e n
      refine ⟨a, u', ?_, e2, r2.mono (kill_step i)⟩
      show (ι.tab.set i none)[j]? = _
      rw [List.getElem?_set_ne hj]
      exact e1
theorem kill_cold {S : SS} (st : StOk K ι S H) {i : Nat} {p : Addr} (hi : ι.tab[i]? = some (some p)) : ¬ live (ι.kill i) p := fun z => by
  rcases z with ⟨j, e⟩ | z
  · have e' : (ι.tab.set i none)[j]? = some (some p) := e
    by_cases hj : i = j
    · subst hj
      rw [List.getElem?_set_self (List.getElem?_eq_some_iff.mp hi).1] at e'
      cases e'
    · rw [List.getElem?_set_ne hj] at e'
      exact hj (st.inj i j p hi e')
  · exact (st.pro p z).2 ⟨i, hi⟩
end

/-! ### what a result promises -/
section
variable (K : PySem.W.Frag) (cl : Nat → Addr)
def Gd {α β : Type} (ι : Io) (H : Hp) (R : Io → Hp → α → β → Prop) (r : Res α) (Q : β → Hp → Prop) (E : XK) : Prop := match r with
  | .ok a S' => ∀ ι' H' b, Step ι H ι' H' → StOk K ι' S' H' → R ι' H' a b → Q b H'
  | .exc c S' => ∀ ι' H', Step ι H ι' H' → StOk K ι' S' H' → E (.ref (cl c)) none H'
  | .stuck => False
end
section
variable {K : PySem.W.Frag} {cl : Nat → Addr} {ι ι' : Io} {H H' : Hp} {α β γ δ : Type} {R : Io → Hp → α → β → Prop} {R' : Io → Hp → γ → δ → Prop} {E : XK}
theorem Gd.later {r : Res α} {Q : β → Hp → Prop} (s : Step ι H ι' H') (h : Gd K cl ι H R r Q E) : Gd K cl ι' H' R r Q E := by
  cases r with
  | ok a S => exact fun ι1 H1 b t st q => h ι1 H1 b (s.trans t) st q
  | exc c S => exact fun ι1 H1 t st => h ι1 H1 (s.trans t) st
  | stuck => exact h
theorem Gd.imp {r : Res α} {Q Q' : β → Hp → Prop} (h : Gd K cl ι H R r Q E) (f : ∀ b H', Q b H' → Q' b H') : Gd K cl ι H R r Q' E := by
  cases r with
  | ok a S => exact fun ι1 H1 b t st q => f _ _ (h ι1 H1 b t st q)
  | exc c S => exact h
  | stuck => exact h
theorem Gd.bind {r : Res α} {f : α → SS → Res γ} {Q : δ → Hp → Prop} (h : Gd K cl ι H R' (r.bind f) Q E) :
    Gd K cl ι H R r (fun b H' => ∃ ι' S' a, Step ι H ι' H' ∧ StOk K ι' S' H' ∧ R ι' H' a b ∧ Gd K cl ι' H' R' (f a S') Q E) E := by
  cases r with
  | ok a S => exact fun ι1 H1 b t st q => ⟨ι1, S, a, t, st, q, h.later t⟩
  | exc c S => exact h
  | stuck => exact h
theorem Gd.val {a : α} {b : β} {S : SS} {Q : β → Hp → Prop} (h : Gd K cl ι H R (.ok a S) Q E) (st : StOk K ι S H) (r : R ι H a b) : Q b H := h ι H b (Step.refl _ _) st r
end

/-! ### the readings of a mirror -/
abbrev ME := En → SS → Res W
abbrev MT := En → SS → Res Bool
abbrev MA := En → SS → Res (List W)
abbrev ML := En → SS → Res (List PyData)

inductive Fl where
  | nx (ρ : En) (S : SS)
  | ret (w : W) (S : SS)
  | brk (ρ : En) (S : SS)
  | ct (ρ : En) (S : SS)
  | exc (c : Nat) (ρ : En) (S : SS)
  | stuck
abbrev MS := En → SS → Fl

section
variable (K : PySem.W.Frag) (cl : Nat → Addr) (Wx : Wi)
/-- the exit of an exception, at the slots as they stand -/
def exA (σ : L2.St) : XK := fun c d H => Wx.x c d σ H
def bE (m : ME) : TE := fun σ H Q => ∃ ι S ρ, StOk K ι S H ∧ EnvR K Wx.p ι H ρ σ ∧ Gd K cl ι H (Rw K) (m ρ S) Q (exA Wx σ)
/-- a list that is new: laid last of all -/
def GL (ι : Io) (H : Hp) (r : Res (List PyData)) (Q : VK) (E : XK) : Prop := match r with
  | .ok ds S' => ∀ ι' H' p xs, Step ι H ι' H' → StOk K ι' S' H' → H' p = none → Dl K ι' H' xs ds → Q (.ref p) (upd H' p (.lst xs))
  | .exc c S' => ∀ ι' H', Step ι H ι' H' → StOk K ι' S' H' → E (.ref (cl c)) none H'
  | .stuck => False
def bL (m : ML) : TE := fun σ H Q => ∃ ι S ρ, StOk K ι S H ∧ EnvR K Wx.p ι H ρ σ ∧ GL K cl ι H (m ρ S) Q (exA Wx σ)
def bT (m : MT) : TT := fun σ H Q => ∃ ι S ρ, StOk K ι S H ∧ EnvR K Wx.p ι H ρ σ ∧ Gd K cl ι H (fun _ _ a b => a = b) (m ρ S) Q (exA Wx σ)
def bA (m : MA) : TA := fun σ H Q => ∃ ι S ρ, StOk K ι S H ∧ EnvR K Wx.p ι H ρ σ ∧ Gd K cl ι H (fun ι H => Paired (Rw K ι H)) (m ρ S) Q (exA Wx σ)
def Gf (ι : Io) (H : Hp) (σ : L2.St) (f : Fl) (D : Ends) : Prop := match f with
  | .nx ρ S => ∀ ι' H' σ', Step ι H ι' H' → StOk K ι' S H' → EnvR K Wx.p ι' H' ρ σ' → D.nx σ' H'
  | .ret w S => ∀ ι' H' v, Step ι H ι' H' → StOk K ι' S H' → Rw K ι' H' w v → D.rt v H'
  | .brk ρ S => ∀ ι' H' σ', Step ι H ι' H' → StOk K ι' S H' → EnvR K Wx.p ι' H' ρ σ' → D.bk σ' H'
  | .ct ρ S => ∀ ι' H' σ', Step ι H ι' H' → StOk K ι' S H' → EnvR K Wx.p ι' H' ρ σ' → D.ct σ' H'
  | .exc c ρ S => ∀ ι' H' σ', Step ι H ι' H' → StOk K ι' S H' → EnvR K Wx.p ι' H' ρ σ' → Wx.x (.ref (cl c)) none σ' H'
  | .stuck => False
def bS (m : MS) : TS := fun D σ H => ∃ ι S ρ, StOk K ι S H ∧ EnvR K Wx.p ι H ρ σ ∧ Gf K cl Wx ι H σ (m ρ S) D
end

/-! ### weakening of a reading -/
section
variable {X : Cx}
theorem pe_to {e : Expr} {t t' : TE} (h : PE X e t) (f : ∀ σ H Q, t' σ H Q → t σ H Q) : PE X e t' := ⟨fun pins s σ H Q I q => h.run pins s σ H Q I (f _ _ _ q)⟩
theorem pt_to {e : Expr} {t t' : TT} (h : PT X e t) (f : ∀ σ H Q, t' σ H Q → t σ H Q) : PT X e t' := ⟨fun pins s σ H Q I q => h.run pins s σ H Q I (f _ _ _ q)⟩
theorem pa_to {es : List Expr} {t t' : TA} (h : PA X es t) (f : ∀ σ H Q, t' σ H Q → t σ H Q) : PA X es t' := ⟨fun pos pins s σ H Q I q => h.run pos pins s σ H Q I (f _ _ _ q)⟩
theorem ps_to {st : Stmt} {t t' : TS} (h : PS X st t) (f : ∀ D σ H, t' D σ H → t D σ H) : PS X st t' := ⟨fun pins s σ H D I q => h.run pins s σ H D I (f _ _ _ q)⟩
theorem pss_to {st : List Stmt} {t t' : TS} (h : PSs X st t) (f : ∀ D σ H, t' D σ H → t D σ H) : PSs X st t' := ⟨fun pins s σ H D I q => h.run pins s σ H D I (f _ _ _ q)⟩
end
end Sm

set_option Elab.async false
set_option linter.all false
set_option maxRecDepth 100000
set_option maxHeartbeats 2000000
/-! Sm1: a rule for each construct: the text has the reading of its mirror. -/
namespace Sm
open PySem L2

/-! ### plain functions of data -/
def tyD : PyData → String
  | .none => "NoneType"
  | .bool _ => "bool"
  | .int _ => "int"
  | .str _ => "str"
  | .list _ => "list"
  | .tuple _ => "tuple"
  | .dict _ => "dict"
/-- isinstance, by a built-in class -/
def isD (T : String) : PyData → Option Bool := fun d => kitB (tyD d) T
def addD : PyData → PyData → Option PyData
  | .int i, .int j => some (.int (i + j))
  | .str x, .str y => if x.length + y.length ≤ sizeLine then some (.str (x ++ y)) else none
  | .tuple xs, .tuple ys => if xs.length + ys.length ≤ sizeLine then some (.tuple (xs ++ ys)) else none
  | .list xs, .list ys => if xs.length + ys.length ≤ sizeLine then some (.list (xs ++ ys)) else none
  | _, _ => none
def subD : PyData → PyData → Option PyData
  | .int i, .int j => some (.int (i - j))
  | _, _ => none
instance (i j : Int) : Decidable (CMul i j) := by unfold CMul; exact inferInstance
instance (i j : Int) : Decidable (CPow i j) := by unfold CPow; exact inferInstance
instance (i j : Int) : Decidable (CDivW i j) := by unfold CDivW; exact inferInstance
def mulD : PyData → PyData → Option PyData
  | .int i, .int j => if CMul i j then some (.int (i * j)) else none
  | .tuple xs, .int k => if xs ≠ [] ∧ 2 ≤ k ∧ k ≤ 1000 ∧ xs.length ≤ 1000 then some (.tuple (List.replicate k.toNat xs).flatten) else none
  | _, _ => none
def fdivD : PyData → PyData → Option PyData
  | .int i, .int j => if CDivW i j then some (.int (i / j)) else none
  | _, _ => none
def modD : PyData → PyData → Option PyData
  | .int i, .int j => if 0 < j then some (.int (i % j)) else none
  | _, _ => none
def powD : PyData → PyData → Option PyData
  | .int i, .int j => if CPow i j then some (.int (i ^ j.toNat)) else none
  | _, _ => none
def negD : PyData → Option PyData
  | .int i => some (.int (-i))
  | _ => none
def flatD : PyData → Bool
  | .none => true
  | .bool _ => true
  | .int _ => true
  | .str _ => true
  | _ => false
/-- scalars that == may compare by themselves -/
def scalD : PyData → PyData → Bool
  | .none, .none => true | .none, .int _ => true | .int _, .none => true | .none, .bool _ => true | .bool _, .none => true | .none, .str _ => true | .str _, .none => true
  | .int _, .int _ => true | .bool _, .bool _ => true | .str _, .str _ => true
  | .int _, .str _ => true | .str _, .int _ => true | .bool _, .str _ => true | .str _, .bool _ => true
  | _, _ => false
def eqD (d e : PyData) : Option Bool := if scalD d e then some (PyData.eqv d e) else if SeqAt.shaped d && SeqAt.shaped e then some (PyData.eqv d e) else none
def ltD : PyData → PyData → Option Bool
  | .int i, .int j => some (decide (i < j))
  | .str x, .str y => some (decide (x.cps.toList < y.cps.toList))
  | _, _ => none
def leD : PyData → PyData → Option Bool
  | .int i, .int j => some (decide (i ≤ j))
  | _, _ => none
def itemsD : PyData → Option (List PyData)
  | .list xs => some xs
  | .tuple xs => some xs
  | _ => none
/-- x in y -/
def inD (x y : PyData) : Option Bool := match x, y with
  | .str a, .str z => if a.length = 1 then some (decide (a.cps.toList.headD 0 ∈ z.cps.toList)) else none
  | x, .list ys => if flatD x && ys.all flatD then some (ys.any fun y => PyData.eqv y x) else none
  | x, .tuple ys => if flatD x && ys.all flatD then some (ys.any fun y => PyData.eqv y x) else none
  | _, _ => none
def lenD : PyData → Option Int
  | .str x => if x.length ≤ sizeLine then some x.length else none
  | .list xs => some xs.length
  | .tuple xs => some xs.length
  | _ => none
def ixD : PyData → PyData → Option PyData
  | .list xs, .int i => atI xs i
  | .tuple xs, .int i => atI xs i
  | .str x, .int i => if x.length ≤ sizeLine then (atI x.cps.toList i).map fun c => .str ⟨#[c]⟩ else none
  | _, _ => none
def cutD {α : Type} (xs : List α) (lo hi : Option Int) : List α := (xs.drop (HT.sIx xs.length 0 lo)).take (HT.sIx xs.length xs.length hi - HT.sIx xs.length 0 lo)
def slD : PyData → Option Int → Option Int → Option PyData
  | .list xs, lo, hi => some (.list (cutD xs lo hi))
  | .tuple xs, lo, hi => some (.tuple (cutD xs lo hi))
  | .str x, lo, hi => if x.length ≤ sizeLine then some (.str (cutS x lo hi)) else none
  | _, _, _ => none

/-! ### mirrors -/
def ofO {α β : Type} (o : Option α) (f : α → β) (S : SS) : Res β := match o with
  | some a => .ok (f a) S
  | none => .stuck
def mVar (i : Nat) : ME := fun ρ S => match ρ[i]? with
  | some (some w) => .ok w S
  | _ => .stuck
def mC (d : PyData) : ME := fun _ S => .ok (.dat d) S
abbrev F2 := W → W → SS → Res W
def mOp2 (f : F2) (a b : ME) : ME := fun ρ S => (a ρ S).bind fun x S => (b ρ S).bind fun y S => f x y S
def dat2 (f : PyData → PyData → Option PyData) : F2 := fun x y S => match x, y with
  | .dat d, .dat e => ofO (f d e) .dat S
  | _, _ => .stuck
def tst2 (f : PyData → PyData → Option Bool) : F2 := fun x y S => match x, y with
  | .dat d, .dat e => ofO (f d e) (fun b => .dat (.bool b)) S
  | _, _ => .stuck
def not2 (f : F2) : F2 := fun x y S => (f x y S).bind fun z S => match z with
  | .dat (.bool b) => .ok (.dat (.bool (!b))) S
  | _ => .stuck
/-- the data of a value, lists of the store among them -/
def getW (S : SS) : W → Option PyData
  | .dat d => some d
  | .ref i => match S[i]? with
    | some (.lst xs) => some (.list xs)
    | _ => none
  | .scr _ => none
def rd2 (f : PyData → PyData → Option PyData) : F2 := fun x y S => match getW S x, getW S y with
  | some d, some e => ofO (f d e) .dat S
  | _, _ => .stuck
def rdt2 (f : PyData → PyData → Option Bool) : F2 := fun x y S => match getW S x, getW S y with
  | some d, some e => ofO (f d e) (fun b => .dat (.bool b)) S
  | _, _ => .stuck

def So2 (K : PySem.W.Frag) (cl : Nat → Addr) (r : R2) (f : F2) : Prop := ∀ (ι : Io) (S : SS) (H : Hp) (wx wy : W) (x y : V) (Q : VK) (E : XK),
  StOk K ι S H → Rw K ι H wx x → Rw K ι H wy y → Gd K cl ι H (Rw K) (f wx wy S) Q E → r x y H Q

section
variable {X : Cx} {cl : Nat → Addr} {Wx : Wi} {e a b c : Expr} {es : List Expr} {ma mb mc m : ME} {pos p : Pos} {f g : F2} {r r' : R2}

theorem b_var (i : Nat) {x : Str} (h : PE X (.Name x pos) (tVar i)) : PE X (.Name x pos) (bE X.K cl Wx (mVar i)) := pe_to h fun σ H Q ⟨ι, S, ρ, st, en, g⟩ => by
  unfold mVar at g
  split at g
  · rename_i w e
    obtain ⟨v, ev, r⟩ := en.val i w e
    exact ⟨v, ev, g.val st r⟩
  · exact g.elim
theorem b_c {d : PyData} {v : V} (h : PE X e (tC v)) (hd : ∀ ι H, Dv X.K ι H v d) : PE X e (bE X.K cl Wx (mC d)) := pe_to h fun σ H Q ⟨ι, S, ρ, st, en, g⟩ => g.val st (hd ι H)
theorem b_int {i : Int} {j} : PE X (.Constant (.int i) j pos) (bE X.K cl Wx (mC (.int i))) := b_c pe_int fun _ _ => .int _
theorem b_bl {b : Bool} {j} : PE X (.Constant (.bool b) j pos) (bE X.K cl Wx (mC (.bool b))) := b_c pe_bl fun _ _ => .bl _
theorem b_non {j} : PE X (.Constant .none j pos) (bE X.K cl Wx (mC .none)) := b_c pe_non fun _ _ => .non
theorem b_str {x : Str} {j} : PE X (.Constant (.str x) j pos) (bE X.K cl Wx (mC (.str x))) := b_c pe_str fun _ _ => .str _

/-- two parts, then an operation on values -/
theorem two {σ : L2.St} {H : Hp} {Q : VK} (hs : So2 X.K cl r f) (h : bE X.K cl Wx (mOp2 f ma mb) σ H Q) : bE X.K cl Wx ma σ H fun x H1 => bE X.K cl Wx mb σ H1 fun y H2 => r x y H2 Q := by
  obtain ⟨ι, S, ρ, st, en, g⟩ := h
  refine ⟨ι, S, ρ, st, en, (Gd.bind (R := Rw X.K) g).imp fun x H1 ⟨ι1, S1, w1, s1, st1, r1, g1⟩ => ?_⟩
  refine ⟨ι1, S1, ρ, st1, en.mono s1, (Gd.bind (R := Rw X.K) g1).imp fun y H2 ⟨ι2, S2, w2, s2, st2, r2, g2⟩ => ?_⟩
  exact hs ι2 S2 H2 w1 w2 x y Q _ st2 (r1.mono s2) r2 g2
theorem b_op {op : Operator} (ho : OpR X (binaryOp op) r) (hs : So2 X.K cl r f) (ha : PE X a (bE X.K cl Wx ma)) (hb : PE X b (bE X.K cl Wx mb)) : PE X (.BinOp a op b pos) (bE X.K cl Wx (mOp2 f ma mb)) :=
  pe_to (pe_op ho ha hb) fun σ H Q h => two hs h
theorem b_cmp {op : CmpOp} (ho : OpR X (compareOp op) r) (hs : So2 X.K cl r f) (ha : PE X a (bE X.K cl Wx ma)) (hb : PE X b (bE X.K cl Wx mb)) (hm : behindInMarks op b = false) : PE X (.Compare a [op] [b] pos) (bE X.K cl Wx (mOp2 f ma mb)) :=
  pe_to (pe_cmpR ho ha hb hm) fun σ H Q h => two hs h
theorem b_ix (hr : IxR X r) (hs : So2 X.K cl r f) (ha : PE X a (bE X.K cl Wx ma)) (hb : PE X b (bE X.K cl Wx mb)) (hp : PlainIx b) : PE X (.Subscript a b pos) (bE X.K cl Wx (mOp2 f ma mb)) :=
  pe_to (pe_ix hr ha hb hp) fun σ H Q h => two hs h

/-! ### disjunctions of rules -/
def rOr (r r' : R2) : R2 := fun x y H Q => r x y H Q ∨ r' x y H Q
theorem opr_or {f : Value → Value → Sem Value} (h : OpR X f r) (h' : OpR X f r') : OpR X f (rOr r r') := fun pins s σ H x y v u Q I rx ry q => by
  rcases q with q | q
  · exact h pins s σ H x y v u Q I rx ry q
  · exact h' pins s σ H x y v u Q I rx ry q
theorem ixr_or (h : IxR X r) (h' : IxR X r') : IxR X (rOr r r') := fun va sl pins s σ H x y v u Q I rx ry q hs => by
  rcases q with q | q
  · exact h va sl pins s σ H x y v u Q I rx ry q hs
  · exact h' va sl pins s σ H x y v u Q I rx ry q hs
end

/-! ### what a datum's value is -/
section
variable {K : PySem.W.Frag} {cl : Nat → Addr} {ι : Io} {H : Hp} {v : V}
theorem dv_int {i : Int} (h : Dv K ι H v (.int i)) : v = .int i := by cases h; rfl
theorem dv_str {i : Str} (h : Dv K ι H v (.str i)) : v = .str i := by cases h; rfl
theorem dv_bool {i : Bool} (h : Dv K ι H v (.bool i)) : v = .bl i := by cases h; rfl
theorem dv_none (h : Dv K ι H v .none) : v = .non := by cases h; rfl
theorem dv_tup {ds : List PyData} (h : Dv K ι H v (.tuple ds)) : ∃ a xs, v = .ref a ∧ SqN K ι H a xs ∧ Dl K ι H xs ds := by
  cases h with
  | tup h1 h2 => exact ⟨_, _, rfl, h1, h2⟩
theorem dv_lst {ds : List PyData} (h : Dv K ι H v (.list ds)) : ∃ a xs, v = .ref a ∧ H a = some (.lst xs) ∧ ¬ live ι a ∧ Dl K ι H xs ds := by
  cases h with
  | lst h1 h2 h3 => exact ⟨_, _, rfl, h1, h2, h3⟩
theorem Dl.length : ∀ {vs : List V} {ds : List PyData}, Dl K ι H vs ds → vs.length = ds.length
  | _, _, .nil => rfl
  | _, _, .cons _ b => congrArg (· + 1) (Dl.length b)
theorem Dl.append : ∀ {vs vs' : List V} {ds ds' : List PyData}, Dl K ι H vs ds → Dl K ι H vs' ds' → Dl K ι H (vs ++ vs') (ds ++ ds')
  | _, _, _, _, .nil, h => h
  | _, _, _, _, .cons a b, h => .cons a (Dl.append b h)
theorem Dl.get : ∀ {vs : List V} {ds : List PyData}, Dl K ι H vs ds → ∀ (i : Nat) (d : PyData), ds[i]? = some d → ∃ v, vs[i]? = some v ∧ Dv K ι H v d
  | _, _, .nil, i, d, e => by simp at e
  | _, _, .cons (v := v) a b, 0, d, e => ⟨v, rfl, by have := Option.some.inj e; rw [← this]; exact a⟩
  | _, _, .cons a b, i + 1, d, e => by
    obtain ⟨v, h1, h2⟩ := Dl.get b i d (by simpa using e)
    exact ⟨v, by simpa using h1, h2⟩
theorem Dl.get' : ∀ {vs : List V} {ds : List PyData}, Dl K ι H vs ds → ∀ (i : Nat) (v : V), vs[i]? = some v → ∃ d, ds[i]? = some d ∧ Dv K ι H v d
  | _, _, .nil, i, d, e => by simp at e
  | _, _, .cons (d := d) a b, 0, v, e => ⟨d, rfl, by have := Option.some.inj e; rw [← this]; exact a⟩
  | _, _, .cons a b, i + 1, d, e => by
    obtain ⟨v, h1, h2⟩ := Dl.get' b i d (by simpa using e)
    exact ⟨v, by simpa using h1, h2⟩
theorem Dl.take : ∀ {vs : List V} {ds : List PyData} (n : Nat), Dl K ι H vs ds → Dl K ι H (vs.take n) (ds.take n)
  | _, _, 0, _ => .nil
  | _, _, _ + 1, .nil => .nil
  | _, _, n + 1, .cons a b => .cons a (Dl.take n b)
theorem Dl.drop : ∀ {vs : List V} {ds : List PyData} (n : Nat), Dl K ι H vs ds → Dl K ι H (vs.drop n) (ds.drop n)
  | _, _, 0, h => h
  | _, _, _ + 1, .nil => .nil
  | _, _, n + 1, .cons _ b => Dl.drop n b
theorem Dl.rev : ∀ {vs : List V} {ds : List PyData}, Dl K ι H vs ds → Dl K ι H vs.reverse ds.reverse
  | _, _, .nil => .nil
  | _, _, .cons a b => by
    rw [List.reverse_cons, List.reverse_cons]
    exact (Dl.rev b).append (.cons a .nil)
theorem Dl.rep : ∀ (n : Nat) {vs : List V} {ds : List PyData}, Dl K ι H vs ds → Dl K ι H (List.replicate n vs).flatten (List.replicate n ds).flatten
  | 0, _, _, _ => .nil
  | n + 1, _, _, h => by
    rw [List.replicate_succ, List.replicate_succ, List.flatten_cons, List.flatten_cons]
    exact h.append (Dl.rep n h)
theorem Dl.cut {vs : List V} {ds : List PyData} (h : Dl K ι H vs ds) (lo hi : Option Int) : Dl K ι H (cutV vs lo hi) (cutD ds lo hi) := by
  unfold cutV cutD
  rw [h.length]
  exact (h.drop _).take _
theorem Dl.atI {vs : List V} {ds : List PyData} (h : Dl K ι H vs ds) {i : Int} {d : PyData} (e : atI ds i = some d) : ∃ v, L2.atI vs i = some v ∧ Dv K ι H v d := by
  unfold L2.atI at e ⊢
  rw [h.length]
  cases hx : ixN ds.length i with
  | none => rw [hx] at e; cases e
  | some j =>
    rw [hx] at e
    exact h.get j d e
theorem dv_flat {d : PyData} (h : Dv K ι H v d) (f : flatD d = true) : flatV v = true := by
  cases h <;> first | rfl | cases f
theorem dl_flat : ∀ {vs : List V} {ds : List PyData}, Dl K ι H vs ds → ds.all flatD = true → vs.all flatV = true
  | _, _, .nil, _ => rfl
  | _, _, .cons a b, e => by
    rw [List.all_cons, Bool.and_eq_true] at e ⊢
    exact ⟨dv_flat a e.1, dl_flat b e.2⟩
theorem dv_eqv {x : V} {d e : PyData} (h : Dv K ι H v d) (h' : Dv K ι H x e) (f : flatD d = true) (f' : flatD e = true) : eqV v x = PyData.eqv d e := by
  cases h <;> first | exact absurd f Bool.false_ne_true | skip
  all_goals (cases h' <;> first | exact absurd f' Bool.false_ne_true | rfl | simp [eqV, PyData.eqv])
theorem dl_in {x : V} {e : PyData} (h' : Dv K ι H x e) (f' : flatD e = true) : ∀ {vs : List V} {ds : List PyData}, Dl K ι H vs ds → ds.all flatD = true → inV x vs = ds.any fun y => PyData.eqv y e
  | _, _, .nil, _ => rfl
  | _, _, .cons a b, q => by
    rw [List.all_cons, Bool.and_eq_true] at q
    unfold inV
    rw [List.any_cons, List.any_cons, dv_eqv a h' q.1 f']
    exact congrArg _ (dl_in h' f' b q.2)
mutual
theorem Dv.dp : ∀ {d : PyData} {v : V}, Dv K ι H v d → d.canLay0 = true → Dp K H v d
  | _, _, .non, _ => .non
  | _, _, .bl b, _ => .bl b
  | _, _, .int i, _ => .int i
  | _, _, .str x, _ => .str x
  | .list ds, _, .lst h n a, c => .lst (.inl (.inl h)) (Dl.dp a (by simpa [PyData.canLay0] using c))
  | .tuple ds, _, .tup h a, c => .tup h.sq (Dl.dp a (by simpa [PyData.canLay0] using c))
  | _, _, .dic h n a, c => by simp [PyData.canLay0] at c
theorem Dl.dp : ∀ {ds : List PyData} {vs : List V}, Dl K ι H vs ds → PyData.canLayAll0 ds = true → DpAll K H vs ds
  | _, _, .nil, _ => .nil
  | _, _, .cons a b, c => by
    simp only [PyData.canLayAll0, Bool.and_eq_true] at c
    exact .cons (Dv.dp a c.1) (Dl.dp b c.2)
end
end
end Sm

set_option Elab.async false
set_option linter.all false
set_option maxRecDepth 100000
set_option maxHeartbeats 2000000
/-! Sm2: the operators. -/
namespace Sm
open PySem L2

section
variable {K : PySem.W.Frag} {cl : Nat → Addr} {ι : Io} {H : Hp} {S : SS} {Q : VK} {E : XK}
theorem new_tup {xs : List V} {ds : List PyData} {p : Addr} (st : StOk K ι S H) (d : Dl K ι H xs ds) (hp : H p = none) : Dv K ι (upd H p (.tup xs)) (.ref p) (.tuple ds) :=
  .tup (.inl ⟨.inl upd_same, live_ne st hp⟩) (d.mono (step_new hp _))
theorem new_lst {xs : List V} {ds : List PyData} {p : Addr} (st : StOk K ι S H) (d : Dl K ι H xs ds) (hp : H p = none) : Dv K ι (upd H p (.lst xs)) (.ref p) (.list ds) :=
  .lst upd_same (live_ne st hp) (d.mono (step_new hp _))
theorem Gd.tup {xs : List V} {ds : List PyData} (g : Gd K cl ι H (Rw K) (.ok (.dat (.tuple ds)) S) Q E) (st : StOk K ι S H) (d : Dl K ι H xs ds) (p : Addr) (hp : H p = none) : Q (.ref p) (upd H p (.tup xs)) :=
  g ι _ _ (step_new hp _) (st.new hp _) (new_tup st d hp)
theorem Gd.lst {xs : List V} {ds : List PyData} (g : Gd K cl ι H (Rw K) (.ok (.dat (.list ds)) S) Q E) (st : StOk K ι S H) (d : Dl K ι H xs ds) (p : Addr) (hp : H p = none) : Q (.ref p) (upd H p (.lst xs)) :=
  g ι _ _ (step_new hp _) (st.new hp _) (new_lst st d hp)
/-- what ofO gives, where it gives something -/
theorem gd_ofO {α β γ : Type} {R : Io → Hp → β → γ → Prop} {o : Option α} {f : α → β} {Q : γ → Hp → Prop} (g : Gd K cl ι H R (ofO o f S) Q E) : ∃ a, o = some a ∧ Gd K cl ι H R (.ok (f a) S) Q E := by
  cases o with
  | none => exact g.elim
  | some a => exact ⟨a, rfl, g⟩
theorem gd_if {α β : Type} {R : Io → Hp → α → β → Prop} {c : Prop} [Decidable c] {d : PyData} {f : PyData → α} {Q : β → Hp → Prop} (g : Gd K cl ι H R (ofO (if c then some d else none) f S) Q E) : c ∧ Gd K cl ι H R (.ok (f d) S) Q E := by
  by_cases h : c
  · rw [if_pos h] at g
    exact ⟨h, g⟩
  · rw [if_neg h] at g
    exact g.elim
/-- an operation of data alone -/
theorem so_dat {r : R2} {f : PyData → PyData → Option PyData} (h : ∀ (ι : Io) (S : SS) (H : Hp) (d e : PyData) (x y : V) (Q : VK) (E : XK), StOk K ι S H → Dv K ι H x d → Dv K ι H y e → Gd K cl ι H (Rw K) (ofO (f d e) .dat S) Q E → r x y H Q) : So2 K cl r (dat2 f) :=
  fun ι S H wx wy x y Q E st rx ry g => by
  cases wx with
  | dat d =>
    cases wy with
    | dat e => exact h ι S H d e x y Q E st rx ry g
    | ref i => exact g.elim
    | scr ns => exact g.elim
  | ref i => exact g.elim
  | scr ns => exact g.elim
theorem so_tst {r : R2} {f : PyData → PyData → Option Bool} (h : ∀ (ι : Io) (S : SS) (H : Hp) (d e : PyData) (x y : V) (Q : VK) (b : Bool), StOk K ι S H → Dv K ι H x d → Dv K ι H y e → f d e = some b → Q (.bl b) H → r x y H Q) : So2 K cl r (tst2 f) :=
  fun ι S H wx wy x y Q E st rx ry g => by
  cases wx with
  | dat d =>
    cases wy with
    | dat e =>
      obtain ⟨b, hb, g⟩ := gd_ofO (o := f d e) g
      exact h ι S H d e x y Q b st rx ry hb (g.val st (.bl b))
    | ref i => exact g.elim
    | scr ns => exact g.elim
  | ref i => exact g.elim
  | scr ns => exact g.elim
theorem so_ntst {r : R2} {f : PyData → PyData → Option Bool} (h : ∀ (ι : Io) (S : SS) (H : Hp) (d e : PyData) (x y : V) (Q : VK) (b : Bool), StOk K ι S H → Dv K ι H x d → Dv K ι H y e → f d e = some b → Q (.bl (!b)) H → r x y H Q) : So2 K cl r (not2 (tst2 f)) :=
  fun ι S H wx wy x y Q E st rx ry g => by
  cases wx with
  | dat d =>
    cases wy with
    | dat e =>
      unfold not2 at g
      show r x y H Q
      change Gd K cl ι H (Rw K) ((ofO (f d e) (fun b => W.dat (.bool b)) S).bind _) Q E at g
      cases hf : f d e with
      | none => rw [hf] at g; exact g.elim
      | some b =>
        rw [hf] at g
        exact h ι S H d e x y Q b st rx ry hf (g.val st (.bl (!b)))
    | ref i => exact g.elim
    | scr ns => exact g.elim
  | ref i => exact g.elim
  | scr ns => exact g.elim

/-! ### + - * // % ** -/
def rAddU (K : PySem.W.Frag) : R2 := rOr (rI0 fun i j => .int (i + j)) (rOr (fun x y H Q => ∃ i j, x = .str i ∧ y = .str j ∧ i.length + j.length ≤ sizeLine ∧ Q (.str (i ++ j)) H) (rOr (rCatA K) rCat))
theorem op_addU {X : Cx} : OpR X (binaryOp .Add) (rAddU X.K) := opr_or op_add (opr_or op_add_str (opr_or op_catA op_cat))
theorem so_add : So2 K cl (rAddU K) (dat2 addD) := so_dat fun ι S H d e x y Q E st rx ry g => by
  cases d <;> cases e <;> first | exact g.elim | skip
  · rename_i i j
    cases rx; cases ry
    exact .inl ⟨i, j, rfl, rfl, g.val st (.int _)⟩
  · rename_i i j
    obtain ⟨hc, g⟩ := gd_if g
    cases rx; cases ry
    exact .inr (.inl ⟨i, j, rfl, rfl, hc, g.val st (.str _)⟩)
  · rename_i i j
    obtain ⟨hc, g⟩ := gd_if g
    obtain ⟨a, xs, rfl, h1, h2⟩ := dv_lst rx
    obtain ⟨b, ys, rfl, h3, h4⟩ := dv_lst ry
    refine .inr (.inr (.inr ⟨a, b, xs, ys, rfl, rfl, h1, h3, ?_, Gd.lst g st (h2.2.append h4.2)⟩))
    rw [h2.2.length, h4.2.length]
    exact hc
  · rename_i i j
    obtain ⟨hc, g⟩ := gd_if g
    obtain ⟨a, xs, rfl, h1, h2⟩ := dv_tup rx
    obtain ⟨b, ys, rfl, h3, h4⟩ := dv_tup ry
    refine .inr (.inr (.inl ⟨a, b, xs, ys, rfl, rfl, h1.sq, h3.sq, ?_, fun e => ?_, fun _ e => ?_, fun _ _ => Gd.tup g st (h2.append h4)⟩))
    · rw [h2.length, h4.length]
      exact hc
    · subst e
      cases h2
      exact g.val st (.tup h3 h4)
    · subst e
      cases h4
      rw [List.append_nil] at g
      exact g.val st (.tup h1 h2)
def rSubU : R2 := rI0 fun i j => .int (i - j)
theorem op_subU {X : Cx} : OpR X (binaryOp .Sub) rSubU := op_sub
theorem so_sub : So2 K cl rSubU (dat2 subD) := so_dat fun ι S H d e x y Q E st rx ry g => by
  cases d <;> cases e <;> first | exact g.elim | skip
  rename_i i j
  cases rx; cases ry
  exact ⟨i, j, rfl, rfl, g.val st (.int _)⟩
def rMulU (K : PySem.W.Frag) : R2 := rOr (rI CMul fun i j => .int (i * j)) (rRepT K)
theorem op_mulU {X : Cx} : OpR X (binaryOp .Mult) (rMulU X.K) := opr_or op_mul op_repT
theorem so_mul : So2 K cl (rMulU K) (dat2 mulD) := so_dat fun ι S H d e x y Q E st rx ry g => by
  cases d <;> cases e <;> first | exact g.elim | skip
  · rename_i i j
    obtain ⟨hc, g⟩ := gd_if g
    cases rx; cases ry
    exact .inl ⟨i, j, rfl, rfl, hc, g.val st (.int _)⟩
  · rename_i i j
    obtain ⟨⟨c1, c2, c3, c4⟩, g⟩ := gd_if g
    cases ry
    obtain ⟨a, xs, rfl, h1, h2⟩ := dv_tup rx
    refine .inr ⟨a, j, xs, rfl, rfl, h1.sq, ?_, c2, c3, by rw [h2.length]; exact c4, Gd.tup g st (h2.rep _)⟩
    intro e
    subst e
    cases h2
    exact c1 rfl
def rFdivU : R2 := rI CDivW fun i j => .int (i / j)
theorem op_fdivU {X : Cx} : OpR X (binaryOp .FloorDiv) rFdivU := op_fdivW
theorem so_fdiv : So2 K cl rFdivU (dat2 fdivD) := so_dat fun ι S H d e x y Q E st rx ry g => by
  cases d <;> cases e <;> first | exact g.elim | skip
  rename_i i j
  obtain ⟨hc, g⟩ := gd_if g
  cases rx; cases ry
  exact ⟨i, j, rfl, rfl, hc, g.val st (.int _)⟩
def rModU : R2 := rI (fun _ j => 0 < j) fun i j => .int (i % j)
theorem op_modU {X : Cx} : OpR X (binaryOp .Mod) rModU := op_mod
theorem so_mod : So2 K cl rModU (dat2 modD) := so_dat fun ι S H d e x y Q E st rx ry g => by
  cases d <;> cases e <;> first | exact g.elim | skip
  rename_i i j
  obtain ⟨hc, g⟩ := gd_if g
  cases rx; cases ry
  exact ⟨i, j, rfl, rfl, hc, g.val st (.int _)⟩
def rPowU : R2 := rI CPow fun i j => .int (i ^ j.toNat)
theorem op_powU {X : Cx} : OpR X (binaryOp .Pow) rPowU := op_pow
theorem so_pow : So2 K cl rPowU (dat2 powD) := so_dat fun ι S H d e x y Q E st rx ry g => by
  cases d <;> cases e <;> first | exact g.elim | skip
  rename_i i j
  obtain ⟨hc, g⟩ := gd_if g
  cases rx; cases ry
  exact ⟨i, j, rfl, rfl, hc, g.val st (.int _)⟩

/-! ### comparisons -/
theorem scal_dv {x y : V} {d e : PyData} (rx : Dv K ι H x d) (ry : Dv K ι H y e) (h : scalD d e = true) : scal x y = true ∧ decide (x = y) = PyData.eqv d e := by
  cases rx <;> cases ry <;> first | exact absurd h Bool.false_ne_true | skip
  all_goals first
    | exact ⟨rfl, rfl⟩
    | exact ⟨rfl, dec_int.trans (by simp [PyData.eqv])⟩
    | exact ⟨rfl, dec_bl.trans (by simp [PyData.eqv])⟩
    | (refine ⟨rfl, ?_⟩; rw [Bool.eq_iff_iff]; simp [PyData.eqv])
def rEqU (K : PySem.W.Frag) : R2 := rOr rEq (rEqD K)
def rNeU (K : PySem.W.Frag) : R2 := rOr rNe (rNeD K)
theorem op_eqU {X : Cx} (hu : X.A.units + 64 < cLine) : OpR X (compareOp .Eq) (rEqU X.K) := opr_or op_eq (op_eqD hu)
theorem op_neU {X : Cx} (hu : X.A.units + 64 < cLine) : OpR X (compareOp .NotEq) (rNeU X.K) := opr_or op_ne (op_neD hu)
theorem eqD_cases {d e : PyData} {b : Bool} (h : eqD d e = some b) : b = PyData.eqv d e ∧ (scalD d e = true ∨ (SeqAt.shaped d = true ∧ SeqAt.shaped e = true)) := by
  unfold eqD at h
  split at h
  · rename_i hs
    exact ⟨(Option.some.inj h).symm, .inl hs⟩
  · split at h
    · rename_i hs
      rw [Bool.and_eq_true] at hs
      exact ⟨(Option.some.inj h).symm, .inr hs⟩
    · cases h
theorem so_eq : So2 K cl (rEqU K) (tst2 eqD) := so_tst fun ι S H d e x y Q b st rx ry hb q => by
  obtain ⟨rfl, h | ⟨h1, h2⟩⟩ := eqD_cases hb
  · obtain ⟨a1, a2⟩ := scal_dv rx ry h
    exact .inl ⟨a1, by rw [a2]; exact q⟩
  · exact .inr ⟨d, e, rx.dp (SeqAt.canLay_of_shaped h1), ry.dp (SeqAt.canLay_of_shaped h2), h1, h2, q⟩
theorem so_ne : So2 K cl (rNeU K) (not2 (tst2 eqD)) := so_ntst fun ι S H d e x y Q b st rx ry hb q => by
  obtain ⟨rfl, h | ⟨h1, h2⟩⟩ := eqD_cases hb
  · obtain ⟨a1, a2⟩ := scal_dv rx ry h
    exact .inl ⟨a1, by rw [a2]; exact q⟩
  · exact .inr ⟨d, e, rx.dp (SeqAt.canLay_of_shaped h1), ry.dp (SeqAt.canLay_of_shaped h2), h1, h2, q⟩
def rLtU : R2 := rOr (rI0 fun i j => .bl (decide (i < j))) (fun x y H Q => ∃ i j, x = .str i ∧ y = .str j ∧ Q (.bl (decide (i.cps.toList < j.cps.toList))) H)
theorem op_ltU {X : Cx} : OpR X (compareOp .Lt) rLtU := opr_or op_lt op_lt_str
theorem so_lt : So2 K cl rLtU (tst2 ltD) := so_tst fun ι S H d e x y Q b st rx ry hb q => by
  cases d <;> cases e <;> first | cases hb; done | skip
  all_goals (have hb' := Option.some.inj hb; subst hb'; cases rx; cases ry)
  · exact .inl ⟨_, _, rfl, rfl, q⟩
  · exact .inr ⟨_, _, rfl, rfl, q⟩
def rGtU : R2 := rI0 fun i j => .bl (decide (j < i))
def gtD : PyData → PyData → Option Bool
  | .int i, .int j => some (decide (j < i))
  | _, _ => none
theorem op_gtU {X : Cx} : OpR X (compareOp .Gt) rGtU := op_gt
theorem so_gt : So2 K cl rGtU (tst2 gtD) := so_tst fun ι S H d e x y Q b st rx ry hb q => by
  cases d <;> cases e <;> first | cases hb; done | skip
  all_goals (have hb' := Option.some.inj hb; subst hb'; cases rx; cases ry)
  exact ⟨_, _, rfl, rfl, q⟩
def rLeU : R2 := rI0 fun i j => .bl (decide (i ≤ j))
theorem op_leU {X : Cx} : OpR X (compareOp .LtE) rLeU := op_le
theorem so_le : So2 K cl rLeU (tst2 leD) := so_tst fun ι S H d e x y Q b st rx ry hb q => by
  cases d <;> cases e <;> first | cases hb; done | skip
  all_goals (have hb' := Option.some.inj hb; subst hb'; cases rx; cases ry)
  exact ⟨_, _, rfl, rfl, q⟩
def rGeU : R2 := rI0 fun i j => .bl (decide (j ≤ i))
def geD : PyData → PyData → Option Bool
  | .int i, .int j => some (decide (j ≤ i))
  | _, _ => none
theorem op_geU {X : Cx} : OpR X (compareOp .GtE) rGeU := op_ge
theorem so_ge : So2 K cl rGeU (tst2 geD) := so_tst fun ι S H d e x y Q b st rx ry hb q => by
  cases d <;> cases e <;> first | cases hb; done | skip
  all_goals (have hb' := Option.some.inj hb; subst hb'; cases rx; cases ry)
  exact ⟨_, _, rfl, rfl, q⟩

/-! ### in, not in; items -/
/-- a list of the store read as data -/
theorem rd_of {w : W} {d : PyData} {x : V} (st : StOk K ι S H) (r : Rw K ι H w x) (h : getW S w = some d) : Dv K ι H x d ∨ ∃ ds p xs, d = .list ds ∧ x = .ref p ∧ H p = some (.lst xs) ∧ Dl K ι H xs ds := by
  cases w with
  | dat e =>
    have := Option.some.inj h
    subst this
    exact .inl r
  | scr ns => cases h
  | ref i =>
    unfold getW at h
    dsimp only at h
    split at h
    · rename_i ds e
      have := Option.some.inj h
      subst this
      obtain ⟨a, ho, e1, e2, ro⟩ := st.obj i _ e (fun z => by cases z)
      cases ho <;> first | exact False.elim ro | skip
      exact .inr ⟨ds, a, _, rfl, r.2 a e1, e2, ro⟩
    · cases h
/-- the items of a list or tuple, in the store or not -/
theorem seq_of {w : W} {ds : List PyData} {x : V} (st : StOk K ι S H) (r : Rw K ι H w x) (h : getW S w = some (.list ds)) : ∃ p xs, x = .ref p ∧ H p = some (.lst xs) ∧ Dl K ι H xs ds := by
  rcases rd_of st r h with h1 | ⟨_, p, xs, e, e1, e2, e3⟩
  · obtain ⟨a, xs, e1, e2, _, e3⟩ := dv_lst h1
    exact ⟨a, xs, e1, e2, e3⟩
  · cases e
    exact ⟨p, xs, e1, e2, e3⟩
theorem dat_of {w : W} {d : PyData} {x : V} (st : StOk K ι S H) (r : Rw K ι H w x) (h : getW S w = some d) (hn : ∀ ds, d ≠ .list ds) : Dv K ι H x d := by
  rcases rd_of st r h with h1 | ⟨ds, _, _, e, _⟩
  · exact h1
  · exact absurd e (hn ds)
theorem so_rdt {r : R2} {f : PyData → PyData → Option Bool} (h : ∀ (ι : Io) (S : SS) (H : Hp) (wx wy : W) (d e : PyData) (x y : V) (Q : VK) (b : Bool), StOk K ι S H → Rw K ι H wx x → Rw K ι H wy y → getW S wx = some d → getW S wy = some e → f d e = some b → Q (.bl b) H → r x y H Q) : So2 K cl r (rdt2 f) :=
  fun ι S H wx wy x y Q E st rx ry g => by
  unfold rdt2 at g
  split at g
  · rename_i d e h1 h2
    obtain ⟨b, hb, g⟩ := gd_ofO (o := f d e) g
    exact h ι S H wx wy d e x y Q b st rx ry h1 h2 hb (g.val st (.bl b))
  · exact g.elim
theorem so_nrdt {r : R2} {f : PyData → PyData → Option Bool} (h : ∀ (ι : Io) (S : SS) (H : Hp) (wx wy : W) (d e : PyData) (x y : V) (Q : VK) (b : Bool), StOk K ι S H → Rw K ι H wx x → Rw K ι H wy y → getW S wx = some d → getW S wy = some e → f d e = some b → Q (.bl (!b)) H → r x y H Q) : So2 K cl r (not2 (rdt2 f)) :=
  fun ι S H wx wy x y Q E st rx ry g => by
  unfold not2 rdt2 at g
  split at g
  · rename_i d e h1 h2
    cases hf : f d e with
    | none => rw [hf] at g; exact g.elim
    | some b =>
      rw [hf] at g
      exact h ι S H wx wy d e x y Q b st rx ry h1 h2 hf (g.val st (.bl (!b)))
  · exact g.elim
def rSign (neg : Bool) : R2 := fun x y H Q => ∃ (c : Nat) (z : Str), x = .str ⟨#[c]⟩ ∧ y = .str z ∧ Q (.bl (if neg then !decide (c ∈ z.cps.toList) else decide (c ∈ z.cps.toList))) H
def rInU (K : PySem.W.Frag) (neg : Bool) : R2 := rOr (rIn K neg) (rSign neg)
theorem op_inU {X : Cx} : OpR X (compareOp .In) (rInU X.K false) := opr_or op_in_seq op_in_sign
theorem op_notInU {X : Cx} : OpR X (compareOp .NotIn) (rInU X.K true) := opr_or op_notIn_seq op_notIn_sign
theorem one_sign {a : Str} (h : a.length = 1) : a = ⟨#[a.cps.toList.headD 0]⟩ := by
  obtain ⟨c⟩ := a
  obtain ⟨l⟩ := c
  have h' : l.length = 1 := h
  match l, h' with
  | [c], _ => rfl
theorem in_read {neg : Bool} {wx wy : W} {x y : V} {d e : PyData} {b : Bool} (st : StOk K ι S H) (rx : Rw K ι H wx x) (ry : Rw K ι H wy y) (hx : getW S wx = some d) (hy : getW S wy = some e) (h : inD d e = some b) (q : Q (.bl (if neg then !b else b)) H) : rInU K neg x y H Q := by
  unfold inD at h
  split at h
  · rename_i a z
    split at h
    · rename_i h1
      have hb := Option.some.inj h
      subst hb
      have e1 := dat_of st rx hx (fun _ z => by cases z)
      have e2 := dat_of st ry hy (fun _ z => by cases z)
      cases e1; cases e2
      exact .inr ⟨_, z, congrArg V.str (one_sign h1), rfl, q⟩
    · cases h
  · rename_i ys _
    split at h
    · rename_i hc
      have hb := Option.some.inj h
      subst hb
      rw [Bool.and_eq_true] at hc
      obtain ⟨p, xs, rfl, e2, e3⟩ := seq_of st ry hy
      have e1 := dat_of st rx hx (fun ds z => by rw [z] at hc; exact absurd hc.1 Bool.false_ne_true)
      exact .inl ⟨p, xs, rfl, .inl (.inl (.inl e2)), dv_flat e1 hc.1, dl_flat e3 hc.2, by rw [dl_in e1 hc.1 e3 hc.2]; exact q⟩
    · cases h
  · rename_i ys _
    split at h
    · rename_i hc
      have hb := Option.some.inj h
      subst hb
      rw [Bool.and_eq_true] at hc
      have e2 := dat_of st ry hy (fun _ z => by cases z)
      obtain ⟨p, xs, rfl, e2, e3⟩ := dv_tup e2
      have e1 := dat_of st rx hx (fun ds z => by rw [z] at hc; exact absurd hc.1 Bool.false_ne_true)
      exact .inl ⟨p, xs, rfl, .inr e2.sq, dv_flat e1 hc.1, dl_flat e3 hc.2, by rw [dl_in e1 hc.1 e3 hc.2]; exact q⟩
    · cases h
  · cases h
theorem so_in : So2 K cl (rInU K false) (rdt2 inD) := so_rdt fun ι S H wx wy d e x y Q b st rx ry hx hy hb q => in_read st rx ry hx hy hb q
theorem so_notIn : So2 K cl (rInU K true) (not2 (rdt2 inD)) := so_nrdt fun ι S H wx wy d e x y Q b st rx ry hx hy hb q => in_read st rx ry hx hy hb q
def rIxU (K : PySem.W.Frag) : R2 := rOr (rIxL K) (rOr (rIxT K) rIxS)
theorem ix_U {X : Cx} : IxR X (rIxU X.K) := ixr_or ix_list (ixr_or ix_tup ix_str)
theorem so_ix : So2 K cl (rIxU K) (rd2 ixD) := fun ι S H wx wy x y Q E st rx ry g => by
  unfold rd2 at g
  split at g
  · rename_i d e h1 h2
    obtain ⟨z, hz, g2⟩ := gd_ofO (o := ixD d e) g
    unfold ixD at hz
    split at hz
    · rename_i xs i
      obtain ⟨p, vs, rfl, e2, e3⟩ := seq_of st rx h1
      have e4 := dat_of st ry h2 (fun _ z => by cases z)
      cases e4
      obtain ⟨v, a1, a2⟩ := e3.atI hz
      exact .inl ⟨p, vs, i, v, rfl, rfl, .inl (.inl e2), a1, Gd.val (R := Rw K) (a := W.dat z) g2 st a2⟩
    · rename_i xs i
      have e2 := dat_of st rx h1 (fun _ z => by cases z)
      obtain ⟨p, vs, rfl, e2, e3⟩ := dv_tup e2
      have e4 := dat_of st ry h2 (fun _ z => by cases z)
      cases e4
      obtain ⟨v, a1, a2⟩ := e3.atI hz
      exact .inr (.inl ⟨p, vs, i, v, rfl, rfl, e2.sq, a1, Gd.val (R := Rw K) (a := W.dat z) g2 st a2⟩)
    · rename_i xs i
      have e2 := dat_of st rx h1 (fun _ z => by cases z)
      have e4 := dat_of st ry h2 (fun _ z => by cases z)
      cases e4; cases e2
      split at hz
      · rename_i hl
        cases hc : atI xs.cps.toList i with
        | none => rw [hc] at hz; cases hz
        | some c =>
          rw [hc] at hz
          have hz' := Option.some.inj hz
          subst hz'
          exact .inr (.inr ⟨xs, i, c, rfl, rfl, hl, hc, g2.val st (.str _)⟩)
      · cases hz
    · cases hz
  · exact g.elim
end
end Sm

set_option Elab.async false
set_option linter.all false
set_option maxRecDepth 100000
set_option maxHeartbeats 2000000
/-! Sm3: expressions, tests, arguments, displays, builtins, slices. -/
namespace Sm
open PySem L2

section
variable {K : PySem.W.Frag} {cl : Nat → Addr} {ι ι' : Io} {H H' : Hp} {S : SS} {Q : VK} {E : XK}
theorem GL.later {r : Res (List PyData)} (s : Step ι H ι' H') (h : GL K cl ι H r Q E) : GL K cl ι' H' r Q E := by
  cases r with
  | ok a S => exact fun ι1 H1 p xs t st q d => h ι1 H1 p xs (s.trans t) st q d
  | exc c S => exact fun ι1 H1 t st => h ι1 H1 (s.trans t) st
  | stuck => exact h
theorem GL.imp {r : Res (List PyData)} {Q' : VK} (h : GL K cl ι H r Q E) (f : ∀ b H', Q b H' → Q' b H') : GL K cl ι H r Q' E := by
  cases r with
  | ok a S => exact fun ι1 H1 p xs t st q d => f _ _ (h ι1 H1 p xs t st q d)
  | exc c S => exact h
  | stuck => exact h
theorem Gd.bindL {α β : Type} {R : Io → Hp → α → β → Prop} {r : Res α} {f : α → SS → Res (List PyData)} (h : GL K cl ι H (r.bind f) Q E) :
    Gd K cl ι H R r (fun b H' => ∃ ι' S' a, Step ι H ι' H' ∧ StOk K ι' S' H' ∧ R ι' H' a b ∧ GL K cl ι' H' (f a S') Q E) E := by
  cases r with
  | ok a S => exact fun ι1 H1 b t st q => ⟨ι1, S, a, t, st, q, h.later t⟩
  | exc c S => exact h
  | stuck => exact h
theorem GL.ofO {α : Type} {o : Option α} {f : α → List PyData} (g : GL K cl ι H (ofO o f S) Q E) : ∃ a, o = some a ∧ GL K cl ι H (.ok (f a) S) Q E := by
  cases o with
  | none => exact g.elim
  | some a => exact ⟨a, rfl, g⟩
theorem GL.at {ds : List PyData} {xs : List V} {p : Addr} (g : GL K cl ι H (.ok ds S) Q E) (st : StOk K ι S H) (hp : H p = none) (d : Dl K ι H xs ds) : Q (.ref p) (upd H p (.lst xs)) := g ι H p xs (Step.refl _ _) st hp d
end

/-! ### mirrors -/
def mAnd (a b : ME) : ME := fun ρ S => (a ρ S).bind fun x S => match x with
  | .dat (.bool true) => b ρ S
  | .dat (.bool false) => .ok (.dat (.bool false)) S
  | _ => .stuck
def mOr (a b : ME) : ME := fun ρ S => (a ρ S).bind fun x S => match x with
  | .dat (.bool true) => .ok (.dat (.bool true)) S
  | .dat (.bool false) => b ρ S
  | _ => .stuck
def mNot (a : ME) : ME := fun ρ S => (a ρ S).bind fun x S => match x with
  | .dat (.bool b) => .ok (.dat (.bool (!b))) S
  | _ => .stuck
def mT (a : ME) : MT := fun ρ S => (a ρ S).bind fun x S => match x with
  | .dat (.bool b) => .ok b S
  | _ => .stuck
def tAndM (a b : MT) : MT := fun ρ S => (a ρ S).bind fun x S => if x = true then b ρ S else .ok false S
def tOrM (a b : MT) : MT := fun ρ S => (a ρ S).bind fun x S => if x = true then .ok true S else b ρ S
def tNotM (a : MT) : MT := fun ρ S => (a ρ S).bind fun x S => .ok (!x) S
def mIf (t : MT) (a b : ME) : ME := fun ρ S => (t ρ S).bind fun x S => if x = true then a ρ S else b ρ S
/-- a op b op' c -/
def mChain (f g : F2) (a b c : ME) : ME := fun ρ S => (a ρ S).bind fun x S => (b ρ S).bind fun y S => (f x y S).bind fun z S => match z with
  | .dat (.bool true) => (c ρ S).bind fun w S => g y w S
  | .dat (.bool false) => .ok (.dat (.bool false)) S
  | _ => .stuck
def mUn (f : PyData → Option PyData) (a : ME) : ME := fun ρ S => (a ρ S).bind fun x S => match x with
  | .dat d => ofO (f d) .dat S
  | _ => .stuck
def mNil : MA := fun _ S => .ok [] S
def mCons (a : ME) (r : MA) : MA := fun ρ S => (a ρ S).bind fun x S => (r ρ S).bind fun xs S => .ok (x :: xs) S
def datsW : List W → Option (List PyData)
  | [] => some []
  | .dat d :: r => (datsW r).map (d :: ·)
  | _ :: _ => none
def mTup (a : MA) : ME := fun ρ S => (a ρ S).bind fun ws S => match datsW ws with
  | some ds => if ds.length ≤ sizeLine then .ok (.dat (.tuple ds)) S else .stuck
  | none => .stuck
def mLst (a : MA) : ML := fun ρ S => (a ρ S).bind fun ws S => match datsW ws with
  | some ds => if ds.length ≤ sizeLine then .ok ds S else .stuck
  | none => .stuck
def mDic0 : ME := fun _ S => .ok (.dat (.dict [])) S
/-- a new list as plain data | as a thing of the store -/
def mOfL (m : ML) : ME := fun ρ S => (m ρ S).bind fun ds S => .ok (.dat (.list ds)) S
def mNew (m : ML) : ME := fun ρ S => (m ρ S).bind fun ds S => .ok (.ref S.length) (S ++ [.lst ds])
/-- from here on a list of the store is plain data -/
def mFrz (m : ME) : ME := fun ρ S => (m ρ S).bind fun w S => match w with
  | .ref i => match S[i]? with
    | some (.lst ds) => .ok (.dat (.list ds)) (S.set i .dead)
    | _ => .stuck
  | w => .ok w S
def mIs (T : String) (a : ME) : ME := fun ρ S => (a ρ S).bind fun w S => match getW S w with
  | some d => ofO (isD T d) (fun b => .dat (.bool b)) S
  | none => .stuck
abbrev FN := List W → SS → Res W
abbrev FL := List W → SS → Res (List PyData)
def mCal (f : FN) (a : MA) : ME := fun ρ S => (a ρ S).bind f
def mCalL (f : FL) (a : MA) : ML := fun ρ S => (a ρ S).bind f
abbrev MO := En → SS → Res (Option Int)
def mNoP : MO := fun _ S => .ok none S
def mPart (a : ME) : MO := fun ρ S => (a ρ S).bind fun x S => match x with
  | .dat (.int i) => .ok (some i) S
  | _ => .stuck
def slW (w : W) (lo hi : Option Int) : Option PyData := match w with
  | .dat d => slD d lo hi
  | .scr ns => some (.list (cutD (ns.map PyData.int) lo hi))
  | .ref _ => none
def mSl (a : ME) (lo hi : MO) : ME := fun ρ S => (a ρ S).bind fun x S => (lo ρ S).bind fun l S => (hi ρ S).bind fun h S => ofO (slW x l h) .dat S

section
variable (K : PySem.W.Frag) (cl : Nat → Addr) (Wx : Wi)
def bO (m : MO) : TO := fun σ H Q => ∃ ι S ρ, StOk K ι S H ∧ EnvR K Wx.p ι H ρ σ ∧ Gd K cl ι H (fun _ _ a b => a = b) (m ρ S) Q (exA Wx σ)
end
def SoN (K : PySem.W.Frag) (cl : Nat → Addr) (r : List V → Hp → VK → Prop) (f : FN) : Prop := ∀ (ι : Io) (S : SS) (H : Hp) (ws : List W) (vs : List V) (Q : VK) (E : XK),
  StOk K ι S H → Paired (Rw K ι H) ws vs → Gd K cl ι H (Rw K) (f ws S) Q E → r vs H Q
def SoL (K : PySem.W.Frag) (cl : Nat → Addr) (r : List V → Hp → VK → Prop) (f : FL) : Prop := ∀ (ι : Io) (S : SS) (H : Hp) (ws : List W) (vs : List V) (Q : VK) (E : XK),
  StOk K ι S H → Paired (Rw K ι H) ws vs → GL K cl ι H (f ws S) Q E → r vs H Q

section
variable {X : Cx} {cl : Nat → Addr} {Wx : Wi} {e a b c : Expr} {es rest : List Expr} {ma mb mc m : ME} {ml : MA} {mt mu : MT} {pos p : Pos} {f g : F2} {r r' : R2}
theorem pw_to {t t' : TT} (h : PW X e t) (f : ∀ σ H Q, t' σ H Q → t σ H Q) : PW X e t' := ⟨fun wh pins s σ H Q I q => h.run wh pins s σ H Q I (f _ _ _ q)⟩

/-- a part, then what hangs on its truth -/
theorem bool_of {ι : Io} {H : Hp} {x : V} {w : W} (r : Rw X.K ι H w x) : (∃ b, w = .dat (.bool b) ∧ x = .bl b) ∨ ∀ b, w ≠ .dat (.bool b) := by
  cases w with
  | dat d =>
    cases d with
    | bool b => exact .inl ⟨b, rfl, dv_bool r⟩
    | none => exact .inr fun b z => by cases z
    | int i => exact .inr fun b z => by cases z
    | str i => exact .inr fun b z => by cases z
    | list i => exact .inr fun b z => by cases z
    | tuple i => exact .inr fun b z => by cases z
    | dict i => exact .inr fun b z => by cases z
  | ref i => exact .inr fun b z => by cases z
  | scr i => exact .inr fun b z => by cases z
theorem b_one {op : BoolOp} (h : PE X a (bE X.K cl Wx m)) : PE X (.BoolOp op [a] pos) (bE X.K cl Wx m) := pe_one h
theorem b_and (ha : PE X a (bE X.K cl Wx ma)) (hb : PE X (.BoolOp .And (b :: rest) pos) (bE X.K cl Wx mb)) : PE X (.BoolOp .And (a :: b :: rest) pos) (bE X.K cl Wx (mAnd ma mb)) :=
  pe_to (pe_and ha hb) fun σ H Q ⟨ι, S, ρ, st, en, g⟩ => ⟨ι, S, ρ, st, en, (Gd.bind (R := Rw X.K) g).imp fun x H1 ⟨ι1, S1, w1, s1, st1, r1, g1⟩ => by
    rcases bool_of r1 with ⟨b, rfl, rfl⟩ | hn
    · refine ⟨b, rfl, ?_⟩
      cases b with
      | true => exact ⟨ι1, S1, ρ, st1, en.mono s1, g1⟩
      | false => exact Gd.val (R := Rw X.K) g1 st1 (.bl false)
    · exfalso
      split at g1
      · exact hn _ rfl
      · exact hn _ rfl
      · exact g1⟩
theorem b_or (ha : PE X a (bE X.K cl Wx ma)) (hb : PE X (.BoolOp .Or (b :: rest) pos) (bE X.K cl Wx mb)) : PE X (.BoolOp .Or (a :: b :: rest) pos) (bE X.K cl Wx (mOr ma mb)) :=
  pe_to (pe_or ha hb) fun σ H Q ⟨ι, S, ρ, st, en, g⟩ => ⟨ι, S, ρ, st, en, (Gd.bind (R := Rw X.K) g).imp fun x H1 ⟨ι1, S1, w1, s1, st1, r1, g1⟩ => by
    rcases bool_of r1 with ⟨b, rfl, rfl⟩ | hn
    · refine ⟨b, rfl, ?_⟩
      cases b with
      | true => exact Gd.val (R := Rw X.K) g1 st1 (.bl true)
      | false => exact ⟨ι1, S1, ρ, st1, en.mono s1, g1⟩
    · exfalso
      split at g1
      · exact hn _ rfl
      · exact hn _ rfl
      · exact g1⟩
theorem b_not (ha : PE X a (bE X.K cl Wx ma)) : PE X (.UnaryOp .Not a pos) (bE X.K cl Wx (mNot ma)) :=
  pe_to (pe_not ha) fun σ H Q ⟨ι, S, ρ, st, en, g⟩ => ⟨ι, S, ρ, st, en, (Gd.bind (R := Rw X.K) g).imp fun x H1 ⟨ι1, S1, w1, s1, st1, r1, g1⟩ => by
    rcases bool_of r1 with ⟨b, rfl, rfl⟩ | hn
    · exact ⟨b, rfl, Gd.val (R := Rw X.K) g1 st1 (.bl (!b))⟩
    · exfalso
      split at g1
      · exact hn _ rfl
      · exact g1⟩
theorem b_test (h : PE X e (bE X.K cl Wx m)) (he : ∀ whole, isTrue e X.env whole = (do let v ← whole; standAt e.pos; holding [v] (truthy v)) := by intro _; rfl) : PT X e (bT X.K cl Wx (mT m)) :=
  pt_to (pt_val h he) fun σ H Q ⟨ι, S, ρ, st, en, g⟩ => ⟨ι, S, ρ, st, en, (Gd.bind (R := Rw X.K) g).imp fun x H1 ⟨ι1, S1, w1, s1, st1, r1, g1⟩ => by
    rcases bool_of r1 with ⟨b, rfl, rfl⟩ | hn
    · exact ⟨b, rfl, Gd.val (R := fun _ _ a b => a = b) g1 st1 rfl⟩
    · exfalso
      split at g1
      · exact hn _ rfl
      · exact g1⟩
theorem b_tand1 (h : PT X a (bT X.K cl Wx mt)) : PW X (.BoolOp .And [a] pos) (bT X.K cl Wx mt) := pw_and1 h
theorem b_tor1 (h : PT X a (bT X.K cl Wx mt)) : PW X (.BoolOp .Or [a] pos) (bT X.K cl Wx mt) := pw_or1 h
theorem b_tand (ha : PT X a (bT X.K cl Wx mt)) (hb : PW X (.BoolOp .And (b :: rest) pos) (bT X.K cl Wx mu)) : PW X (.BoolOp .And (a :: b :: rest) pos) (bT X.K cl Wx (tAndM mt mu)) :=
  pw_to (pw_and ha hb) fun σ H Q ⟨ι, S, ρ, st, en, g⟩ => ⟨ι, S, ρ, st, en, (Gd.bind (R := fun _ _ a b => a = b) g).imp fun x H1 ⟨ι1, S1, w1, s1, st1, r1, g1⟩ => by
    subst r1
    cases w1 with
    | true => exact ⟨ι1, S1, ρ, st1, en.mono s1, g1⟩
    | false => exact Gd.val (R := fun _ _ a b => a = b) g1 st1 rfl⟩
theorem b_tor (ha : PT X a (bT X.K cl Wx mt)) (hb : PW X (.BoolOp .Or (b :: rest) pos) (bT X.K cl Wx mu)) : PW X (.BoolOp .Or (a :: b :: rest) pos) (bT X.K cl Wx (tOrM mt mu)) :=
  pw_to (pw_or ha hb) fun σ H Q ⟨ι, S, ρ, st, en, g⟩ => ⟨ι, S, ρ, st, en, (Gd.bind (R := fun _ _ a b => a = b) g).imp fun x H1 ⟨ι1, S1, w1, s1, st1, r1, g1⟩ => by
    subst r1
    cases w1 with
    | true => exact Gd.val (R := fun _ _ a b => a = b) g1 st1 rfl
    | false => exact ⟨ι1, S1, ρ, st1, en.mono s1, g1⟩⟩
theorem b_tnot (ha : PT X a (bT X.K cl Wx mt)) : PT X (.UnaryOp .Not a pos) (bT X.K cl Wx (tNotM mt)) :=
  pt_to (pt_not ha) fun σ H Q ⟨ι, S, ρ, st, en, g⟩ => ⟨ι, S, ρ, st, en, (Gd.bind (R := fun _ _ a b => a = b) g).imp fun x H1 ⟨ι1, S1, w1, s1, st1, r1, g1⟩ => by
    subst r1
    exact Gd.val (R := fun _ _ a b => a = b) g1 st1 rfl⟩
theorem b_if (hc : PT X c (bT X.K cl Wx mt)) (ha : PE X a (bE X.K cl Wx ma)) (hb : PE X b (bE X.K cl Wx mb)) : PE X (.IfExp c a b pos) (bE X.K cl Wx (mIf mt ma mb)) :=
  pe_to (pe_ifExp hc ha hb) fun σ H Q ⟨ι, S, ρ, st, en, g⟩ => ⟨ι, S, ρ, st, en, (Gd.bind (R := fun _ _ a b => a = b) g).imp fun x H1 ⟨ι1, S1, w1, s1, st1, r1, g1⟩ => by
    subst r1
    cases w1 with
    | true => exact ⟨ι1, S1, ρ, st1, en.mono s1, g1⟩
    | false => exact ⟨ι1, S1, ρ, st1, en.mono s1, g1⟩⟩
theorem b_chain {op op' : CmpOp} (ho : OpR X (compareOp op) r) (ho' : OpR X (compareOp op') r') (hs : So2 X.K cl r f) (hs' : So2 X.K cl r' g) (ha : PE X a (bE X.K cl Wx ma)) (hb : PE X b (bE X.K cl Wx mb)) (hc : PE X c (bE X.K cl Wx mc))
    (hm : lastMarks [op, op'] [b, c] = false := by with_unfolding_all rfl) : PE X (.Compare a [op, op'] [b, c] pos) (bE X.K cl Wx (mChain f g ma mb mc)) :=
  pe_to (pe_chain ho ho' ha hb hc hm) fun σ H Q ⟨ι, S, ρ, st, en, g0⟩ => ⟨ι, S, ρ, st, en, (Gd.bind (R := Rw X.K) g0).imp fun x H1 ⟨ι1, S1, w1, s1, st1, r1, g1⟩ =>
    ⟨ι1, S1, ρ, st1, en.mono s1, (Gd.bind (R := Rw X.K) g1).imp fun y H2 ⟨ι2, S2, w2, s2, st2, r2, g2⟩ => by
      refine hs ι2 S2 H2 w1 w2 x y _ _ st2 (r1.mono s2) r2 ((Gd.bind (R := Rw X.K) g2).imp fun z H3 ⟨ι3, S3, w3, s3, st3, r3, g3⟩ => ?_)
      rcases bool_of r3 with ⟨b, rfl, rfl⟩ | hn
      · refine ⟨b, rfl, ?_⟩
        cases b with
        | true =>
          refine ⟨ι3, S3, ρ, st3, en.mono (s1.trans (s2.trans s3)), (Gd.bind (R := Rw X.K) g3).imp fun w H4 ⟨ι4, S4, w4, s4, st4, r4, g4⟩ => ?_⟩
          exact hs' ι4 S4 H4 w2 w4 y w Q _ st4 (r2.mono (s3.trans s4)) r4 g4
        | false => exact Gd.val (R := Rw X.K) g3 st3 (.bl false)
      · exfalso
        split at g3
        · exact hn _ rfl
        · exact hn _ rfl
        · exact g3⟩⟩
theorem b_neg (ha : PE X a (bE X.K cl Wx ma)) : PE X (.UnaryOp .USub a pos) (bE X.K cl Wx (mUn negD ma)) :=
  pe_to (pe_un un_neg ha) fun σ H Q ⟨ι, S, ρ, st, en, g⟩ => ⟨ι, S, ρ, st, en, (Gd.bind (R := Rw X.K) g).imp fun x H1 ⟨ι1, S1, w1, s1, st1, r1, g1⟩ => by
    cases w1 with
    | dat d =>
      cases d <;> first | exact g1.elim | skip
      cases r1
      exact ⟨_, rfl, Gd.val (R := Rw X.K) g1 st1 (.int _)⟩
    | ref i => exact g1.elim
    | scr i => exact g1.elim⟩
/-- x is None: x is plain data -/
def isNoW (neg : Bool) (w : W) (S : SS) : Res W := match w with
  | .ref _ => .stuck
  | .dat .none => .ok (.dat (.bool (if neg then !true else true))) S
  | _ => .ok (.dat (.bool (if neg then !false else false))) S
def mIsNo (neg : Bool) (a : ME) : ME := fun ρ S => (a ρ S).bind fun x S => isNoW neg x S
theorem isN_core {neg : Bool} {ι : Io} {H : Hp} {x : V} {w : W} {S : SS} {Q : VK} {E : XK} (st : StOk X.K ι S H) (r : Rw X.K ι H w x)
    (g : Gd X.K cl ι H (Rw X.K) (isNoW neg w S) Q E) : Q (.bl (if neg then !decide (x = .non) else decide (x = .non))) H := by
  cases w with
  | dat d =>
    cases d <;> (cases r; exact Gd.val (R := Rw X.K) g st (.bl _))
  | ref i => exact g.elim
  | scr ns =>
    obtain ⟨a, rfl, _⟩ := r
    exact Gd.val (R := Rw X.K) g st (.bl _)
theorem b_isN {k : Nat} {np : Pos} (ha : PE X a (bE X.K cl Wx ma)) : PE X (.Compare a [.Is] [.Constant .none k np] pos) (bE X.K cl Wx (mIsNo false ma)) :=
  pe_to (pe_cmpR op_isN ha pe_non (nomark _)) fun σ H Q ⟨ι, S, ρ, st, en, g⟩ => ⟨ι, S, ρ, st, en, (Gd.bind (R := Rw X.K) g).imp fun x H1 ⟨ι1, S1, w1, s1, st1, r1, g1⟩ => ⟨rfl, isN_core (neg := false) st1 r1 g1⟩⟩
theorem b_notN {k : Nat} {np : Pos} (ha : PE X a (bE X.K cl Wx ma)) : PE X (.Compare a [.IsNot] [.Constant .none k np] pos) (bE X.K cl Wx (mIsNo true ma)) :=
  pe_to (pe_cmpR op_notN ha pe_non (nomark _)) fun σ H Q ⟨ι, S, ρ, st, en, g⟩ => ⟨ι, S, ρ, st, en, (Gd.bind (R := Rw X.K) g).imp fun x H1 ⟨ι1, S1, w1, s1, st1, r1, g1⟩ => ⟨rfl, isN_core (neg := true) st1 r1 g1⟩⟩

/-! ### arguments, displays -/
theorem b_nil : PA X [] (bA X.K cl Wx mNil) := pa_to pa_nil fun σ H Q ⟨ι, S, ρ, st, en, g⟩ => Gd.val (R := fun ι H => Paired (Rw X.K ι H)) g st .nil
theorem b_cons (ha : PE X e (bE X.K cl Wx m)) (hr : PA X es (bA X.K cl Wx ml)) (hs : starEach (e :: es) X.env = (false, eval e X.env) :: starEach es X.env := by rfl) : PA X (e :: es) (bA X.K cl Wx (mCons m ml)) :=
  pa_to (pa_cons ha hr hs) fun σ H Q ⟨ι, S, ρ, st, en, g⟩ => ⟨ι, S, ρ, st, en, (Gd.bind (R := Rw X.K) g).imp fun x H1 ⟨ι1, S1, w1, s1, st1, r1, g1⟩ =>
    ⟨ι1, S1, ρ, st1, en.mono s1, (Gd.bind (R := fun ι H => Paired (Rw X.K ι H)) g1).imp fun xs H2 ⟨ι2, S2, w2, s2, st2, r2, g2⟩ => Gd.val (R := fun ι H => Paired (Rw X.K ι H)) g2 st2 (.cons (r1.mono s2) r2)⟩⟩
theorem dl_of {K : PySem.W.Frag} {ι : Io} {H : Hp} : ∀ {ws : List W} {vs : List V} {ds : List PyData}, Paired (Rw K ι H) ws vs → datsW ws = some ds → Dl K ι H vs ds
  | _, _, _, .nil, e => by cases e; exact .nil
  | .dat d :: r, _, _, .cons a b, e => by
    have e' : (datsW r).map (d :: ·) = some _ := e
    cases hr : datsW r with
    | none => rw [hr] at e'; cases e'
    | some es =>
      rw [hr] at e'
      have e2 := Option.some.inj e'
      subst e2
      exact .cons a (dl_of b hr)
  | .ref i :: r, _, _, .cons a b, e => by cases e
  | .scr i :: r, _, _, .cons a b, e => by cases e
theorem b_tup {x1} (h : PA X es (bA X.K cl Wx ml)) : PE X (.Tuple es x1 pos) (bE X.K cl Wx (mTup ml)) :=
  pe_to (pe_tup h) fun σ H Q ⟨ι, S, ρ, st, en, g⟩ => ⟨ι, S, ρ, st, en, (Gd.bind (R := fun ι H => Paired (Rw X.K ι H)) g).imp fun xs H1 ⟨ι1, S1, w1, s1, st1, r1, g1⟩ => by
    split at g1
    · rename_i ds e
      split at g1
      · rename_i hl
        have d := dl_of r1 e
        exact ⟨by rw [d.length]; exact hl, Gd.tup g1 st1 d⟩
      · exact g1.elim
    · exact g1.elim⟩
theorem b_lst (h : PA X es (bA X.K cl Wx ml)) : PE X (.List es pos) (bL X.K cl Wx (mLst ml)) :=
  pe_to (pe_lst h) fun σ H Q ⟨ι, S, ρ, st, en, g⟩ => ⟨ι, S, ρ, st, en, (Gd.bindL (R := fun ι H => Paired (Rw X.K ι H)) g).imp fun xs H1 ⟨ι1, S1, w1, s1, st1, r1, g1⟩ => by
    split at g1
    · rename_i ds e
      split at g1
      · rename_i hl
        have d := dl_of r1 e
        exact ⟨by rw [d.length]; exact hl, fun p hp => g1.at st1 hp d⟩
      · exact g1.elim
    · exact g1.elim⟩
theorem b_dic0 : PE X (.Dict [] [] pos) (bE X.K cl Wx mDic0) := pe_to pe_dnewK fun σ H Q ⟨ι, S, ρ, st, en, g⟩ => fun d hd => g ι _ _ (step_new hd _) (st.new hd _) (.dic upd_same (live_ne st hd) .nil)
theorem b_ofL {m : ML} (h : PE X e (bL X.K cl Wx m)) : PE X e (bE X.K cl Wx (mOfL m)) := pe_to h fun σ H Q ⟨ι, S, ρ, st, en, g⟩ => ⟨ι, S, ρ, st, en, by
  unfold mOfL at g
  cases hm : m ρ S with
  | ok ds S1 =>
    rw [hm] at g
    exact fun ι1 H1 p xs s1 st1 hp d => g ι1 _ _ (s1.trans (step_new hp _)) (st1.new hp _) (new_lst st1 d hp)
  | exc c S1 => rw [hm] at g; exact g
  | stuck => rw [hm] at g; exact g⟩
theorem b_new {m : ML} (h : PE X e (bL X.K cl Wx m)) : PE X e (bE X.K cl Wx (mNew m)) := pe_to h fun σ H Q ⟨ι, S, ρ, st, en, g⟩ => ⟨ι, S, ρ, st, en, by
  unfold mNew at g
  cases hm : m ρ S with
  | ok ds S1 =>
    rw [hm] at g
    intro ι1 H1 p xs s1 st1 hp d
    refine g (ι1.push p) _ _ (s1.trans (push_step st1 hp _)) (st1.push hp (o := .lst ds) d (fun z => by cases z)) ⟨by simp [Io.push, st1.len], fun a e => ?_⟩
    have e' : (ι1.tab ++ [some p])[S1.length]? = some (some a) := e
    exact congrArg V.ref (tab_last (by rw [st1.len]; exact Nat.lt_irrefl _) e').2
  | exc c S1 => rw [hm] at g; exact g
  | stuck => rw [hm] at g; exact g⟩
theorem b_frz (h : PE X e (bE X.K cl Wx m)) : PE X e (bE X.K cl Wx (mFrz m)) := pe_to h fun σ H Q ⟨ι, S, ρ, st, en, g⟩ => ⟨ι, S, ρ, st, en, by
  unfold mFrz at g
  cases hm : m ρ S with
  | ok w S1 =>
    rw [hm] at g
    intro ι1 H1 v s1 st1 r1
    cases w with
    | ref i =>
      have g' : Gd X.K cl ι H (Rw X.K) (match S1[i]? with | some (.lst ds) => Res.ok (W.dat (.list ds)) (S1.set i .dead) | _ => .stuck) Q (exA Wx σ) := g
      split at g'
      · rename_i ds e
        obtain ⟨a, ho, e1, e2, ro⟩ := st1.obj i _ e (fun z => by cases z)
        cases ho <;> first | exact False.elim ro | skip
        have hv := r1.2 a e1
        subst hv
        have hl : i < S1.length := (List.getElem?_eq_some_iff.mp e).1
        exact g' (ι1.kill i) H1 _ (s1.trans (kill_step i)) (st1.kill i hl) (.lst e2 (kill_cold st1 e1) (Dl.mono (kill_step i) ro))
      · exact g'.elim
    | dat d => exact g ι1 H1 v s1 st1 r1
    | scr d => exact g ι1 H1 v s1 st1 r1
  | exc c S1 => rw [hm] at g; exact g
  | stuck => rw [hm] at g; exact g⟩

/-! ### builtins by name -/
theorem b_calB {x : Str} {id : String} {r : List V → Hp → VK → Prop} {f : FN} (hc : CallR X (.builtin id) r) (hs : SoN X.K cl r f) (hg : Gl X x) (hm : X.mg x = none) (hv : bootBuiltins x = some (.builtin id)) (ha : PA X (e :: es) (bA X.K cl Wx ml)) (hn : x ≠ "__name__" := by decide) (hdb : (x == ("__debug__" : Str)) = false := by decide)
    (he : starEach (e :: es) X.env = (false, eval e X.env) :: starEach es X.env := by rfl) (hpl : (backTo pos (starEach es X.env)).any (·.1) = false := by rfl) : PE X (.Call (.Name x p) (e :: es) [] pos) (bE X.K cl Wx (mCal f ml)) :=
  pe_to (pe_callB hc hg hm hv ha hn hdb he hpl) fun σ H Q ⟨ι, S, ρ, st, en, g⟩ => ⟨ι, S, ρ, st, en, (Gd.bind (R := fun ι H => Paired (Rw X.K ι H)) g).imp fun xs H1 ⟨ι1, S1, w1, s1, st1, r1, g1⟩ => hs ι1 S1 H1 w1 xs Q _ st1 r1 g1⟩
theorem b_calT {x : Str} {T : String} {r : List V → Hp → VK → Prop} {f : FN} (hc : CallR X (.type T) r) (hs : SoN X.K cl r f) (hg : Gl X x) (hm : X.mg x = none) (hv : bootBuiltins x = some (.type T)) (ha : PA X (e :: es) (bA X.K cl Wx ml)) (hn : x ≠ "__name__" := by decide) (hdb : (x == ("__debug__" : Str)) = false := by decide)
    (he : starEach (e :: es) X.env = (false, eval e X.env) :: starEach es X.env := by rfl) (hpl : (backTo pos (starEach es X.env)).any (·.1) = false := by rfl) : PE X (.Call (.Name x p) (e :: es) [] pos) (bE X.K cl Wx (mCal f ml)) :=
  pe_to (pe_callTy hc hg hm hv ha hn hdb he hpl) fun σ H Q ⟨ι, S, ρ, st, en, g⟩ => ⟨ι, S, ρ, st, en, (Gd.bind (R := fun ι H => Paired (Rw X.K ι H)) g).imp fun xs H1 ⟨ι1, S1, w1, s1, st1, r1, g1⟩ => hs ι1 S1 H1 w1 xs Q _ st1 r1 g1⟩
theorem b_calTL {x : Str} {T : String} {r : List V → Hp → VK → Prop} {f : FL} (hc : CallR X (.type T) r) (hs : SoL X.K cl r f) (hg : Gl X x) (hm : X.mg x = none) (hv : bootBuiltins x = some (.type T)) (ha : PA X (e :: es) (bA X.K cl Wx ml)) (hn : x ≠ "__name__" := by decide) (hdb : (x == ("__debug__" : Str)) = false := by decide)
    (he : starEach (e :: es) X.env = (false, eval e X.env) :: starEach es X.env := by rfl) (hpl : (backTo pos (starEach es X.env)).any (·.1) = false := by rfl) : PE X (.Call (.Name x p) (e :: es) [] pos) (bL X.K cl Wx (mCalL f ml)) :=
  pe_to (pe_callTy hc hg hm hv ha hn hdb he hpl) fun σ H Q ⟨ι, S, ρ, st, en, g⟩ => ⟨ι, S, ρ, st, en, (Gd.bindL (R := fun ι H => Paired (Rw X.K ι H)) g).imp fun xs H1 ⟨ι1, S1, w1, s1, st1, r1, g1⟩ => hs ι1 S1 H1 w1 xs Q _ st1 r1 g1⟩
end

/-! ### isinstance by a built-in class -/
theorem tyx_dv {K : PySem.W.Frag} {ι : Io} {H : Hp} {v : V} {d : PyData} (h : Dv K ι H v d) : TyX K H v (.type (tyD d)) := by
  cases h with
  | non => exact .base .non
  | bl b => exact .base (.bl b)
  | int i => exact .base (.int i)
  | str x => exact .base (.str x)
  | lst h _ _ => exact .base (.lst h)
  | tup h _ =>
    rcases h with ⟨h | ⟨o, h⟩, _⟩ | ⟨o, its, n, h1, h2, _⟩
    · exact .base (.tup h)
    · exact .fTuple h
    · exact .kTuple h1 h2
  | dic h _ _ => exact .base (.dK h)
section
variable {X : Cx} {cl : Nat → Addr} {Wx : Wi} {e t a : Expr} {m ma : ME} {pos p : Pos} {T : String}
theorem b_is (hg : Gl X "isinstance") (hm : X.mg "isinstance" = none) (ha : PE X e (bE X.K cl Wx m)) (ht : PE X t (tC (.ty T))) (he : starEach [e, t] X.env = (false, eval e X.env) :: starEach [t] X.env := by rfl) (he2 : starEach [t] X.env = (false, eval t X.env) :: starEach [] X.env := by rfl)
    (hpl : (backTo pos (starEach [t] X.env)).any (·.1) = false := by rfl) : PE X (.Call (.Name "isinstance" p) [e, t] [] pos) (bE X.K cl Wx (mIs T m)) :=
  pe_to (pe_callB call_isi hg hm (by decide +kernel) (pa_cons ha (pa_cons ht pa_nil he2) he) (by decide) (by decide) he hpl) fun σ H Q ⟨ι, S, ρ, st, en, g⟩ => ⟨ι, S, ρ, st, en, (Gd.bind (R := Rw X.K) g).imp fun x H1 ⟨ι1, S1, w1, s1, st1, r1, g1⟩ => by
    split at g1
    · rename_i d hd
      obtain ⟨b, hb, g2⟩ := gd_ofO (o := isD T d) g1
      have ty : TyX X.K H1 x (.type (tyD d)) := by
        rcases rd_of st1 r1 hd with h1 | ⟨ds, p, xs, rfl, rfl, h1, _⟩
        · exact tyx_dv h1
        · exact .base (.lst h1)
      exact ⟨x, .ty T, _, _, b, rfl, .ty T, ty, kit_ty hb, Gd.val (R := Rw X.K) g2 st1 (.bl b)⟩
    · exact g1.elim⟩

/-! ### slices -/
theorem po_to {o : Option Expr} {t t' : TO} (h : PO X o t) (f : ∀ σ H Q, t' σ H Q → t σ H Q) : PO X o t' := ⟨fun pins s σ H Q I q => h.run pins s σ H Q I (f _ _ _ q)⟩
theorem b_noP : PO X none (bO X.K cl Wx mNoP) := po_to po_none fun σ H Q ⟨ι, S, ρ, st, en, g⟩ => Gd.val (R := fun _ _ a b => a = b) g st rfl
theorem b_part (h : PE X e (bE X.K cl Wx m)) : PO X (some e) (bO X.K cl Wx (mPart m)) := po_to (po_some h) fun σ H Q ⟨ι, S, ρ, st, en, g⟩ => ⟨ι, S, ρ, st, en, (Gd.bind (R := Rw X.K) g).imp fun x H1 ⟨ι1, S1, w1, s1, st1, r1, g1⟩ => by
  cases w1 with
  | dat d =>
    cases d <;> first | exact g1.elim | skip
    cases r1
    exact ⟨_, rfl, Gd.val (R := fun _ _ a b => a = b) g1 st1 rfl⟩
  | ref i => exact g1.elim
  | scr i => exact g1.elim⟩
def rSlU (K : PySem.W.Frag) : V → Option Int → Option Int → Hp → VK → Prop := fun x lo hi H Q => rSlL K x lo hi H Q ∨ (rSlA K x lo hi H Q ∨ rSlS x lo hi H Q)
theorem sl_U : SlR X (rSlU X.K) := SlR.or sl_list (SlR.or sl_tupA sl_str)
theorem dl_ints {K : PySem.W.Frag} {ι : Io} {H : Hp} : ∀ ns : List Int, Dl K ι H (ns.map V.int) (ns.map PyData.int)
  | [] => .nil
  | n :: r => .cons (.int n) (dl_ints r)
theorem cut_full {α : Type} (xs : List α) {lo hi : Option Int} (h : HT.sIx xs.length 0 lo = 0 ∧ HT.sIx xs.length xs.length hi = xs.length) : cutD xs lo hi = xs := by
  unfold cutD
  rw [h.1, h.2]
  simp
theorem b_sl {lo hi : Option Expr} {ml mh : MO} {p2 : Pos} (he : PE X e (bE X.K cl Wx m)) (hl : PO X lo (bO X.K cl Wx ml)) (hu : PO X hi (bO X.K cl Wx mh)) : PE X (.Subscript e (.Slice lo hi none p2) pos) (bE X.K cl Wx (mSl m ml mh)) :=
  pe_to (pe_slice sl_U he hl hu) fun σ H Q ⟨ι, S, ρ, st, en, g⟩ => ⟨ι, S, ρ, st, en, (Gd.bind (R := Rw X.K) g).imp fun x H1 ⟨ι1, S1, w1, s1, st1, r1, g1⟩ =>
    ⟨ι1, S1, ρ, st1, en.mono s1, (Gd.bind (R := fun _ _ a b => a = b) g1).imp fun l H2 ⟨ι2, S2, w2, s2, st2, r2, g2⟩ =>
    ⟨ι2, S2, ρ, st2, en.mono (s1.trans s2), (Gd.bind (R := fun _ _ a b => a = b) g2).imp fun u H3 ⟨ι3, S3, w3, s3, st3, r3, g3⟩ => by
      subst r2 r3
      obtain ⟨z, hz, g4⟩ := gd_ofO (o := slW w1 w2 w3) g3
      have r4 := r1.mono (s2.trans s3)
      cases w1 with
      | dat d =>
        cases d with
        | none => cases hz
        | bool b => cases hz
        | int b => cases hz
        | dict b => cases hz
        | str sx =>
          cases r4
          have hz' : (if sx.length ≤ sizeLine then some (PyData.str (cutS sx w2 w3)) else none) = some z := hz
          split at hz'
          · rename_i hlen
            have e := Option.some.inj hz'
            subst e
            exact .inr (.inr ⟨sx, rfl, hlen, Gd.val (R := Rw X.K) g4 st3 (.str _)⟩)
          · cases hz'
        | list ds =>
          have e := Option.some.inj hz
          subst e
          obtain ⟨a, xs, rfl, h1, _, h3⟩ := dv_lst r4
          exact .inl ⟨a, xs, rfl, .inl (.inl h1), Gd.lst g4 st3 (h3.cut w2 w3)⟩
        | tuple ds =>
          have e := Option.some.inj hz
          subst e
          obtain ⟨a, xs, rfl, h1, h3⟩ := dv_tup r4
          refine .inr (.inl ⟨a, xs, rfl, h1.sq, fun hf => ?_, fun _ => Gd.tup g4 st3 (h3.cut w2 w3)⟩)
          rw [h3.length] at hf
          rw [cut_full ds hf] at g4
          exact Gd.val (R := Rw X.K) g4 st3 (.tup h1 h3)
      | ref i => cases hz
      | scr ns =>
        have e := Option.some.inj hz
        subst e
        obtain ⟨a, rfl, h1⟩ := r4
        exact .inl ⟨a, _, rfl, h1.sq, Gd.lst g4 st3 ((dl_ints ns).cut w2 w3)⟩⟩⟩⟩
end
end Sm

set_option Elab.async false
set_option linter.all false
set_option maxRecDepth 100000
set_option maxHeartbeats 2000000
/-! Sm4: what builtins do on data; loops, comprehensions. -/
namespace Sm
open PySem L2

/-! ### builtins -/
def fLen : FN := fun ws S => match ws with
  | [w] => match getW S w with
    | some d => ofO (lenD d) (fun n => .dat (.int n)) S
    | none => .stuck
  | _ => .stuck
def boolsD : List PyData → Option (List Bool)
  | [] => some []
  | .bool b :: r => (boolsD r).map (b :: ·)
  | _ :: _ => none
def intsD : List PyData → Option (List Int)
  | [] => some []
  | .int b :: r => (intsD r).map (b :: ·)
  | _ :: _ => none
def fAll : FN := fun ws S => match ws with
  | [.dat (.list ds)] => ofO (boolsD ds) (fun bs => .dat (.bool (bs.all id))) S
  | _ => .stuck
def fAny : FN := fun ws S => match ws with
  | [.dat (.list ds)] => ofO (boolsD ds) (fun bs => .dat (.bool (bs.any id))) S
  | _ => .stuck
def fSum : FN := fun ws S => match ws with
  | [.dat (.list ds)] => ofO (intsD ds) (fun bs => .dat (.int bs.sum)) S
  | _ => .stuck
def fMax2 : FN := fun ws S => match ws with
  | [.dat (.int i), .dat (.int j)] => .ok (.dat (.int (if j > i then j else i))) S
  | _ => .stuck
def fMin2 : FN := fun ws S => match ws with
  | [.dat (.int i), .dat (.int j)] => .ok (.dat (.int (if j < i then j else i))) S
  | _ => .stuck
def fAbs : FN := fun ws S => match ws with
  | [.dat (.int i)] => .ok (.dat (.int (if i < 0 then -i else i))) S
  | _ => .stuck
def fInt : FN := fun ws S => match ws with
  | [.dat (.int i)] => .ok (.dat (.int i)) S
  | [.dat (.bool b)] => .ok (.dat (.int (if b then 1 else 0))) S
  | _ => .stuck
def fList : FL := fun ws S => match ws with
  | [w] => match getW S w with
    | some d => ofO (itemsD d) id S
    | none => .stuck
  | _ => .stuck
def fTuple : FN := fun ws S => match ws with
  | [.dat (.list ds)] => .ok (.dat (.tuple ds)) S
  | [.dat (.tuple ds)] => .ok (.dat (.tuple ds)) S
  | _ => .stuck

section
variable {K : PySem.W.Frag} {cl : Nat → Addr} {ι ι' : Io} {H H' : Hp} {S : SS} {Q : VK} {E : XK}
theorem pd1 {w : W} {vs : List V} (r : Paired (Rw K ι H) [w] vs) : ∃ v, vs = [v] ∧ Rw K ι H w v := by
  cases r with
  | cons a b => cases b; exact ⟨_, rfl, a⟩
theorem pd2 {w u : W} {vs : List V} (r : Paired (Rw K ι H) [w, u] vs) : ∃ v x, vs = [v, x] ∧ Rw K ι H w v ∧ Rw K ι H u x := by
  cases r with
  | cons a b => cases b with
    | cons c d => cases d; exact ⟨_, _, rfl, a, c⟩
theorem dl_bools : ∀ {ds : List PyData} {vs : List V} {bs : List Bool}, Dl K ι H vs ds → boolsD ds = some bs → vs = bs.map V.bl
  | _, _, _, .nil, e => by cases e; rfl
  | d :: r, _, _, .cons a b, e => by
    cases d <;> first | (cases e; done) | skip
    rename_i c
    have e' : (boolsD r).map (c :: ·) = some _ := e
    cases hr : boolsD r with
    | none => rw [hr] at e'; cases e'
    | some es =>
      rw [hr] at e'
      have e2 := Option.some.inj e'
      subst e2
      cases a
      rw [dl_bools b hr]
      rfl
theorem dl_intsD : ∀ {ds : List PyData} {vs : List V} {bs : List Int}, Dl K ι H vs ds → intsD ds = some bs → vs = bs.map V.int
  | _, _, _, .nil, e => by cases e; rfl
  | d :: r, _, _, .cons a b, e => by
    cases d <;> first | (cases e; done) | skip
    rename_i c
    have e' : (intsD r).map (c :: ·) = some _ := e
    cases hr : intsD r with
    | none => rw [hr] at e'; cases e'
    | some es =>
      rw [hr] at e'
      have e2 := Option.some.inj e'
      subst e2
      cases a
      rw [dl_intsD b hr]
      rfl
theorem so_len : SoN K cl (fun xs H Q => ∃ x n, xs = [x] ∧ LenV K x H n ∧ Q (.int n) H) fLen := fun ι S H ws vs Q E st r g => by
  unfold fLen at g
  split at g
  · rename_i w
    split at g
    · rename_i d hd
      obtain ⟨v, rfl, rw⟩ := pd1 r
      obtain ⟨n, hn, g2⟩ := gd_ofO (o := lenD d) g
      unfold lenD at hn
      split at hn
      · rename_i x
        split at hn
        · rename_i hl
          have e := Option.some.inj hn
          subst e
          have e2 := dat_of st rw hd (fun _ z => by cases z)
          cases e2
          exact ⟨_, x.length, rfl, ⟨hl, rfl⟩, Gd.val (R := Rw K) g2 st (.int _)⟩
        · cases hn
      · rename_i xs
        have e := Option.some.inj hn
        subst e
        obtain ⟨p, ys, rfl, e2, e3⟩ := seq_of st rw hd
        refine ⟨_, xs.length, rfl, .inl ⟨ys, .inl (.inl e2), e3.length.symm⟩, Gd.val (R := Rw K) g2 st (.int _)⟩
      · rename_i xs
        have e := Option.some.inj hn
        subst e
        have e2 := dat_of st rw hd (fun _ z => by cases z)
        obtain ⟨p, ys, rfl, e2, e3⟩ := dv_tup e2
        refine ⟨_, xs.length, rfl, .inr ⟨ys, e2.sq, e3.length.symm⟩, Gd.val (R := Rw K) g2 st (.int _)⟩
      · cases hn
    · exact g.elim
  · exact g.elim
theorem so_all : SoN K cl (rAll K) fAll := fun ι S H ws vs Q E st r g => by
  unfold fAll at g
  split at g
  · rename_i ds
    obtain ⟨bs, hb, g2⟩ := gd_ofO (o := boolsD ds) g
    obtain ⟨v, rfl, rw⟩ := pd1 r
    obtain ⟨a, xs, rfl, h1, _, h3⟩ := dv_lst rw
    have e := dl_bools h3 hb
    subst e
    exact ⟨a, bs, rfl, .inl (.inl h1), Gd.val (R := Rw K) g2 st (.bl _)⟩
  · exact g.elim
theorem so_any : SoN K cl (rAny K) fAny := fun ι S H ws vs Q E st r g => by
  unfold fAny at g
  split at g
  · rename_i ds
    obtain ⟨bs, hb, g2⟩ := gd_ofO (o := boolsD ds) g
    obtain ⟨v, rfl, rw⟩ := pd1 r
    obtain ⟨a, xs, rfl, h1, _, h3⟩ := dv_lst rw
    have e := dl_bools h3 hb
    subst e
    exact ⟨a, bs, rfl, .inl (.inl h1), Gd.val (R := Rw K) g2 st (.bl _)⟩
  · exact g.elim
theorem so_sum : SoN K cl (rSum K) fSum := fun ι S H ws vs Q E st r g => by
  unfold fSum at g
  split at g
  · rename_i ds
    obtain ⟨bs, hb, g2⟩ := gd_ofO (o := intsD ds) g
    obtain ⟨v, rfl, rw⟩ := pd1 r
    obtain ⟨a, xs, rfl, h1, _, h3⟩ := dv_lst rw
    have e := dl_intsD h3 hb
    subst e
    exact ⟨a, bs, rfl, .inl (.inl h1), Gd.val (R := Rw K) g2 st (.int _)⟩
  · exact g.elim
theorem so_max2 : SoN K cl (fun xs H Q => ∃ i j, xs = [.int i, .int j] ∧ Q (.int (if j > i then j else i)) H) fMax2 := fun ι S H ws vs Q E st r g => by
  unfold fMax2 at g
  split at g
  · obtain ⟨v, x, rfl, r1, r2⟩ := pd2 r
    cases r1; cases r2
    exact ⟨_, _, rfl, Gd.val (R := Rw K) g st (.int _)⟩
  · exact g.elim
theorem so_min2 : SoN K cl (fun xs H Q => ∃ i j, xs = [.int i, .int j] ∧ Q (.int (if j < i then j else i)) H) fMin2 := fun ι S H ws vs Q E st r g => by
  unfold fMin2 at g
  split at g
  · obtain ⟨v, x, rfl, r1, r2⟩ := pd2 r
    cases r1; cases r2
    exact ⟨_, _, rfl, Gd.val (R := Rw K) g st (.int _)⟩
  · exact g.elim
theorem so_abs : SoN K cl (fun xs H Q => ∃ i, xs = [.int i] ∧ Q (.int (if i < 0 then -i else i)) H) fAbs := fun ι S H ws vs Q E st r g => by
  unfold fAbs at g
  split at g
  · obtain ⟨v, rfl, r1⟩ := pd1 r
    cases r1
    exact ⟨_, rfl, Gd.val (R := Rw K) g st (.int _)⟩
  · exact g.elim
theorem so_int : SoN K cl (fun xs H Q => (∃ i, xs = [.int i] ∧ Q (.int i) H) ∨ ∃ k, xs = [.bl k] ∧ Q (.int (if k then 1 else 0)) H) fInt := fun ι S H ws vs Q E st r g => by
  unfold fInt at g
  split at g
  · obtain ⟨v, rfl, r1⟩ := pd1 r
    cases r1
    exact .inl ⟨_, rfl, Gd.val (R := Rw K) g st (.int _)⟩
  · obtain ⟨v, rfl, r1⟩ := pd1 r
    cases r1
    exact .inr ⟨_, rfl, Gd.val (R := Rw K) g st (.int _)⟩
  · exact g.elim
theorem so_list : SoL K cl (fun xs H Q => ∃ p ys, xs = [.ref p] ∧ (SqL K H p ys ∨ SqT K H p ys) ∧ ∀ l, H l = none → Q (.ref l) (upd H l (.lst ys))) fList := fun ι S H ws vs Q E st r g => by
  unfold fList at g
  split at g
  · rename_i w
    split at g
    · rename_i d hd
      obtain ⟨v, rfl, rw⟩ := pd1 r
      obtain ⟨ds, hs, g2⟩ := GL.ofO (o := itemsD d) g
      unfold itemsD at hs
      split at hs
      · have e := Option.some.inj hs
        subst e
        obtain ⟨p, ys, rfl, e2, e3⟩ := seq_of st rw hd
        exact ⟨p, ys, rfl, .inl (.inl (.inl e2)), fun l hl => GL.at g2 st hl e3⟩
      · have e := Option.some.inj hs
        subst e
        have e2 := dat_of st rw hd (fun _ z => by cases z)
        obtain ⟨p, ys, rfl, e2, e3⟩ := dv_tup e2
        exact ⟨p, ys, rfl, .inr e2.sq, fun l hl => GL.at g2 st hl e3⟩
      · cases hs
    · exact g.elim
  · exact g.elim
theorem so_tuple : SoN K cl (fun xs H Q => ∃ p ys, xs = [.ref p] ∧ ((SqL K H p ys ∧ ∀ l, H l = none → Q (.ref l) (upd H l (.tup ys))) ∨ (SqT K H p ys ∧ Q (.ref p) H))) fTuple := fun ι S H ws vs Q E st r g => by
  unfold fTuple at g
  split at g
  · obtain ⟨v, rfl, rw⟩ := pd1 r
    obtain ⟨a, xs, rfl, h1, _, h3⟩ := dv_lst rw
    exact ⟨a, xs, rfl, .inl ⟨.inl (.inl h1), Gd.tup g st h3⟩⟩
  · obtain ⟨v, rfl, rw⟩ := pd1 r
    obtain ⟨a, xs, rfl, h1, h3⟩ := dv_tup rw
    exact ⟨a, xs, rfl, .inr ⟨h1.sq, Gd.val (R := Rw K) g st rw⟩⟩
  · exact g.elim
end

/-! ### what is walked -/
structure Walks (K : PySem.W.Frag) (ι : Io) (H : Hp) (ds : List PyData) (J : It) : Prop where
  stop : ∀ (ι' : Io) (H' : Hp) (S' : SS), Mo ι H ι' H' → StOk K ι' S' H' → ∀ i : Nat, ds.length ≤ i → J.stop i H'
  go : ∀ (ι' : Io) (H' : Hp) (S' : SS), Mo ι H ι' H' → StOk K ι' S' H' → ∀ i : Nat, i < ds.length → J.go i H'
  yld : ∀ (ι' : Io) (H' : Hp) (S' : SS), Mo ι H ι' H' → StOk K ι' S' H' → ∀ (i : Nat) (v : V) (H'' : Hp), i < ds.length → J.yld i H' v H'' → ∃ d, ds[i]? = some d ∧ Step ι' H' ι' H'' ∧ StOk K ι' S' H'' ∧ Dv K ι' H'' v d
section
variable {K : PySem.W.Frag} {ι : Io} {H : Hp}
theorem walks_lst {a : Addr} {xs : List V} {ds : List PyData} (h : H a = some (.lst xs)) (n : ¬ live ι a) (d : Dl K ι H xs ds) : Walks K ι H ds (Itl K a) := by
  refine ⟨fun ι' H' S' m st i hi => ⟨xs, .inl (.inl (m.go a _ h n).1), by rw [d.length]; exact hi⟩, fun ι' H' S' m st i hi => ?_, fun ι' H' S' m st i v H'' hi ⟨e, y⟩ => ?_⟩
  · have hi' : i < xs.length := by rw [d.length]; exact hi
    exact ⟨xs, xs[i], .inl (.inl (m.go a _ h n).1), List.getElem?_eq_getElem hi'⟩
  · subst e
    obtain ⟨z, h1, h2⟩ := (d.mo m).get' i v (y xs (.inl (.inl (m.go a _ h n).1)))
    exact ⟨z, h1, Step.refl _ _, st, h2⟩
theorem walks_tup {a : Addr} {xs : List V} {ds : List PyData} (h : SqN K ι H a xs) (d : Dl K ι H xs ds) : Walks K ι H ds (Itt K a) := by
  refine ⟨fun ι' H' S' m st i hi => ⟨xs, (h.mo m).sq, by rw [d.length]; exact hi⟩, fun ι' H' S' m st i hi => ?_, fun ι' H' S' m st i v H'' hi ⟨e, y⟩ => ?_⟩
  · have hi' : i < xs.length := by rw [d.length]; exact hi
    exact ⟨xs, xs[i], (h.mo m).sq, List.getElem?_eq_getElem hi'⟩
  · subst e
    obtain ⟨z, h1, h2⟩ := (d.mo m).get' i v (y xs (h.mo m).sq)
    exact ⟨z, h1, Step.refl _ _, st, h2⟩
def signsD (x : Str) : List PyData := x.cps.toList.map fun c => .str ⟨#[c]⟩
theorem walks_str (x : Str) : Walks K ι H (signsD x) (Its x) := by
  have hl : (signsD x).length = x.cps.size := by unfold signsD; rw [List.length_map, Array.length_toList]
  refine ⟨fun ι' H' S' m st i hi => by rw [hl] at hi; exact hi, fun ι' H' S' m st i hi => by rw [hl] at hi; exact hi, fun ι' H' S' m st i v H'' hi ⟨e, c, hc, y⟩ => ?_⟩
  subst e y
  refine ⟨.str ⟨#[c]⟩, ?_, Step.refl _ _, st, .str _⟩
  unfold signsD
  rw [List.getElem?_map, Array.getElem?_toList, hc]
  rfl
def rangeD (lo c : Int) (n : Nat) : List PyData := (List.range n).map fun i : Nat => .int (lo + (i : Int) * c)
theorem range_get {lo c : Int} {n i : Nat} (h : i < n) : (rangeD lo c n)[i]? = some (.int (lo + (i : Int) * c)) := by
  unfold rangeD
  rw [List.getElem?_map, List.getElem?_range h]
  rfl
theorem walks_rng (lo : Int) (n : Nat) : Walks K ι H (rangeD lo 1 n) (Itr lo n) := by
  have hl : (rangeD lo 1 n).length = n := by simp [rangeD]
  refine ⟨fun ι' H' S' m st i hi => by rw [hl] at hi; exact hi, fun ι' H' S' m st i hi => by rw [hl] at hi; exact hi, fun ι' H' S' m st i v H'' hi ⟨e, y⟩ => ?_⟩
  subst e y
  rw [hl] at hi
  refine ⟨.int (lo + i), ?_, Step.refl _ _, st, .int _⟩
  rw [range_get hi, Int.mul_one]
theorem walks_rngC (lo c : Int) (n : Nat) : Walks K ι H (rangeD lo c n) (Itc lo c n) := by
  have hl : (rangeD lo c n).length = n := by simp [rangeD]
  refine ⟨fun ι' H' S' m st i hi => by rw [hl] at hi; exact hi, fun ι' H' S' m st i hi => by rw [hl] at hi; exact hi, fun ι' H' S' m st i v H'' hi ⟨e, y⟩ => ?_⟩
  subst e y
  rw [hl] at hi
  exact ⟨_, range_get hi, Step.refl _ _, st, .int _⟩
end
abbrev MI := En → SS → Res (List PyData)
section
variable (K : PySem.W.Frag) (cl : Nat → Addr) (Wx : Wi)
def bI (m : MI) : TI := fun σ H R => ∃ ι S ρ, StOk K ι S H ∧ EnvR K Wx.p ι H ρ σ ∧ Gd K cl ι H (Walks K) (m ρ S) (fun J H' => R J H') (exA Wx σ)
end
def itemsI : PyData → Option (List PyData)
  | .list xs => some xs
  | .tuple xs => some xs
  | .str x => some (signsD x)
  | _ => none
def itW (w : W) (S : SS) : Res (List PyData) := match w with
  | .dat d => ofO (itemsI d) id S
  | _ => .stuck
def mIter (a : ME) : MI := fun ρ S => (a ρ S).bind itW
def small62 (i : Int) : Bool := decide (-(2 ^ 62) ≤ i) && decide (i < 2 ^ 62)
def rngSize (i j c : Int) : Nat := (Builtin.Range.rangeSize i j c).toNat
def mRng1 (a : MA) : MI := fun ρ S => (a ρ S).bind fun ws S => match ws with
  | [.dat (.int j)] => if small62 j then .ok (rangeD 0 1 j.toNat) S else .stuck
  | _ => .stuck
def mRng2 (a : MA) : MI := fun ρ S => (a ρ S).bind fun ws S => match ws with
  | [.dat (.int i), .dat (.int j)] => if small62 i && small62 j then .ok (rangeD i 1 (j - i).toNat) S else .stuck
  | _ => .stuck
def mRng3 (a : MA) : MI := fun ρ S => (a ρ S).bind fun ws S => match ws with
  | [.dat (.int i), .dat (.int j), .dat (.int c)] => if c ≠ 0 ∧ c.natAbs < 1073741824 ∧ Builtin.Range.small i j c = true then .ok (rangeD i c (Builtin.Range.rangeSize i j c).toNat) S else .stuck
  | _ => .stuck
theorem small62_of {i : Int} (h : small62 i = true) : -(2 ^ 62) ≤ i ∧ i < 2 ^ 62 := by
  unfold small62 at h
  rw [Bool.and_eq_true, decide_eq_true_eq, decide_eq_true_eq] at h
  exact h
section
variable {X : Cx} {cl : Nat → Addr} {Wx : Wi} {tg e a b c : Expr} {es : List Expr} {m : ME} {ml : MA} {pos p : Pos}
theorem pi_to {t t' : TI} (h : PI X tg e t) (f : ∀ σ H R, t' σ H R → t σ H R) : PI X tg e t' := ⟨fun pins s σ H R I q => h.run pins s σ H R I (f _ _ _ q)⟩
theorem pi_or {t t' : TI} (h : PI X tg e t) (h' : PI X tg e t') : PI X tg e (fun σ H R => t σ H R ∨ t' σ H R) := ⟨fun pins s σ H R I q => by
  rcases q with q | q
  · exact h.run pins s σ H R I q
  · exact h'.run pins s σ H R I q⟩
theorem b_iter (h : PE X e (bE X.K cl Wx m)) : PI X tg e (bI X.K cl Wx (mIter m)) :=
  pi_to (pi_or (pi_list h) (pi_or (pi_tup h) (pi_str h))) fun σ H R ⟨ι, S, ρ, st, en, g⟩ => by
    unfold mIter at g
    cases hm : m ρ S with
    | ok w S1 =>
      rw [hm] at g
      have g1 : Gd X.K cl ι H (Walks X.K) (itW w S1) (fun J H' => R J H') (exA Wx σ) := g
      cases w with
      | ref i => exact g1.elim
      | scr i => exact g1.elim
      | dat d =>
        cases d <;> first | exact g1.elim | skip
        · refine .inr (.inr ⟨ι, S, ρ, st, en, ?_⟩)
          rw [hm]
          exact fun ι1 H1 v s1 st1 r1 => by
            cases r1
            exact ⟨_, rfl, g1 ι1 H1 _ s1 st1 (walks_str _)⟩
        · refine .inl ⟨ι, S, ρ, st, en, ?_⟩
          rw [hm]
          exact fun ι1 H1 v s1 st1 r1 => by
            obtain ⟨a, xs, rfl, h1, h2, h3⟩ := dv_lst r1
            exact ⟨a, rfl, ⟨xs, .inl (.inl h1)⟩, g1 ι1 H1 _ s1 st1 (walks_lst h1 h2 h3)⟩
        · refine .inr (.inl ⟨ι, S, ρ, st, en, ?_⟩)
          rw [hm]
          exact fun ι1 H1 v s1 st1 r1 => by
            obtain ⟨a, xs, rfl, h1, h3⟩ := dv_tup r1
            exact ⟨a, rfl, ⟨xs, h1.sq⟩, g1 ι1 H1 _ s1 st1 (walks_tup h1 h3)⟩
    | exc c S1 =>
      rw [hm] at g
      refine .inl ⟨ι, S, ρ, st, en, ?_⟩
      rw [hm]
      exact g
    | stuck => rw [hm] at g; exact g.elim
theorem b_rng1 (hg : Gl X "range") (hm : X.mg "range" = none) (ha : PA X [a] (bA X.K cl Wx ml)) (hs : starEach [a] X.env = [(false, eval a X.env)] := by rfl) : PI X tg (.Call (.Name "range" p) [a] [] pos) (bI X.K cl Wx (mRng1 ml)) :=
  pi_to (pi_range1 hg hm ha hs) fun σ H R ⟨ι, S, ρ, st, en, g⟩ => ⟨ι, S, ρ, st, en, (Gd.bind (R := fun ι H => Paired (Rw X.K ι H)) g).imp fun xs H1 ⟨ι1, S1, w1, s1, st1, r1, g1⟩ => by
    split at g1
    · rename_i j
      split at g1
      · rename_i hc
        obtain ⟨v, rfl, r2⟩ := pd1 r1
        cases r2
        exact ⟨j, rfl, (small62_of hc).1, (small62_of hc).2, Gd.val (R := Walks X.K) g1 st1 (walks_rng _ _)⟩
      · exact g1.elim
    · exact g1.elim⟩
theorem b_rng2 (hg : Gl X "range") (hm : X.mg "range" = none) (ha : PA X [a, b] (bA X.K cl Wx ml)) (hs : starEach [a, b] X.env = [(false, eval a X.env), (false, eval b X.env)] := by rfl) (hs2 : starEach [b] X.env = [(false, eval b X.env)] := by rfl) : PI X tg (.Call (.Name "range" p) [a, b] [] pos) (bI X.K cl Wx (mRng2 ml)) :=
  pi_to (pi_range2 hg hm ha hs hs2) fun σ H R ⟨ι, S, ρ, st, en, g⟩ => ⟨ι, S, ρ, st, en, (Gd.bind (R := fun ι H => Paired (Rw X.K ι H)) g).imp fun xs H1 ⟨ι1, S1, w1, s1, st1, r1, g1⟩ => by
    split at g1
    · rename_i i j
      split at g1
      · rename_i hc
        rw [Bool.and_eq_true] at hc
        obtain ⟨v, x, rfl, r2, r3⟩ := pd2 r1
        cases r2; cases r3
        exact ⟨i, j, rfl, ⟨(small62_of hc.1).1, (small62_of hc.1).2, (small62_of hc.2).1, (small62_of hc.2).2⟩, Gd.val (R := Walks X.K) g1 st1 (walks_rng _ _)⟩
      · exact g1.elim
    · exact g1.elim⟩
end
end Sm

set_option Elab.async false
set_option linter.all false
set_option maxRecDepth 100000
set_option maxHeartbeats 2000000
/-! Sm5: statements, loops, comprehensions. -/
namespace Sm
open PySem L2

def rF {α : Type} (r : Res α) (ρ : En) (f : α → SS → Fl) : Fl := match r with
  | .ok a S => f a S
  | .exc c S => .exc c ρ S
  | .stuck => .stuck
section
variable {K : PySem.W.Frag} {cl : Nat → Addr} {Wx : Wi} {ι ι' : Io} {H H' : Hp} {S : SS} {σ : L2.St} {ρ : En} {D : Ends}
theorem Gf.later {f : Fl} (s : Step ι H ι' H') (h : Gf K cl Wx ι H σ f D) : Gf K cl Wx ι' H' σ f D := by
  cases f with
  | nx ρ S => exact fun ι1 H1 σ1 t st e => h ι1 H1 σ1 (s.trans t) st e
  | ret w S => exact fun ι1 H1 v t st e => h ι1 H1 v (s.trans t) st e
  | brk ρ S => exact fun ι1 H1 σ1 t st e => h ι1 H1 σ1 (s.trans t) st e
  | ct ρ S => exact fun ι1 H1 σ1 t st e => h ι1 H1 σ1 (s.trans t) st e
  | exc c ρ S => exact fun ι1 H1 σ1 t st e => h ι1 H1 σ1 (s.trans t) st e
  | stuck => exact h
theorem Gf.any {f : Fl} {σ' : L2.St} (h : Gf K cl Wx ι H σ f D) : Gf K cl Wx ι H σ' f D := by
  cases f <;> exact h
theorem Gf.ofR {α β : Type} {R : Io → Hp → α → β → Prop} {r : Res α} {f : α → SS → Fl} (en : EnvR K Wx.p ι H ρ σ) (h : Gf K cl Wx ι H σ (rF r ρ f) D) :
    Gd K cl ι H R r (fun b H' => ∃ ι' S' a, Step ι H ι' H' ∧ StOk K ι' S' H' ∧ R ι' H' a b ∧ Gf K cl Wx ι' H' σ (f a S') D) (exA Wx σ) := by
  cases r with
  | ok a S => exact fun ι1 H1 b t st q => ⟨ι1, S, a, t, st, q, Gf.later t h⟩
  | exc c S => exact fun ι1 H1 t st => h ι1 H1 σ t st (en.mono t)
  | stuck => exact h
theorem Gf.nx (h : Gf K cl Wx ι H σ (.nx ρ S) D) (st : StOk K ι S H) {σ' : L2.St} (en : EnvR K Wx.p ι H ρ σ') : D.nx σ' H := h ι H σ' (Step.refl _ _) st en
/-- more stays known over a store to slot i -/
def Pok (P : L2.St → Prop) (i : Nat) : Prop := ∀ (σ : L2.St) (v : Option V), P σ → P (σ.set i v)
theorem EnvR.set {P : L2.St → Prop} (en : EnvR K P ι H ρ σ) {w : W} {v : V} (r : Rw K ι H w v) (i : Nat) (hP : Pok P i) : EnvR K P ι H (ρ.set i (some w)) (σ.set i (some v)) := by
  refine ⟨by rw [List.length_set, List.length_set]; exact en.len, fun j u e => ?_, hP _ _ en.more⟩
  by_cases h : i = j
  · subst h
    by_cases hl : i < ρ.length
    · rw [List.getElem?_set_self hl] at e
      have e' := Option.some.inj (Option.some.inj e)
      subst e'
      exact ⟨v, List.getElem?_set_self (by rw [← en.len]; exact hl), r⟩
    · rw [List.getElem?_set, if_pos rfl, if_neg hl] at e
      cases e
  · rw [List.getElem?_set_ne h] at e ⊢
    exact en.val j u e
theorem EnvR.off {P P' : L2.St → Prop} (en : EnvR K P ι H ρ σ) (i : Nat) {v : Option V} (hP : P' (σ.set i v)) : EnvR K P' ι H (ρ.set i none) (σ.set i v) := by
  refine ⟨by rw [List.length_set, List.length_set]; exact en.len, fun j u e => ?_, hP⟩
  by_cases h : i = j
  · subst h
    by_cases hl : i < ρ.length
    · rw [List.getElem?_set_self hl] at e
      cases e
    · rw [List.getElem?_set, if_pos rfl, if_neg hl] at e
      cases e
  · rw [List.getElem?_set_ne h] at e ⊢
    exact en.val j u e
end

/-! ### mirrors of statements -/
def mSeq (a b : MS) : MS := fun ρ S => match a ρ S with
  | .nx ρ S => b ρ S
  | f => f
def mPass : MS := fun ρ S => .nx ρ S
def mBrk : MS := fun ρ S => .brk ρ S
def mCt : MS := fun ρ S => .ct ρ S
def mSet (i : Nat) (m : ME) : MS := fun ρ S => rF (m ρ S) ρ fun w S => .nx (ρ.set i (some w)) S
def mRet (m : ME) : MS := fun ρ S => rF (m ρ S) ρ fun w S => .ret w S
def mRetN : MS := fun ρ S => .ret (.dat .none) S
def mDrop (m : ME) : MS := fun ρ S => rF (m ρ S) ρ fun _ S => .nx ρ S
def mIfS (t : MT) (a b : MS) : MS := fun ρ S => rF (t ρ S) ρ fun b' S => if b' = true then a ρ S else b ρ S
def mRaise (c : Nat) : MS := fun ρ S => .exc c ρ S
abbrev GF := PyData → En → Option En
def gN (i : Nat) : GF := fun d ρ => some (ρ.set i (some (.dat d)))
def setAll (ρ : En) : List Nat → List PyData → Option En
  | [], [] => some ρ
  | i :: r, d :: ds => setAll (ρ.set i (some (.dat d))) r ds
  | _, _ => none
def gT (is : List Nat) : GF := fun d ρ => match d with
  | .tuple ds => setAll ρ is ds
  | _ => none
def asgW (g : GF) (w : W) (ρ : En) (S : SS) : Fl := match w with
  | .dat d => match g d ρ with
    | some ρ' => .nx ρ' S
    | none => .stuck
  | _ => .stuck
def mAsg (g : GF) (m : ME) : MS := fun ρ S => rF (m ρ S) ρ fun w S => asgW g w ρ S
def parW (i j : Nat) (ws : List W) (ρ : En) (S : SS) : Fl := match ws with
  | [w, u] => .nx ((ρ.set i (some w)).set j (some u)) S
  | _ => .stuck
def mPar (i j : Nat) (ma : MA) : MS := fun ρ S => rF (ma ρ S) ρ fun ws S => parW i j ws ρ S
def setIW (w o i : W) (ρ : En) (S : SS) : Fl := match o, i, w with
  | .ref r, .dat (.int k), .dat d => match S[r]? with
    | some (.lst ds) => match ixN ds.length k with
      | some j => .nx ρ (S.set r (.lst (ds.set j d)))
      | none => .stuck
    | _ => .stuck
  | _, _, _ => .stuck
def mSetI (mo mi m : ME) : MS := fun ρ S => rF (m ρ S) ρ fun w S => rF (mo ρ S) ρ fun o S => rF (mi ρ S) ρ fun i S => setIW w o i ρ S
def appW (r : Nat) (w : W) (ρ : En) (S : SS) : Fl := match w with
  | .dat d => match S[r]? with
    | some (.lst ds) => if ds.length < sizeLine then .nx ρ (S.set r (.lst (ds ++ [d]))) else .stuck
    | _ => .stuck
  | _ => .stuck
def app1W (me : ME) (o : W) (ρ : En) (S : SS) : Fl := match o with
  | .ref r => match S[r]? with
    | some (.lst _) => rF (me ρ S) ρ fun w S => appW r w ρ S
    | _ => .stuck
  | _ => .stuck
def mApp (mo me : ME) : MS := fun ρ S => rF (mo ρ S) ρ fun o S => app1W me o ρ S
def stepF (g : GF) (mb : MS) (d : PyData) (ρ : En) (S : SS) : Fl := match g d ρ with
  | some ρ' => mb ρ' S
  | none => .stuck
def loopF (step : PyData → En → SS → Fl) : List PyData → En → SS → Fl
  | [], ρ, S => .nx ρ S
  | d :: ds, ρ, S => match step d ρ S with
    | .nx ρ' S' => loopF step ds ρ' S'
    | .ct ρ' S' => loopF step ds ρ' S'
    | .brk ρ' S' => .nx ρ' S'
    | f => f
def mFor (mi : MI) (g : GF) (mb : MS) : MS := fun ρ S => rF (mi ρ S) ρ fun ds S => loopF (stepF g mb) ds ρ S

def SoG (K : PySem.W.Frag) (P : L2.St → Prop) (g : TG) (f : GF) : Prop := ∀ (ι : Io) (H : Hp) (d : PyData) (v : V) (ρ : En) (σ : L2.St) (ρ' : En) (Q : L2.St → Hp → Prop), Dv K ι H v d → EnvR K P ι H ρ σ → f d ρ = some ρ' → (∀ σ', EnvR K P ι H ρ' σ' → Q σ' H) → g v σ H Q
theorem so_gN {K : PySem.W.Frag} {P : L2.St → Prop} (i : Nat) (hP : Pok P i) : SoG K P (gName i) (gN i) := fun ι H d v ρ σ ρ' Q r en e k => by
  have e' := Option.some.inj e
  subst e'
  exact k _ (en.set (w := .dat d) r i hP)
def gsN : List Nat → TGs
  | [] => gNil
  | i :: r => gCons (gName i) (gsN r)
theorem so_gs {K : PySem.W.Frag} {P : L2.St → Prop} {ι : Io} {H : Hp} : ∀ (is : List Nat) (ds : List PyData) (vs : List V) (ρ : En) (σ : L2.St) (ρ' : En) (Q : L2.St → Hp → Prop), (∀ i ∈ is, Pok P i) → Dl K ι H vs ds → EnvR K P ι H ρ σ → setAll ρ is ds = some ρ' → (∀ σ', EnvR K P ι H ρ' σ' → Q σ' H) → gsN is vs σ H Q
  | [], [], _, ρ, σ, ρ', Q, _, r, en, e, k => by
    cases r
    have e' := Option.some.inj e
    subst e'
    exact ⟨rfl, k _ en⟩
  | i :: is, d :: ds, _, ρ, σ, ρ', Q, hP, .cons a b, en, e, k => ⟨_, _, rfl, so_gs is ds _ _ _ ρ' Q (fun j hj => hP j (List.mem_cons_of_mem _ hj)) b (en.set (w := .dat d) a i (hP i List.mem_cons_self)) e k⟩
  | [], _ :: _, _, _, _, _, _, _, _, _, e, _ => by cases e
  | _ :: _, [], _, _, _, _, _, _, _, _, e, _ => by cases e
theorem setAll_len : ∀ (is : List Nat) (ds : List PyData) (ρ ρ' : En), setAll ρ is ds = some ρ' → ds.length = is.length
  | [], [], _, _, _ => rfl
  | _ :: r, _ :: ds, _, _, e => congrArg (· + 1) (setAll_len r ds _ _ e)
  | [], _ :: _, _, _, e => by cases e
  | _ :: _, [], _, _, e => by cases e
theorem so_gT {K : PySem.W.Frag} {P : L2.St → Prop} (is : List Nat) (hP : ∀ i ∈ is, Pok P i) : SoG K P (gTup K is.length (gsN is)) (gT is) := fun ι H d v ρ σ ρ' Q r en e k => by
  unfold gT at e
  split at e
  · obtain ⟨a, xs, rfl, h1, h2⟩ := dv_tup r
    exact ⟨a, xs, rfl, h1.sq, by rw [h2.length]; exact setAll_len _ _ _ _ e, so_gs is _ _ _ _ _ _ hP h2 en e k⟩
  · cases e

section
variable {X : Cx} {cl : Nat → Addr} {Wx : Wi} {tg e a b c o ix : Expr} {es : List Expr} {st : Stmt} {ss ts body rest : List Stmt} {m mo mi' me : ME} {ma : MA} {mt : MT} {mi : MI} {sa sb : MS} {g : TG} {f : GF} {pos p : Pos}
theorem b_sseq (h1 : PS X st (bS X.K cl Wx sa)) (h2 : PSs X rest (bS X.K cl Wx sb)) : PSs X (st :: rest) (bS X.K cl Wx (mSeq sa sb)) :=
  pss_to (pss_cons h1 h2) fun D σ H ⟨ι, S, ρ, st, en, gg⟩ => ⟨ι, S, ρ, st, en, by
    unfold mSeq at gg
    cases hf : sa ρ S with
    | nx ρ1 S1 =>
      rw [hf] at gg
      exact fun ι1 H1 σ1 s1 st1 en1 => ⟨ι1, S1, ρ1, st1, en1, (Gf.later s1 gg).any⟩
    | ret w S1 => rw [hf] at gg; exact gg
    | brk ρ1 S1 => rw [hf] at gg; exact gg
    | ct ρ1 S1 => rw [hf] at gg; exact gg
    | exc c1 ρ1 S1 => rw [hf] at gg; exact gg
    | stuck => rw [hf] at gg; exact gg⟩
theorem b_sone (h1 : PS X st (bS X.K cl Wx sa)) : PSs X [st] (bS X.K cl Wx sa) := pss_one h1
theorem b_snil : PSs X [] (bS X.K cl Wx mPass) := pss_to pss_nil fun D σ H ⟨ι, S, ρ, st, en, gg⟩ => gg.nx st en
theorem b_pass : PS X (.Pass pos) (bS X.K cl Wx mPass) := ps_to ps_pass fun D σ H ⟨ι, S, ρ, st, en, gg⟩ => gg.nx st en
theorem b_set {i : Nat} {x : Str} {pos' : Pos} (hN : X.N.Nodup) (hi : X.N[i]? = some x) (hx : Loc X.env.scope x) (he : PE X e (bE X.K cl Wx m)) (hP : Pok Wx.p i) (hs : swapsWith e (some (.Name x pos')) pos.line X.env = pure false := by rfl) (hf : X.fn x = true ∨ X.env.scope.names.lookup x = some .local := by first | exact .inl rfl | exact .inr rfl | assumption) :
    PS X (.Assign [.Name x pos'] e pos) (bS X.K cl Wx (mSet i m)) :=
  ps_to (ps_set hN hi hx he hs hf) fun D σ H ⟨ι, S, ρ, st, en, gg⟩ => ⟨ι, S, ρ, st, en, (Gf.ofR (R := Rw X.K) en gg).imp fun v H1 ⟨ι1, S1, w1, s1, st1, r1, g1⟩ => Gf.nx g1 st1 ((en.mono s1).set r1 i hP)⟩
theorem b_asg (he : PE X e (bE X.K cl Wx m)) (hg : PG X tg g) (so : SoG X.K Wx.p g f) (hs : swapsWithSole [tg] e pos.line X.env = pure false := by rfl) (hw : swappedStores [tg] e X.env = pure none := by rfl)
    (h1 : (assignEach [tg] X.env).map (·.2) = [assign tg X.env] := by rfl) : PS X (.Assign [tg] e pos) (bS X.K cl Wx (mAsg f m)) :=
  ps_to (ps_asg he hg hs hw h1) fun D σ H ⟨ι, S, ρ, st, en, gg⟩ => ⟨ι, S, ρ, st, en, (Gf.ofR (R := Rw X.K) en gg).imp fun v H1 ⟨ι1, S1, w1, s1, st1, r1, g1⟩ => by
    unfold asgW at g1
    cases w1 with
    | dat d =>
      dsimp only at g1
      split at g1
      · rename_i ρ' e'
        exact so ι1 H1 d v ρ σ ρ' _ r1 (en.mono s1) e' fun σ' en' => Gf.nx g1 st1 en'
      · exact g1.elim
    | ref i => exact g1.elim
    | scr i => exact g1.elim⟩
theorem b_par {i j : Nat} {x y : Str} {px py pt : Pos} {kt k2 pt2} (hc : X.calm = true) (hN : X.N.Nodup) (hi : X.N[i]? = some x) (hj : X.N[j]? = some y) (hij : i ≠ j)
    (hx : X.env.scope.names.lookup x = some .local) (hy : X.env.scope.names.lookup y = some .local) (ha : PA X [a, b] (bA X.K cl Wx ma)) (hPi : Pok Wx.p i) (hPj : Pok Wx.p j)
    (hw : swappedStores [.Tuple [.Name x px, .Name y py] kt pt] (.Tuple [a, b] k2 pt2) X.env = pure (some [x, y]))
    (hs : swapsWithSole [.Tuple [.Name x px, .Name y py] kt pt] (.Tuple [a, b] k2 pt2) pos.line X.env = pure false := by rfl) :
    PS X (.Assign [.Tuple [.Name x px, .Name y py] kt pt] (.Tuple [a, b] k2 pt2) pos) (bS X.K cl Wx (mPar i j ma)) :=
  ps_to (ps_par hc hN hi hj hij hx hy ha hw hs) fun D σ H ⟨ι, S, ρ, st, en, gg⟩ => ⟨ι, S, ρ, st, en, (Gf.ofR (R := fun ι H => Paired (Rw X.K ι H)) en gg).imp fun vs H1 ⟨ι1, S1, ws, s1, st1, r1, g1⟩ => by
    unfold parW at g1
    split at g1
    · obtain ⟨v, u, rfl, h1, h2⟩ := pd2 r1
      exact ⟨v, u, rfl, Gf.nx g1 st1 (((en.mono s1).set h1 i hPi).set h2 j hPj)⟩
    · exact g1.elim⟩
theorem b_ret (he : PE X e (bE X.K cl Wx m)) : PS X (.Return (some e) pos) (bS X.K cl Wx (mRet m)) :=
  ps_to (ps_ret he) fun D σ H ⟨ι, S, ρ, st, en, gg⟩ => ⟨ι, S, ρ, st, en, (Gf.ofR (R := Rw X.K) en gg).imp fun v H1 ⟨ι1, S1, w1, s1, st1, r1, g1⟩ => g1 ι1 H1 v (Step.refl _ _) st1 r1⟩
theorem b_retN : PS X (.Return none pos) (bS X.K cl Wx mRetN) := ps_to ps_retN fun D σ H ⟨ι, S, ρ, st, en, gg⟩ => gg ι H _ (Step.refl _ _) st .non
theorem b_drop (he : PE X e (bE X.K cl Wx m)) (hs : swapsWith e none pos.line X.env = pure false := by rfl) : PS X (.Expr e pos) (bS X.K cl Wx (mDrop m)) :=
  ps_to (ps_expr he hs) fun D σ H ⟨ι, S, ρ, st, en, gg⟩ => ⟨ι, S, ρ, st, en, (Gf.ofR (R := Rw X.K) en gg).imp fun v H1 ⟨ι1, S1, w1, s1, st1, r1, g1⟩ => Gf.nx g1 st1 (en.mono s1)⟩
theorem b_ifS (hc : PT X c (bT X.K cl Wx mt)) (ha : PSs X ss (bS X.K cl Wx sa)) (hb : PSs X ts (bS X.K cl Wx sb)) : PS X (.If c ss ts pos) (bS X.K cl Wx (mIfS mt sa sb)) :=
  ps_to (ps_if hc ha hb) fun D σ H ⟨ι, S, ρ, st, en, gg⟩ => ⟨ι, S, ρ, st, en, (Gf.ofR (R := fun _ _ a b => a = b) en gg).imp fun v H1 ⟨ι1, S1, w1, s1, st1, r1, g1⟩ => by
    subst r1
    cases w1 with
    | true => exact ⟨ι1, S1, ρ, st1, en.mono s1, g1⟩
    | false => exact ⟨ι1, S1, ρ, st1, en.mono s1, g1⟩⟩
/-- o[ix] = e, a list of the store -/
theorem b_setI (he : PE X e (bE X.K cl Wx m)) (hg : PG X (.Subscript o ix p) (gSub (bE X.K cl Wx mo) (bE X.K cl Wx mi') rSetL)) (hs : swapsWithSole [.Subscript o ix p] e pos.line X.env = pure false := by rfl) (hw : swappedStores [.Subscript o ix p] e X.env = pure none := by rfl)
    (h1 : (assignEach [.Subscript o ix p] X.env).map (·.2) = [assign (.Subscript o ix p) X.env] := by rfl) : PS X (.Assign [.Subscript o ix p] e pos) (bS X.K cl Wx (mSetI mo mi' m)) :=
  ps_to (ps_asg he hg hs hw h1) fun D σ H ⟨ι, S, ρ, st, en, gg⟩ => ⟨ι, S, ρ, st, en, (Gf.ofR (R := Rw X.K) en gg).imp fun v H1 ⟨ι1, S1, w1, s1, st1, r1, g1⟩ =>
    ⟨ι1, S1, ρ, st1, en.mono s1, (Gf.ofR (R := Rw X.K) (en.mono s1) g1).imp fun ov H2 ⟨ι2, S2, w2, s2, st2, r2, g2⟩ =>
    ⟨ι2, S2, ρ, st2, en.mono (s1.trans s2), (Gf.ofR (R := Rw X.K) (en.mono (s1.trans s2)) g2).imp fun iv H3 ⟨ι3, S3, w3, s3, st3, r3, g3⟩ => by
      cases w2 with
      | dat x => exact g3.elim
      | scr x => exact g3.elim
      | ref r =>
        cases w3 with
        | ref x => exact g3.elim
        | scr x => exact g3.elim
        | dat dk =>
          cases dk <;> first | exact g3.elim | skip
          rename_i k
          cases w1 with
          | ref x => exact g3.elim
          | scr x => exact g3.elim
          | dat d =>
            unfold setIW at g3
            dsimp only at g3
            split at g3
            · rename_i ds hr
              split at g3
              · rename_i j hj
                obtain ⟨p', ho, e1, e2, ro⟩ := st3.obj r _ hr (fun z => by cases z)
                cases ho <;> first | exact False.elim ro | skip
                rename_i xs
                have ev := (r2.mono s3).2 p' e1
                have ro : Dl X.K ι3 H3 xs ds := ro
                cases r3
                have rd : Rw X.K ι3 H3 (.dat d) v := r1.mono (s2.trans s3)
                have hl : ∀ (ds : List PyData) (xs : List V) (n : Nat), Dl X.K ι3 H3 xs ds → Dl X.K ι3 H3 (xs.set n v) (ds.set n d) := by
                  intro ds
                  induction ds with
                  | nil => intro xs n q; cases q; exact .nil
                  | cons d' ds ih =>
                    intro xs n q
                    cases q with
                    | cons q1 q2 => cases n with
                      | zero => exact .cons rd q2
                      | succ n => exact .cons q1 (ih _ n q2)
                obtain ⟨s4, st4⟩ := st3.set (i := r) (o := .lst (ds.set j d)) (ho := .lst (xs.set j v)) e1 (hl ds xs j ro) (fun z => by cases z)
                exact ⟨p', xs, k, j, ev, rfl, e2, by rw [ro.length]; exact hj, Gf.nx (Gf.later s4 g3) st4 (en.mono (s1.trans (s2.trans (s3.trans s4))))⟩
              · exact g3.elim
            · exact g3.elim⟩⟩⟩
/-- o.append(e), a list of the store -/
theorem b_app {apos cpos : Pos} (ho : PE X o (bE X.K cl Wx mo)) (he : PE X e (bE X.K cl Wx me))
    (hp : PE X (.Call (.Attribute o "append" apos) [e] [] cpos) (tBM X.K "list" rAppend (bE X.K cl Wx mo) (tCons (bE X.K cl Wx me) tNil)))
    (hs : swapsWith (.Call (.Attribute o "append" apos) [e] [] cpos) none pos.line X.env = pure false := by rfl) : PS X (.Expr (.Call (.Attribute o "append" apos) [e] [] cpos) pos) (bS X.K cl Wx (mApp mo me)) :=
  ps_to (ps_expr hp hs) fun D σ H ⟨ι, S, ρ, st, en, gg⟩ => ⟨ι, S, ρ, st, en, (Gf.ofR (R := Rw X.K) en gg).imp fun v H1 ⟨ι1, S1, w1, s1, st1, r1, g1⟩ => by
    unfold app1W at g1
    cases w1 with
    | dat d => exact g1.elim
    | scr d => exact g1.elim
    | ref r =>
      dsimp only at g1
      split at g1
      · rename_i ds0 hr0
        obtain ⟨p0, ho0, e01, e02, ro0⟩ := st1.obj r _ hr0 (fun z => by cases z)
        cases ho0 <;> first | exact False.elim ro0 | skip
        have ev0 := r1.2 p0 e01
        refine ⟨?_, ι1, S1, ρ, st1, en.mono s1, (Gf.ofR (R := Rw X.K) (en.mono s1) g1).imp fun y H2 ⟨ι2, S2, w2, s2, st2, r2, g2⟩ => ?_⟩
        · subst ev0
          exact .inl ⟨rfl, _, SqL.of e02⟩
        · unfold appW at g2
          cases w2 with
          | ref d => exact g2.elim
          | scr d => exact g2.elim
          | dat d =>
            dsimp only at g2
            split at g2
            · rename_i ds hr
              split at g2
              · rename_i hz
                obtain ⟨p', ho', e1, e2, ro⟩ := st2.obj r _ hr (fun z => by cases z)
                cases ho' <;> first | exact False.elim ro | skip
                rename_i xs
                have ro : Dl X.K ι2 H2 xs ds := ro
                have ev := (r1.mono s2).2 p' e1
                obtain ⟨s4, st4⟩ := st2.set (i := r) (o := .lst (ds ++ [d])) (ho := .lst (xs ++ [y])) e1 (ro.append (.cons r2 .nil)) (fun z => by cases z)
                exact ⟨p', xs, y, ev, rfl, e2, by rw [ro.length]; exact hz, Gf.nx (Gf.later s4 g2) st4 (en.mono (s1.trans (s2.trans s4)))⟩
              · exact g2.elim
            · exact g2.elim
      · exact g1.elim⟩
end

/-! ### for -/
theorem drop_one {α : Type} {l : List α} {i : Nat} {d : α} (h : l[i]? = some d) : l.drop i = d :: l.drop (i + 1) := by
  obtain ⟨hi, e⟩ := List.getElem?_eq_some_iff.mp h
  rw [List.drop_eq_getElem_cons hi, e]
section
variable {X : Cx} {cl : Nat → Addr} {Wx : Wi} {tg iter : Expr} {body : List Stmt} {mi : MI} {g : TG} {f : GF} {mb : MS} {pos : Pos}
theorem b_for (hp : PassesOwn (model X.prog X.w) X.A X.env X.xe) (hc : X.calm = true) (hi : PI X tg iter (bI X.K cl Wx mi)) (hg : PG X tg g) (so : SoG X.K Wx.p g f) (hb : PSs X body (bS X.K cl Wx mb))
    (hs : ∀ x, foldedSetIterable iter X.env x = pure x := by intro _; rfl) : PS X (.For tg iter body [] pos) (bS X.K cl Wx (mFor mi f mb)) :=
  ps_to (ps_for hp hc hi hg hb hs) fun D σ H ⟨ι, S, ρ, st, en, gg⟩ => ⟨ι, S, ρ, st, en, (Gf.ofR (R := Walks X.K) en gg).imp fun J H1 ⟨ι1, S1, ds, s1, st1, wk, g1⟩ => by
    let W : Nat → Nat → L2.St → Hp → Prop := fun i m σ' H' => m = ds.length - i ∧ i ≤ ds.length ∧ ∃ ι2 S2 ρ2, Step ι1 H1 ι2 H' ∧ StOk X.K ι2 S2 H' ∧ EnvR X.K Wx.p ι2 H' ρ2 σ' ∧ Gf X.K cl Wx ι2 H' σ' (loopF (stepF f mb) (ds.drop i) ρ2 S2) D
    refine ⟨W, ⟨ds.length, rfl, Nat.zero_le _, ι1, S1, ρ, Step.refl _ _, st1, en.mono s1, g1⟩, fun i m σ2 H2 w => ?_⟩
    obtain ⟨hm, hi, ι2, S2, ρ2, s2, st2, en2, g2⟩ := w
    by_cases hlt : i < ds.length
    · refine .inr ⟨wk.go ι2 H2 S2 s2.mo st2 i hlt, fun σ' H' => W (i + 1) (ds.length - (i + 1)) σ' H', fun σ' H' w' => ⟨ds.length - (i + 1), by omega, w'⟩, fun x H3 y => ?_⟩
      obtain ⟨d, hd, s3, st3, r3⟩ := wk.yld ι2 H2 S2 s2.mo st2 i x H3 hlt y
      rw [drop_one hd] at g2
      have g3 := Gf.later s3 g2
      unfold loopF stepF at g3
      cases hf : f d ρ2 with
      | none => rw [hf] at g3; exact g3.elim
      | some ρ3 =>
        rw [hf] at g3
        dsimp only at g3
        refine so ι2 H3 d x ρ2 σ2 ρ3 _ r3 (en2.mono s3) hf fun σ4 en4 => ⟨ι2, S2, ρ3, st3, en4, ?_⟩
        have go : ∀ {ρ5 : En} {S5 : SS}, Gf X.K cl Wx ι2 H3 σ2 (loopF (stepF f mb) (ds.drop (i + 1)) ρ5 S5) D → ∀ (ι' : Io) (H' : Hp) (σ' : L2.St), Step ι2 H3 ι' H' → StOk X.K ι' S5 H' → EnvR X.K Wx.p ι' H' ρ5 σ' → W (i + 1) (ds.length - (i + 1)) σ' H' :=
          fun g5 ι' H' σ' s5 st5 en5 => ⟨rfl, hlt, ι', _, _, s2.trans (s3.trans s5), st5, en5, (Gf.later s5 g5).any⟩
        cases hb' : mb ρ3 S2 with
        | nx ρ5 S5 => rw [hb'] at g3; exact fun ι' H' σ' s5 st5 en5 => go g3 ι' H' σ' s5 st5 en5
        | ct ρ5 S5 => rw [hb'] at g3; exact fun ι' H' σ' s5 st5 en5 => go g3 ι' H' σ' s5 st5 en5
        | brk ρ5 S5 => rw [hb'] at g3; exact fun ι' H' σ' s5 st5 en5 => g3 ι' H' σ' s5 st5 en5
        | ret w5 S5 => rw [hb'] at g3; exact fun ι' H' σ' s5 st5 en5 => g3 ι' H' σ' s5 st5 en5
        | exc c5 ρ5 S5 => rw [hb'] at g3; exact fun ι' H' σ' s5 st5 en5 => g3 ι' H' σ' s5 st5 en5
        | stuck => rw [hb'] at g3; exact g3
    · refine .inl ⟨wk.stop ι2 H2 S2 s2.mo st2 i (Nat.not_lt.mp hlt), ?_⟩
      rw [List.drop_eq_nil_of_le (Nat.not_lt.mp hlt)] at g2
      exact Gf.nx g2 st2 en2⟩
end
end Sm

set_option Elab.async false
set_option linter.all false
set_option maxRecDepth 100000
set_option maxHeartbeats 2000000
/-! Sm6: comprehensions. -/
namespace Sm
open PySem L2

/-! ### a list that is being filled -/
def hide (H : Hp) (D : Addr) : Hp := fun a => if a = D then none else H a
theorem hide_at {H : Hp} {D : Addr} : hide H D D = none := if_pos rfl
theorem hide_ne {H : Hp} {D a : Addr} (h : a ≠ D) : hide H D a = H a := if_neg h
theorem hide_upd {H : Hp} {D : Addr} {o : HO} : hide (upd H D o) D = hide H D := by
  funext a
  by_cases h : a = D
  · rw [h, hide_at, hide_at]
  · rw [hide_ne h, hide_ne h, upd_ne h]
theorem upd_hide {H : Hp} {D : Addr} {o : HO} (h : H D = some o) : upd (hide H D) D o = H := by
  funext a
  by_cases e : a = D
  · rw [e, upd_same, h]
  · rw [upd_ne e, hide_ne e]
/-- D is no more to be met in plain data -/
abbrev Io.pr (ι : Io) (D : Addr) : Io := ⟨ι.tab, D :: ι.prot⟩
abbrev Io.un (ι : Io) (l : List Addr) : Io := ⟨ι.tab, l⟩
section
variable {K : PySem.W.Frag} {ι ι' : Io} {H H' : Hp} {S : SS} {D : Addr}
theorem mo_pr {l : List Addr} : Mo (ι.un l) (hide H D) ⟨ι.tab, D :: l⟩ H := by
  refine ⟨fun a o h n => ?_, Nat.le_refl _, fun _ _ _ h => h⟩
  have e : a ≠ D := fun z => by rw [z, hide_at] at h; cases h
  rw [hide_ne e] at h
  refine ⟨h, fun z => ?_⟩
  rcases z with z | z
  · exact n (.inl z)
  · rcases List.mem_cons.mp z with z | z
    · exact e z
    · exact n (.inr z)
theorem mo_un {l : List Addr} (hp : ι.prot = D :: l) : Mo ι H (ι.un l) (hide H D) := by
  refine ⟨fun a o h n => ?_, Nat.le_refl _, fun _ _ _ h => h⟩
  have e : a ≠ D := fun z => n (.inr (by rw [hp, z]; exact List.mem_cons_self))
  refine ⟨by rw [hide_ne e]; exact h, fun z => ?_⟩
  rcases z with z | z
  · exact n (.inl z)
  · exact n (.inr (by rw [hp]; exact List.mem_cons_of_mem _ z))
/-- a step while D is being filled, seen without D -/
theorem step_hide {l : List Addr} {o : HO} (s : Step ι H ι' H') (h : H D = some o) (n : ¬ hot ι D) : Step (ι.un l) (hide H D) (ι'.un l) (hide H' D) := by
  refine ⟨s.len, fun i a e => ?_, fun a u ha hn => ?_, fun a ha => ?_, rfl⟩
  · rcases s.old i a e with q | ⟨q1, q2⟩
    · exact .inl q
    · refine .inr ⟨q1, ?_⟩
      by_cases z : a = D
      · rw [z]; exact hide_at
      · rw [hide_ne z]; exact q2
  · have z : a ≠ D := fun z => by rw [z, hide_at] at ha; cases ha
    rw [hide_ne z] at ha ⊢
    exact s.keep a u ha hn
  · by_cases z : a = D
    · rw [z]; exact hide_at
    · rw [hide_ne z] at ha ⊢
      exact s.none a ha
theorem StOk.unpr {l : List Addr} (st : StOk K ι S H) (hp : ι.prot = D :: l) (hn : D ∉ l) : StOk K (ι.un l) S (hide H D) := by
  have hD : ¬ hot ι D := (st.pro D (by rw [hp]; exact List.mem_cons_self)).2
  refine ⟨st.len, st.inj, st.ded, fun i u e n => ?_, fun a h => ?_⟩
  · obtain ⟨a, ho, e1, e2, r⟩ := st.obj i u e n
    refine ⟨a, ho, e1, ?_, r.mo (mo_un hp)⟩
    rw [hide_ne (fun z => hD ⟨i, by rw [← z]; exact e1⟩)]
    exact e2
  · have q := st.pro a (by rw [hp]; exact List.mem_cons_of_mem _ h)
    refine ⟨?_, q.2⟩
    by_cases z : a = D
    · exact absurd (z ▸ h) hn
    · rw [hide_ne z]
      exact q.1
/-- D begins -/
theorem StOk.pr (st : StOk K ι S H) (hD : H D = none) (o : HO) : StOk K (ι.pr D) S (upd H D o) ∧ Mo ι H (ι.pr D) (upd H D o) := by
  have m : Mo ι H (ι.pr D) (upd H D o) := by
    refine ⟨fun a u h n => ⟨by rw [upd_ne (ne_of_none h hD)]; exact h, fun z => ?_⟩, Nat.le_refl _, fun _ _ _ h => h⟩
    rcases z with z | z
    · exact n (.inl z)
    · rcases List.mem_cons.mp z with z | z
      · rw [z, hD] at h; cases h
      · exact n (.inr z)
  refine ⟨⟨st.len, st.inj, st.ded, fun i u e n => ?_, fun a h => ?_⟩, m⟩
  · obtain ⟨a, ho, e1, e2, r⟩ := st.obj i u e n
    exact ⟨a, ho, e1, by rw [upd_ne (ne_of_none e2 hD)]; exact e2, r.mo m⟩
  · rcases List.mem_cons.mp h with z | z
    · rw [z, upd_same]
      exact ⟨(fun q => by cases q), hot_ne st hD⟩
    · exact ⟨fun q => (st.pro a z).1 ((step_new (ι := ι) hD o).none a q), (st.pro a z).2⟩
/-- D gets one more -/
theorem StOk.fill {l : List Addr} {o u : HO} (st : StOk K ι S H) (hp : ι.prot = D :: l) (h : H D = some u) : StOk K ι S (upd H D o) ∧ Mo ι H ι (upd H D o) := by
  have hl : live ι D := .inr (by rw [hp]; exact List.mem_cons_self)
  have hh : ¬ hot ι D := (st.pro D (by rw [hp]; exact List.mem_cons_self)).2
  have m : Mo ι H ι (upd H D o) := ⟨fun a w e n => ⟨by rw [upd_ne (fun (z : a = D) => n (by rw [z]; exact hl))]; exact e, n⟩, Nat.le_refl _, fun _ _ _ h => h⟩
  refine ⟨st.mo m (fun a ho ha e => by rw [upd_ne (fun (z : a = D) => hh (by rw [← z]; exact ha))]; exact e) (fun a ha z => ?_), m⟩
  by_cases e : a = D
  · rw [e, upd_same] at z; cases z
  · rw [upd_ne e] at z
    exact (st.pro a ha).1 z
end

/-! ### the mirror -/
def wipeE (ρ : En) : List Nat → En
  | [] => ρ
  | v :: vs => (wipeE ρ vs).set v none
theorem EnvR.wipe {K : PySem.W.Frag} {P P' : L2.St → Prop} {ι : Io} {H : Hp} {ρ : En} {σ : L2.St} (en : EnvR K P ι H ρ σ) (hP : ∀ σ, P' σ) : ∀ vs : List Nat, EnvR K P' ι H (wipeE ρ vs) (L2.wipe σ vs)
  | [] => ⟨en.len, en.val, hP _⟩
  | v :: vs => (en.wipe hP vs).off v (hP _)
theorem wipe_get {σ : L2.St} : ∀ (vs : List Nat) (i : Nat), (L2.wipe σ vs)[i]? = if i ∈ vs then σ[i]?.map (fun _ => none) else σ[i]?
  | [], i => by simp [L2.wipe]
  | v :: vs, i => by
    unfold L2.wipe
    by_cases h : v = i
    · subst h
      rw [if_pos List.mem_cons_self, List.getElem?_set, if_pos rfl]
      rw [wipe_length]
      by_cases hl : v < σ.length
      · rw [if_pos hl, List.getElem?_eq_getElem hl]; rfl
      · rw [if_neg hl, List.getElem?_eq_none (Nat.not_lt.mp hl)]; rfl
    · rw [List.getElem?_set_ne h, wipe_get vs i]
      have e : (i ∈ v :: vs) ↔ i ∈ vs := by simp [Ne.symm h]
      simp only [e]
/-- the block's own names set, then forgotten -/
theorem wipe_back {σ σ' : L2.St} {vs : List Nat} (h : ∀ i : Nat, i ∉ vs → σ'[i]? = (L2.wipe σ vs)[i]?) (hl : σ'.length = σ.length) : L2.wipe σ' vs = L2.wipe σ vs := by
  apply List.ext_getElem?
  intro i
  rw [wipe_get, wipe_get]
  by_cases hi : i ∈ vs
  · rw [if_pos hi, if_pos hi]
    by_cases hb : i < σ.length
    · rw [List.getElem?_eq_getElem hb, List.getElem?_eq_getElem (by rw [hl]; exact hb)]; rfl
    · rw [List.getElem?_eq_none (Nat.not_lt.mp hb), List.getElem?_eq_none (by rw [hl]; exact Nat.not_lt.mp hb)]
  · rw [if_neg hi, if_neg hi, h i hi, wipe_get, if_neg hi]
def SoC (K : PySem.W.Frag) (g : TG) (f : GF) (vs : List Nat) : Prop := ∀ (ι : Io) (H : Hp) (d : PyData) (v : V) (ρ : En) (σ : L2.St) (ρ' : En) (Q : L2.St → Hp → Prop), Dv K ι H v d → EnvR K (fun _ => True) ι H ρ (L2.wipe σ vs) → f d ρ = some ρ' →
  (∀ σ', EnvR K (fun _ => True) ι H ρ' σ' → L2.wipe σ' vs = L2.wipe σ vs → Q σ' H) → g v (L2.wipe σ vs) H Q
theorem so_cN {K : PySem.W.Frag} (i : Nat) {vs : List Nat} (hi : i ∈ vs) : SoC K (gName i) (gN i) vs := fun ι H d v ρ σ ρ' Q r en e k => by
  have e' := Option.some.inj e
  subst e'
  refine k _ (en.set (w := .dat d) r i (fun _ _ _ => trivial)) (wipe_back (fun j hj => ?_) (by rw [List.length_set, wipe_length]))
  exact List.getElem?_set_ne (fun (z : i = j) => hj (by rw [← z]; exact hi))
theorem so_cs {K : PySem.W.Frag} {ι : Io} {H : Hp} {σ : L2.St} {vs : List Nat} : ∀ (is : List Nat) (ds : List PyData) (xs : List V) (ρ : En) (σ1 : L2.St) (ρ' : En) (Q : L2.St → Hp → Prop), (∀ i ∈ is, i ∈ vs) → Dl K ι H xs ds → EnvR K (fun _ => True) ι H ρ σ1 → L2.wipe σ1 vs = L2.wipe σ vs → setAll ρ is ds = some ρ' →
    (∀ σ', EnvR K (fun _ => True) ι H ρ' σ' → L2.wipe σ' vs = L2.wipe σ vs → Q σ' H) → gsN is xs σ1 H Q
  | [], [], _, ρ, σ1, ρ', Q, _, r, en, w, e, k => by
    cases r
    have e' := Option.some.inj e
    subst e'
    exact ⟨rfl, k _ en w⟩
  | i :: is, d :: ds, _, ρ, σ1, ρ', Q, hv, .cons (v := v) a b, en, w, e, k => by
    refine ⟨_, _, rfl, so_cs is ds _ _ _ ρ' Q (fun j hj => hv j (List.mem_cons_of_mem _ hj)) b (en.set (w := .dat d) a i (fun _ _ _ => trivial)) ?_ e k⟩
    rw [← w]
    refine wipe_back (fun j hj => ?_) (by rw [List.length_set])
    rw [wipe_get, if_neg hj]
    exact List.getElem?_set_ne (fun (z : i = j) => hj (by rw [← z]; exact hv i List.mem_cons_self))
  | [], _ :: _, _, _, _, _, _, _, _, _, _, e, _ => by cases e
  | _ :: _, [], _, _, _, _, _, _, _, _, _, e, _ => by cases e
theorem so_cT {K : PySem.W.Frag} (is : List Nat) {vs : List Nat} (hv : ∀ i ∈ is, i ∈ vs) : SoC K (gTup K is.length (gsN is)) (gT is) vs := fun ι H d v ρ σ ρ' Q r en e k => by
  unfold gT at e
  split at e
  · obtain ⟨a, xs, rfl, h1, h2⟩ := dv_tup r
    refine ⟨a, xs, rfl, h1.sq, by rw [h2.length]; exact setAll_len _ _ _ _ e, so_cs is _ _ _ _ _ _ hv h2 en ?_ e k⟩
    exact wipe_back (fun j hj => rfl) (wipe_length σ vs)
  · cases e
def oneC (w : W) (S : SS) : Res (Option PyData) := match w with
  | .dat y => .ok (some y) S
  | _ => .stuck
def noX {α : Type} (r : Res α) : Res α := match r with
  | .exc _ _ => .stuck
  | r => r
def turnC (g : GF) (mt : MT) (me : ME) (ρ : En) (d : PyData) (S : SS) : Res (Option PyData) := match g d ρ with
  | none => .stuck
  | some ρ1 => (noX (mt ρ1 S)).bind fun b S => if b = true then (noX (me ρ1 S)).bind oneC else .ok none S
def loopC (turn : PyData → SS → Res (Option PyData)) : List PyData → List PyData → SS → Res (List PyData)
  | [], acc, S => .ok acc S
  | d :: ds, acc, S => (turn d S).bind fun o S => match o with
    | some y => if acc.length < sizeLine then loopC turn ds (acc ++ [y]) S else .stuck
    | none => loopC turn ds acc S
def mLc (mi : MI) (g : GF) (mt : MT) (me : ME) (vs : List Nat) : ML := fun ρ S => (mi ρ S).bind fun ds S => loopC (turnC g mt me (wipeE ρ vs)) ds [] S
def mYes : MT := fun _ S => .ok true S
abbrev W0 : Wi := ⟨fun _ _ _ _ => False, fun _ => True⟩
theorem noX_exc {α : Type} {r : Res α} {c : Nat} {S : SS} : noX r ≠ .exc c S := by
  cases r <;> intro h <;> cases h
theorem noX_ok {α : Type} {r : Res α} {a : α} {S : SS} (h : noX r = .ok a S) : r = .ok a S := by
  cases r <;> first | exact h | cases h
theorem turnC_exc {g : GF} {mt : MT} {me : ME} {ρ : En} {d : PyData} {S S' : SS} {c : Nat} : turnC g mt me ρ d S ≠ .exc c S' := by
  unfold turnC
  split
  · intro h; cases h
  · rename_i ρ1 _
    intro h
    cases h1 : noX (mt ρ1 S) with
    | exc c1 S1 => exact noX_exc h1
    | stuck => rw [h1] at h; cases h
    | ok b S1 =>
      rw [h1] at h
      cases b with
      | false => cases h
      | true =>
        have h' : (noX (me ρ1 S1)).bind oneC = .exc c S' := h
        cases h2 : noX (me ρ1 S1) with
        | exc c2 S2 => exact noX_exc h2
        | stuck => rw [h2] at h'; cases h'
        | ok w S2 =>
          rw [h2] at h'
          cases w <;> cases h'
theorem lc_read {K : PySem.W.Frag} {cl : Nat → Addr} {Wx : Wi} {mi : MI} {g : TG} {f : GF} {mt : MT} {tt : TT} {me : ME} {vs : List Nat} (so : SoC K g f vs) (ht : ∀ σ H Q, bT K cl W0 mt σ H Q → tt σ H Q) {σ : L2.St} {H : Hp} {Q : VK}
    (h : bL K cl Wx (mLc mi f mt me vs) σ H Q) : tLc (bI K cl Wx mi) g tt (bE K cl W0 me) vs σ H Q := by
  obtain ⟨ι, S, ρ, st, en, gg⟩ := h
  refine ⟨ι, S, ρ, st, en, (Gd.bindL (R := Walks K) gg).imp fun J H1 ⟨ι1, S1, ds, s1, st1, wk, g1⟩ => ?_⟩
  intro D hD
  have hDp : D ∉ ι1.prot := fun z => (st1.pro D z).1 hD
  let W : Nat → Nat → Hp → Prop := fun i m H' => m = ds.length - i ∧ i ≤ ds.length ∧ ∃ ι2 S2 acc xs, ι2.prot = D :: ι1.prot ∧ Step ι1 H1 (ι2.un ι1.prot) (hide H' D) ∧ StOk K ι2 S2 H' ∧ H' D = some (.lst xs) ∧ Dl K ι2 H' xs acc ∧
    GL K cl ι1 H1 (loopC (turnC f mt me (wipeE ρ vs)) (ds.drop i) acc S2) Q (exA Wx σ)
  have start : W 0 ds.length (upd H1 D (.lst [])) := by
    obtain ⟨q1, q2⟩ := st1.pr hD (.lst [])
    refine ⟨rfl, Nat.zero_le _, ι1.pr D, S1, [], [], rfl, ?_, q1, upd_same, .nil, g1⟩
    rw [hide_upd]
    refine ⟨Nat.le_refl _, fun _ _ h => .inl h, fun a o h _ => ?_, fun a h => ?_, rfl⟩
    · rw [hide_ne (ne_of_none h hD)]; exact h
    · by_cases z : a = D
      · rw [z]; exact hD
      · rw [hide_ne z] at h; exact h
  refine ⟨W, ⟨_, start⟩, fun i m H2 w => ?_⟩
  obtain ⟨hm, hi, ι2, S2, acc, xs, hp, s2, st2, hx, dl, g2⟩ := w
  have m2 : Mo ι1 H1 ι2 H2 := by
    have a := s2.mo
    have b : Mo (ι2.un ι1.prot) (hide H2 D) ι2 H2 := by
      have := mo_pr (ι := ι2) (H := H2) (D := D) (l := ι1.prot)
      rw [← hp] at this
      exact this
    exact ⟨fun x o h n => let q := a.go x o h n; b.go x o q.1 q.2, Nat.le_trans a.len b.len, fun j x hj e => a.old j x hj (b.old j x (Nat.lt_of_lt_of_le hj a.len) e)⟩
  have cold2 : ¬ hot ι2 D := (st2.pro D (by rw [hp]; exact List.mem_cons_self)).2
  by_cases hlt : i < ds.length
  · refine .inr ⟨wk.go ι2 H2 S2 m2 st2 i hlt, W (i + 1) (ds.length - (i + 1)), fun H' w' => ⟨ds.length - (i + 1), by omega, w'⟩, fun x H3 y => ?_⟩
    obtain ⟨d, hd, s3, st3, r3⟩ := wk.yld ι2 H2 S2 m2 st2 i x H3 hlt y
    rw [drop_one hd] at g2
    unfold loopC at g2
    have en3 : EnvR K (fun _ => True) ι2 H3 (wipeE ρ vs) (L2.wipe σ vs) := ((((en.mono s1).mo m2).mono s3).wipe (fun _ => trivial) vs)
    cases ht3 : turnC f mt me (wipeE ρ vs) d S2 with
    | exc c S' => exact absurd ht3 turnC_exc
    | stuck => rw [ht3] at g2; exact g2.elim
    | ok o S4 =>
      rw [ht3] at g2
      unfold turnC at ht3
      cases hf : f d (wipeE ρ vs) with
      | none => rw [hf] at ht3; cases ht3
      | some ρ1 =>
        rw [hf] at ht3
        refine so ι2 H3 d x (wipeE ρ vs) σ ρ1 _ r3 en3 hf fun σ4 en4 hw => ⟨hw, ht σ4 H3 _ ⟨ι2, S2, ρ1, st3, en4, ?_⟩⟩
        dsimp only at ht3
        cases hb : noX (mt ρ1 S2) with
        | exc c S' => exact absurd hb noX_exc
        | stuck => rw [hb] at ht3; cases ht3
        | ok b S5 =>
          rw [hb] at ht3
          rw [noX_ok hb]
          intro ι5 H5 b' s5 st5 eb
          subst eb
          have hx3 := s3.keep D _ hx cold2
          have hx5 := s5.keep D _ hx3 (s3.cold hx cold2)
          have p5 : ι5.prot = D :: ι1.prot := by rw [s5.pro]; exact hp
          have cold5 : ¬ hot ι5 D := (st5.pro D (by rw [p5]; exact List.mem_cons_self)).2
          have sh5 : Step ι1 H1 (ι5.un ι1.prot) (hide H5 D) := (s2.trans (step_hide s3 hx cold2)).trans (step_hide s5 hx3 (s3.cold hx cold2))
          have dl5 := (dl.mono s3).mono s5
          cases b with
          | false =>
            have e0 : o = none ∧ S4 = S5 := by cases ht3; exact ⟨rfl, rfl⟩
            obtain ⟨rfl, rfl⟩ := e0
            exact ⟨rfl, hlt, ι5, S4, acc, xs, p5, sh5, st5, hx5, dl5, g2⟩
          | true =>
            have ht4 : (noX (me ρ1 S5)).bind oneC = .ok o S4 := ht3
            refine ⟨ι5, S5, ρ1, st5, en4.mono s5, ?_⟩
            cases hy : noX (me ρ1 S5) with
            | exc c S' => exact absurd hy noX_exc
            | stuck => rw [hy] at ht4; cases ht4
            | ok w S6 =>
              rw [hy] at ht4
              rw [noX_ok hy]
              intro ι6 H6 yv s6 st6 r6
              have hx6 := s6.keep D _ hx5 cold5
              have p6 : ι6.prot = D :: ι1.prot := by rw [s6.pro]; exact p5
              cases w with
              | ref j => cases ht4
              | scr j => cases ht4
              | dat y0 =>
                have e0 : o = some y0 ∧ S4 = S6 := by cases ht4; exact ⟨rfl, rfl⟩
                obtain ⟨rfl, rfl⟩ := e0
                have g3 : GL K cl ι1 H1 (if acc.length < sizeLine then loopC (turnC f mt me (wipeE ρ vs)) (ds.drop (i + 1)) (acc ++ [y0]) S4 else .stuck) Q (exA Wx σ) := g2
                have dl6 := dl5.mono s6
                by_cases hz : acc.length < sizeLine
                · rw [if_pos hz] at g3
                  obtain ⟨q1, q2⟩ := st6.fill (o := .lst (xs ++ [yv])) p6 hx6
                  refine ⟨xs, hx6, by rw [dl6.length]; exact hz, rfl, hlt, ι6, S4, acc ++ [y0], xs ++ [yv], p6, ?_, q1, upd_same, (dl6.append (.cons r6 .nil)).mo q2, g3⟩
                  rw [hide_upd]
                  exact sh5.trans (step_hide s6 hx5 cold5)
                · rw [if_neg hz] at g3
                  exact g3.elim
  · refine .inl ⟨wk.stop ι2 H2 S2 m2 st2 i (Nat.not_lt.mp hlt), ?_⟩
    rw [List.drop_eq_nil_of_le (Nat.not_lt.mp hlt)] at g2
    have q := g2 (ι2.un ι1.prot) (hide H2 D) D xs s2 (st2.unpr hp hDp) hide_at (dl.mo (mo_un hp))
    rw [upd_hide hx] at q
    exact q

section
variable {X : Cx} {cl : Nat → Addr} {Wx : Wi} {elt tg iter : Expr} {ifs : List Expr} {scope : Scope} {own : List (Str × Nat)} {pos spos py : Pos} {mi : MI} {g : TG} {f : GF} {mt : MT} {me : ME}
/-- [elt for tg in iter] -/
theorem b_lc (hc : X.calm = true) (hN : X.N.Nodup) (hi : PI X tg iter (bI X.K cl Wx mi)) (ok : BlkOk X.N X.env.scope scope own)
    (hg : ∀ (s : Shared) (H : Hp) (C : Addr) (cl : List (Str × Addr)) (fp : List Addr), PG (X.blk s H scope (compEnvC scope cl C X.env) fp) tg g) (so : SoC X.K g f (own.map (·.2)))
    (he : ∀ (s : Shared) (H : Hp) (C : Addr) (l : List (Str × Addr)) (fp : List Addr), PE (X.blk s H scope (compEnvC scope l C X.env) fp) elt (bE X.K cl W0 me)) (hs : ∀ x, foldedSetIterable iter X.env x = pure x := by intro _; rfl) :
    PE X (.ListComp elt [⟨tg, iter, [], 0⟩] scope pos) (bL X.K cl Wx (mLc mi f mYes me (own.map (·.2)))) :=
  pe_to (pe_lc (own := own) (g := g) (tt := tYes) hc hN hi ok hg (fun _ _ _ _ _ => pts_nil) he hs) fun σ H Q h => lc_read so (fun σ H Q ⟨ι, S, ρ, st, en, gg⟩ => Gd.val (R := fun _ _ a b => a = b) gg st rfl) h
/-- [elt for tg in iter if c] -/
theorem b_lcIf {c : Expr} (hc : X.calm = true) (hN : X.N.Nodup) (hi : PI X tg iter (bI X.K cl Wx mi)) (ok : BlkOk X.N X.env.scope scope own)
    (hg : ∀ (s : Shared) (H : Hp) (C : Addr) (cl : List (Str × Addr)) (fp : List Addr), PG (X.blk s H scope (compEnvC scope cl C X.env) fp) tg g) (so : SoC X.K g f (own.map (·.2)))
    (ht : ∀ (s : Shared) (H : Hp) (C : Addr) (l : List (Str × Addr)) (fp : List Addr), PT (X.blk s H scope (compEnvC scope l C X.env) fp) c (bT X.K cl W0 mt))
    (he : ∀ (s : Shared) (H : Hp) (C : Addr) (l : List (Str × Addr)) (fp : List Addr), PE (X.blk s H scope (compEnvC scope l C X.env) fp) elt (bE X.K cl W0 me)) (hs : ∀ x, foldedSetIterable iter X.env x = pure x := by intro _; rfl) :
    PE X (.ListComp elt [⟨tg, iter, [c], 0⟩] scope pos) (bL X.K cl Wx (mLc mi f mt me (own.map (·.2)))) :=
  pe_to (pe_lc (own := own) (g := g) (tt := bT X.K cl W0 mt) hc hN hi ok hg (fun s H C l fp => pts_one (ht s H C l fp)) he hs) fun σ H Q h => lc_read so (fun σ H Q h => h) h
theorem ofL_read {K : PySem.W.Frag} {m : ML} {σ : L2.St} {H : Hp} {Q : VK} (h : bE K cl Wx (mOfL m) σ H Q) : bL K cl Wx m σ H Q := by
  obtain ⟨ι, S, ρ, st, en, g⟩ := h
  refine ⟨ι, S, ρ, st, en, ?_⟩
  unfold mOfL at g
  cases hm : m ρ S with
  | ok ds S1 =>
    rw [hm] at g
    exact fun ι1 H1 p xs s1 st1 hp d => g ι1 _ _ (s1.trans (step_new hp _)) (st1.new hp _) (new_lst st1 d hp)
  | exc c S1 => rw [hm] at g; exact g
  | stuck => rw [hm] at g; exact g
theorem new_read {K : PySem.W.Frag} {m : ML} {σ : L2.St} {H : Hp} {Q : VK} (h : bE K cl Wx (mNew m) σ H Q) : bL K cl Wx m σ H Q := by
  obtain ⟨ι, S, ρ, st, en, g⟩ := h
  refine ⟨ι, S, ρ, st, en, ?_⟩
  unfold mNew at g
  cases hm : m ρ S with
  | ok ds S1 =>
    rw [hm] at g
    intro ι1 H1 p xs s1 st1 hp d
    refine g (ι1.push p) _ _ (s1.trans (push_step st1 hp _)) (st1.push hp (o := .lst ds) d (fun z => by cases z)) ⟨by simp [Io.push, st1.len], fun a e => ?_⟩
    have e' : (ι1.tab ++ [some p])[S1.length]? = some (some a) := e
    exact congrArg V.ref (tab_last (by rw [st1.len]; exact Nat.lt_irrefl _) e').2
  | exc c S1 => rw [hm] at g; exact g
  | stuck => rw [hm] at g; exact g
/-- what a store to a name wants of its value's reading -/
theorem set_read {m : ME} {i : Nat} {K : PySem.W.Frag} (hP : Pok Wx.p i) {D : Ends} {σ : L2.St} {H : Hp} (h : bS K cl Wx (mSet i m) D σ H) : bE K cl Wx m σ H fun v H1 => D.nx (σ.set i (some v)) H1 := by
  obtain ⟨ι, S, ρ, st, en, gg⟩ := h
  exact ⟨ι, S, ρ, st, en, (Gf.ofR (R := Rw K) en gg).imp fun v H1 ⟨ι1, S1, w1, s1, st1, r1, g1⟩ => Gf.nx g1 st1 ((en.mono s1).set r1 i hP)⟩
/-- y = [..]; r says what the new list is taken as: plain data, or a thing of the store -/
theorem b_setLc {i : Nat} {y : Str} {m : ME} (r : ∀ (σ : L2.St) (H : Hp) (Q : VK), bE X.K cl Wx m σ H Q → bL X.K cl Wx (mLc mi f mYes me (own.map (·.2))) σ H Q) (hP : Pok Wx.p i) (hc : X.calm = true) (hN : X.N.Nodup) (hy : X.N[i]? = some y) (hyl : X.env.scope.names.lookup y = some .local)
    (hsw : swapsWith (.ListComp elt [⟨tg, iter, [], 0⟩] scope pos) (some (.Name y py)) spos.line X.env = pure true) (hi : PI X tg iter (bI X.K cl Wx mi)) (ok : BlkOk X.N X.env.scope scope own)
    (hg : ∀ (s : Shared) (H : Hp) (C : Addr) (cl : List (Str × Addr)) (fp : List Addr), PG (X.blk s H scope (compEnvC scope cl C X.env) fp) tg g) (so : SoC X.K g f (own.map (·.2)))
    (he : ∀ (s : Shared) (H : Hp) (C : Addr) (l : List (Str × Addr)) (fp : List Addr), PE (X.blk s H scope (compEnvC scope l C X.env) fp) elt (bE X.K cl W0 me)) (hs : ∀ x, foldedSetIterable iter X.env x = pure x := by intro _; rfl) :
    PS X (.Assign [.Name y py] (.ListComp elt [⟨tg, iter, [], 0⟩] scope pos) spos) (bS X.K cl Wx (mSet i m)) :=
  ps_to (ps_setLc (own := own) (g := g) (tt := tYes) hc hN hy hyl hsw hi ok hg (fun _ _ _ _ _ => pts_nil) he hs) fun D σ H h =>
    lc_read so (fun σ H Q ⟨ι, S, ρ, st, en, gg⟩ => Gd.val (R := fun _ _ a b => a = b) gg st rfl) (r σ H _ (set_read hP h))
end
end Sm

set_option Elab.async false
set_option linter.all false
set_option maxRecDepth 100000
set_option maxHeartbeats 2000000
/-! Sm7: defs by their mirrors (no recursion guard of repr around), calls, errors. -/
namespace Sm
open PySem PySem.Spec PyProof.Rows L2

/-- a def's promise by its mirror -/
def spM (K : PySem.W.Frag) (cl : Nat → Addr) (n : Nat) (mf : FN) : Sp := fun vs H Q E => vs.length = n ∧ ∃ ι S ws, StOk K ι S H ∧ Paired (Rw K ι H) ws vs ∧ Gd K cl ι H (Rw K) (mf ws S) Q E
/-- as FnOk, of a def that may raise, run while no repr is under way -/
structure FnG (P : Program) (w : World) (K : PySem.W.Frag) (mg : Str → Option Value) (base : Heap) (k : Nat) (f : Addr) (fd : FuncData) (ps : List Str) (sp : Sp) : Prop where
  len : ∀ vs H Q E, sp vs H Q E → vs.length = ps.length
  run : ∀ (A : Around) (outer : List Env) (s : Shared) (H : Hp) (args : Args) (us : List Value) (vs : List V) (Q : VK) (E : XK),
    A.guards = some [] → Room k A → Env0 P w K mg base A outer s H → BindsTo s fd args (ps.zip us) → Vals vs us → sp vs H Q E →
    codeAny (model P w) A (.call (.ref f) args) (CR (L2.CX P w) outer P w H s Q E) s
section
variable {P : Program} {w : World} {K : PySem.W.Frag} {mg : Str → Option Value} {base : Heap}
theorem FnG.none {k : Nat} {f : Addr} {fd : FuncData} {ps : List Str} {sp : Sp} (h : ∀ vs H Q E, ¬ sp vs H Q E) : FnG P w K mg base k f fd ps sp :=
  ⟨fun vs H Q E q => (h vs H Q E q).elim, fun _ _ _ H _ _ vs Q E _ _ _ _ _ q => (h vs H Q E q).elim⟩
theorem FnG.mono {j k : Nat} {f : Addr} {fd : FuncData} {ps : List Str} {sp : Sp} (F : FnG P w K mg base j f fd ps sp) (h : j ≤ k) : FnG P w K mg base k f fd ps sp :=
  ⟨F.len, fun A outer s H args us vs Q E hg hr => F.run A outer s H args us vs Q E hg (hr.mono h)⟩
/-- the body of a def of the text -/
theorem fg_of {x qual : Str} {st : Stmt} {f : Addr} {fd : FuncData} {N ps : List Str} {k : Nat} {sp : Sp} (F : Fun K x qual st f fd) (S : FnScope N ps (defScope st)) (len : ∀ vs H Q E, sp vs H Q E → vs.length = ps.length)
    (hbody : ∀ (cdv : Value) (A : Around) (outer : List Env) (s : Shared) (H : Hp) (vs : List V) (Q : VK) (E : XK), (A.deeper (envOfC qual (defScope st) s.heap.objs.size f cdv)).guards = some [] → Room k (A.deeper (envOfC qual (defScope st) s.heap.objs.size f cdv)) → sp vs H Q E →
      ∃ t, PSs (cxOf (L2.CX P w) P w K mg base N qual (defScope st) f cdv A outer s H E) (defBody st) t ∧ t { nx := fun _ H' => Q .non H', rt := Q } (L2.start N vs) H) : FnG P w K mg base (k + 1) f fd ps sp := by
  obtain ⟨oc, od, kV, doc, pm, an, cdv, ct, osl, rfl, lk, hcd⟩ := F.ex
  refine ⟨len, fun A outer s H args us vs Q E hg hr e0 hbind rel hsp => ?_⟩
  have n1 := len _ _ _ _ hsp
  have keep0 : ∀ b o, base.get? b = some o → s.heap.get? b = some o := fun b o e => (e0.bs b o e).1
  have KX : K.In s.heap := e0.mod.kin.keeps keep0
  have lim : s.heap.NoLimit := e0.mod.nolimit.keeps keep0
  have kinds : ∀ y ∈ ps.zip us, (defScope st).names.lookup y.1 = some .local ∨ ((defScope st).names.lookup y.1 = some .cell ∧ ((cellsFrom (s.heap.objs.size + 1) (defScope st).names []).lookup y.1).isSome = true) := by
    intro y hy
    obtain ⟨n, v⟩ := y
    rcases S.par n (List.of_mem_zip hy).1 with q | q
    · exact .inl q
    · exact .inr ⟨q, PySem.W.cellsFrom_some _ _ _ (.inl q)⟩
  refine codeAny_call_function hr.depth (KX _ _ lk) rfl S.co S.gen rfl
    (PySem.W.codeRec_of KX hcd) (hbind _ _ _ _ ?_)
  refine wpAny_newFunctionEnv_cells S.kind kinds
    fun env he s1 x => ?_
  subst he
  refine ⟨lim.keeps x.toInCall.keep,
    codeAny_func ?_⟩
  have hg' : (A.deeper (envOfC qual (defScope st) s.heap.objs.size f cdv)).guards = some [] := hg
  obtain ⟨t, ht, hq⟩ := hbody cdv A outer s H vs Q E hg' (hr.deeper _) hsp
  have I : Inv (cxOf (L2.CX P w) P w K mg base N qual (defScope st) f cdv A outer s H E) [] (L2.start N vs) H s1 :=
    inv_start S hr.hd e0 n1 rel x
  refine wpAny_mono (ht.run [] s1 (L2.start N vs) H _ I hq)
    (fun fl s' hs => ?_) fun e s' hs => hs
  have fin : ∀ {σ' : L2.St} {H' : Hp} {v : V} {u : Value}, Inv (cxOf (L2.CX P w) P w K mg base N qual (defScope st) f cdv A outer s H E) [] σ' H' s' → RelV v u → Q v H' → CE outer P w H s Q u s' := by
    intro σ' H' v u J rv q
    exact ⟨v, H', J.os, J.bare, J.base, J.hok, rv, q⟩
  cases fl with
  | next =>
    obtain ⟨σ', H', J, q⟩ := hs
    exact fin (v := V.non) (u := Value.none) J rfl q
  | ret u =>
    obtain ⟨v, σ', H', J, rv, q⟩ := hs
    exact fin J rv q
  | cont => exact (hs.elim fun _ h => h.elim fun _ h => h.2).elim
  | brk => exact (hs.elim fun _ h => h.elim fun _ h => h.2).elim
/-- a def of the text by the mirror of its body -/
theorem fg_mir {cl : Nat → Addr} {x qual : Str} {st : Stmt} {f : Addr} {fd : FuncData} {N ps : List Str} {k n : Nat} {mb : MS} {mf : FN} (F : Fun K x qual st f fd) (S : FnScope N ps (defScope st)) (hn : n = ps.length)
    (hmf : ∀ ws SS, ws.length = n → ∀ (E : XK) (Q : VK) (ι : Io) (H : Hp), Gd K cl ι H (Rw K) (mf ws SS) Q E → Gf K cl ⟨fun c d _ H => E c d H, fun _ => True⟩ ι H [] (mb (ws.map some ++ List.replicate (N.length - ws.length) none) SS) { nx := fun _ H' => Q .non H', rt := Q })
    (hbody : ∀ (cdv : Value) (A : Around) (outer : List Env) (s : Shared) (H : Hp) (E : XK), (A.deeper (envOfC qual (defScope st) s.heap.objs.size f cdv)).guards = some [] → Room k (A.deeper (envOfC qual (defScope st) s.heap.objs.size f cdv)) →
      Takes (cxOf (L2.CX P w) P w K mg base N qual (defScope st) f cdv A outer s H E) (fun c d _ H => E c d H) →
      PSs (cxOf (L2.CX P w) P w K mg base N qual (defScope st) f cdv A outer s H E) (defBody st) (bS K cl ⟨fun c d _ H => E c d H, fun _ => True⟩ mb)) : FnG P w K mg base (k + 1) f fd ps (spM K cl n mf) := by
  refine fg_of F S (fun vs H Q E h => by rw [h.1, hn]) fun cdv A outer s H vs Q E hg hr h => ?_
  refine ⟨_, hbody cdv A outer s H E hg hr (takes_of rfl rfl rfl rfl), ?_⟩
  obtain ⟨hl, ι, SS, ws, st0, r, g⟩ := h
  have hw : ws.length = vs.length := Paired.length r
  refine ⟨ι, SS, _, st0, ?_, (hmf ws SS (by rw [hw, hl]) E Q ι H g).any⟩
  refine ⟨?_, fun i w e => ?_, trivial⟩
  · show (ws.map some ++ _).length = (vs.map some ++ _).length
    simp [hw]
  · unfold L2.start
    by_cases hi : i < ws.length
    · rw [List.getElem?_append_left (by simpa using hi), List.getElem?_map] at e
      rw [List.getElem?_append_left (by simp [← hw, hi]), List.getElem?_map]
      rw [List.getElem?_eq_getElem hi] at e
      have e' : some ws[i] = some w := Option.some.inj e
      have e2 := Option.some.inj e'
      have : ∀ {ws : List W} {vs : List V}, Paired (Rw K ι H) ws vs → ∀ (i : Nat) (w : W), ws[i]? = some w → ∃ v, vs[i]? = some v ∧ Rw K ι H w v := by
        intro ws vs r
        induction r with
        | nil => intro i w e; simp at e
        | cons a _ ih =>
          intro i w e
          cases i with
          | zero => exact ⟨_, rfl, by have := Option.some.inj e; rw [← this]; exact a⟩
          | succ i =>
            obtain ⟨v, h1, h2⟩ := ih i w (by simpa using e)
            exact ⟨v, by simpa using h1, h2⟩
      obtain ⟨v, h1, h2⟩ := this r i w (by rw [List.getElem?_eq_getElem hi, e2])
      exact ⟨v, by rw [h1]; rfl, h2⟩
    · rw [List.getElem?_append_right (by simpa using Nat.not_lt.mp hi)] at e
      rw [List.getElem?_replicate] at e
      split at e <;> cases e
/-- the result of a body, as a def hands it back -/
def outF (f : Fl) : Res W := match f with
  | .nx _ S => .ok (.dat .none) S
  | .ret w S => .ok w S
  | .exc c _ S => .exc c S
  | _ => .stuck
/-- a def's mirror by its body's: N names in all -/
def mDef (N : Nat) (mb : MS) : FN := fun ws S => outF (mb (ws.map some ++ List.replicate (N - ws.length) none) S)
theorem out_gf {cl : Nat → Addr} {f : Fl} {E : XK} {Q : VK} {ι : Io} {H : Hp} (g : Gd K cl ι H (Rw K) (outF f) Q E) : Gf K cl ⟨fun c d _ H => E c d H, fun _ => True⟩ ι H [] f { nx := fun _ H' => Q .non H', rt := Q } := by
  cases f with
  | nx ρ S => exact fun ι' H' σ' s st en => g ι' H' _ s st .non
  | ret w S => exact fun ι' H' v s st r => g ι' H' v s st r
  | exc c ρ S => exact fun ι' H' σ' s st en => g ι' H' s st
  | brk ρ S => exact g.elim
  | ct ρ S => exact g.elim
  | stuck => exact g.elim
theorem fg_def {cl : Nat → Addr} {x qual : Str} {st : Stmt} {f : Addr} {fd : FuncData} {N ps : List Str} {k : Nat} {mb : MS} (F : Fun K x qual st f fd) (S : FnScope N ps (defScope st))
    (hbody : ∀ (cdv : Value) (A : Around) (outer : List Env) (s : Shared) (H : Hp) (E : XK), (A.deeper (envOfC qual (defScope st) s.heap.objs.size f cdv)).guards = some [] → Room k (A.deeper (envOfC qual (defScope st) s.heap.objs.size f cdv)) →
      Takes (cxOf (L2.CX P w) P w K mg base N qual (defScope st) f cdv A outer s H E) (fun c d _ H => E c d H) →
      PSs (cxOf (L2.CX P w) P w K mg base N qual (defScope st) f cdv A outer s H E) (defBody st) (bS K cl ⟨fun c d _ H => E c d H, fun _ => True⟩ mb)) : FnG P w K mg base (k + 1) f fd ps (spM K cl ps.length (mDef N.length mb)) :=
  fg_mir (n := ps.length) F S rfl (fun ws SS _ E Q ι H g => out_gf g) hbody
end

/-! ### calls -/
section
variable {X : Cx} {cl : Nat → Addr} {Wx : Wi} {k n : Nat} {f : Addr} {fd : FuncData} {ps : List Str} {x : Str} {p pos : Pos} {e : Expr} {es : List Expr} {ma : MA} {mf : FN}
def lenW (n : Nat) (mf : FN) : FN := fun ws S => if ws.length = n then mf ws S else .stuck
theorem b_call (F : FnG X.prog X.w X.K X.mg X.base k f fd ps (spM X.K cl n mf)) (hG : X.A.guards = some []) (hr : Room k X.A) (tk : Takes X Wx.x) (hg : Gl X x) (hm : X.mg x = some (.ref f)) (hk : PySem.W.keepIn X.K (.ref f) = true) (hb : Binds X.K fd ps [])
    (ha : PA X (e :: es) (bA X.K cl Wx ma)) (hdb : (x == ("__debug__" : Str)) = false := by decide) (he : starEach (e :: es) X.env = (false, eval e X.env) :: starEach es X.env := by rfl) (hpl : (backTo pos (starEach es X.env)).any (·.1) = false := by rfl) :
    PE X (.Call (.Name x p) (e :: es) [] pos) (bE X.K cl Wx (mCal (lenW n mf) ma)) := by
  refine ⟨fun pins s σ H Q I h => ?_⟩
  obtain ⟨ι, S, ρ, st, en, g⟩ := h
  refine wpAny_Call_Name_kw
    (ld_glob I hg hm ?_ hdb)
  have q0 : bA X.K cl Wx ma σ H fun vs H1 => spM X.K cl n mf vs H1 Q (fun c d H => Wx.x c d σ H) :=
    ⟨ι, S, ρ, st, en, (Gd.bind (R := fun ι H => Paired (Rw X.K ι H)) g).imp fun vs H1 ⟨ι1, S1, ws, s1, st1, r1, g1⟩ => by
      unfold lenW at g1
      split at g1
      · rename_i hl
        exact ⟨by rw [← Paired.length r1, hl], ι1, S1, ws, st1, r1, g1⟩
      · exact g1.elim⟩
  refine PySem.W.callWith_K (h₀ := X.base) I.ok.mod.kin hk
    (thn (ha.run pos pins s σ H _ I q0) fun us s1 ⟨vs, H1, I1, r, q⟩ => ⟨I1.kIn, ?_⟩) he hpl
  have hl := F.len _ _ _ _ q
  have bd := hb s1 us I1.kIn (by rw [List.append_nil, ← Vals.length r]; exact hl)
  rw [List.append_nil] at bd
  refine wpAny_call (codeAny_mono (F.run X.A X.stack s1 H1 ⟨us, []⟩ us vs Q (fun c d H => Wx.x c d σ H) hG hr I1.env0 bd r q) fun res s' hq => ?_)
  cases res with
  | ok fl =>
    cases fl with
    | ret u => exact I1.after hq
    | next => exact False.elim hq
    | brk => exact False.elim hq
    | cont => exact False.elim hq
  | error e => exact tk e s' (XE.of_call I1 (fun _ _ _ h => h) hq)
end

/-! ### raise C() -/
section
variable {X : Cx} {cl : Nat → Addr} {Wx : Wi} {C : Addr} {bmB : List Value} {B newId initId : String} {x : Str} {p pos pos' : Pos}
theorem mk0 (F : ExcBaseFacts B newId initId bmB) (q : PySem.W.excIn X.K C bmB newId = true) (gC : X.mg x = some (.ref C)) (kC : PySem.W.keepIn X.K (.ref C) = true) (r : Raises X (.ref C)) (hg : Gl X x)
    (hdb : (x == ("__debug__" : Str)) = false := by decide) : PMk X (.Call (.Name x p) [] [] pos) (fun _ H Q => Q (.ref C) none H) := by
  intro pins s σ H Q I h
  refine wpAny_Call_Name_kw
    (ld_glob I hg gC ?_ hdb)
  refine PySem.W.callWith_K0 I.kIn kC ?_
  show wpAny _ _ (call (.ref C) []) _ _ _
  obtain ⟨bm, N, nm, qn, bs, hdct, sn, sub, ab, col, dd, k0, k1, k2, k3, k5, mN, hC, hN, hni, T⟩ :=
    exc_obj I.kIn q
  refine wpAny_call_exc_subT F T hC hN hni
    (fun h' e hm => ?_) (by show 0 ≤ sizeLine; exact Nat.zero_le _)
  exact mk_of I hm r h
    (I.hok.gone hm.new)
theorem b_raise {c : Nat} {e : Expr} (hc : X.calm = true) (tk : Takes X Wx.x) (h : PMk X e (fun _ H Q => Q (.ref (cl c)) none H)) : PS X (.Raise (some e) none pos') (bS X.K cl Wx (mRaise c)) :=
  ps_to (ps_raise hc tk h) fun D σ H ⟨ι, S, ρ, st, en, gg⟩ => gg ι H σ (Step.refl _ _) st en
end

/-! ### try .. except C as n -/
def offF (i : Nat) (f : Fl) : Fl := match f with
  | .nx ρ S => .nx (ρ.set i none) S
  | .brk ρ S => .brk (ρ.set i none) S
  | .ct ρ S => .ct (ρ.set i none) S
  | .ret w S => .ret w S
  | _ => .stuck
def catF (sub : Nat → Option Bool) (i : Nat) (hs : Nat → MS) (f : Fl) : Fl := match f with
  | .exc c ρ S => match sub c with
    | some true => offF i (hs c (ρ.set i none) S)
    | some false => .exc c ρ S
    | none => .stuck
  | f => f
def mTry (mb : MS) (sub : Nat → Option Bool) (i : Nat) (hs : Nat → MS) : MS := fun ρ S => catF sub i hs (mb ρ S)
/-- in the suite: slot i holds the error -/
abbrev Ws (i : Nat) (a : Addr) : Wi := ⟨fun _ _ _ _ => False, fun σ => i < σ.length → σ[i]? = some (some (.ref a))⟩
section
variable {X : Cx} {cl : Nat → Addr} {Wx : Wi} {x n : Str} {c : Value} {i : Nat} {body suite : List Stmt} {b₀ : Stmt} {np pos pos' : Pos} {mb : MS} {sub : Nat → Option Bool} {hs : Nat → MS}
theorem b_try (hst : X.stack = X.env :: X.outer) (hf : X.env.frame = some X.env.locals) (hN : X.N.Nodup) (hi : X.N[i]? = some n) (hln : X.env.kindOf n = some .local) (hc : Names X x c) (tk : Takes X Wx.x) (hp : ∀ σ, Wx.p σ)
    (hsub : ∀ k b, sub k = some b → PySem.W.exmOne X.K (.ref (cl k)) c = some b)
    (hb : ∀ (W : WX) (pn : List (Addr × Obj)) (xe : Value → Shared → Prop), Takes (X.tr pn xe) W → PassesOwn (model X.prog X.w) X.A X.env xe → PSs (X.tr pn xe) body (bS X.K cl ⟨W, Wx.p⟩ mb))
    (hsu : ∀ k, sub k = some true → ∀ (a : Addr) (oe : Obj) (pn : List (Addr × Obj)), Zc (.ref (cl k)) none oe → (∃ vs, oe.data = .fields vs) → PSs (X.suite a ((a, oe) :: pn)) (b₀ :: suite) (bS X.K cl (Ws i a) (hs k))) :
    PS X (.Try body [.ExceptHandler (some (.Name x np)) (some n) (b₀ :: suite) pos'] [] [] pos) (bS X.K cl Wx (mTry mb sub i hs)) := by
  let ts : Addr → Value → Option Addr → TS := fun a cls d D σ H => ∃ k, sub k = some true ∧ cls = .ref (cl k) ∧ d = none ∧ bS X.K cl (Ws i a) (hs k) D σ H
  refine ps_to (ps_try_as (ts := ts) (tb := fun W => bS X.K cl ⟨W, Wx.p⟩ mb) hst hf hN hi hln hc tk hb (fun a oe cls d pn hz hv => ⟨fun pins s σ H D I h => ?_⟩)) ?_
  · obtain ⟨k, h1, rfl, rfl, h4⟩ := h
    exact (hsu k h1 a oe pn hz hv).run pins s σ H D I h4
  · intro D σ H ⟨ι, S, ρ, st, en, gg⟩
    refine ⟨ι, S, ρ, st, ⟨en.len, en.val, en.more⟩, ?_⟩
    have gg' : Gf X.K cl Wx ι H σ (catF sub i hs (mb ρ S)) D := gg
    cases hm : mb ρ S with
    | nx ρ1 S1 => rw [hm] at gg'; exact fun ι1 H1 σ1 s1 st1 en1 => gg' ι1 H1 σ1 s1 st1 ⟨en1.len, en1.val, en1.more⟩
    | ret w S1 => rw [hm] at gg'; exact gg'
    | brk ρ1 S1 => rw [hm] at gg'; exact fun ι1 H1 σ1 s1 st1 en1 => gg' ι1 H1 σ1 s1 st1 ⟨en1.len, en1.val, en1.more⟩
    | ct ρ1 S1 => rw [hm] at gg'; exact fun ι1 H1 σ1 s1 st1 en1 => gg' ι1 H1 σ1 s1 st1 ⟨en1.len, en1.val, en1.more⟩
    | stuck => rw [hm] at gg'; exact gg'
    | exc k ρ1 S1 =>
      rw [hm] at gg'
      intro ι1 H1 σ1 s1 st1 en1
      cases hk : sub k with
      | none =>
        have g2 : Gf X.K cl Wx ι H σ (match sub k with | some true => offF i (hs k (ρ1.set i none) S1) | some false => .exc k ρ1 S1 | none => .stuck) D := gg'
        rw [hk] at g2
        exact g2.elim
      | some b =>
        have g2 : Gf X.K cl Wx ι H σ (match sub k with | some true => offF i (hs k (ρ1.set i none) S1) | some false => .exc k ρ1 S1 | none => .stuck) D := gg'
        rw [hk] at g2
        cases b with
        | false => exact ⟨false, hsub k false hk, (fun z => by cases z), fun _ => g2 ι1 H1 σ1 s1 st1 ⟨en1.len, en1.val, en1.more⟩⟩
        | true =>
          refine ⟨true, hsub k true hk, (fun _ a ha => ⟨k, hk, rfl, rfl, ι1, S1, ρ1.set i none, st1, en1.off i (fun hl => List.getElem?_set_self (by rw [List.length_set] at hl; exact hl)), ?_⟩), (fun z => by cases z)⟩
          cases hr : hs k (ρ1.set i none) S1 with
          | nx ρ2 S2 => rw [hr] at g2; exact fun ι2 H2 σ2 s2 st2 en2 => g2 ι2 H2 _ (s1.trans s2) st2 (en2.off i (hp _))
          | brk ρ2 S2 => rw [hr] at g2; exact fun ι2 H2 σ2 s2 st2 en2 => g2 ι2 H2 _ (s1.trans s2) st2 (en2.off i (hp _))
          | ct ρ2 S2 => rw [hr] at g2; exact fun ι2 H2 σ2 s2 st2 en2 => g2 ι2 H2 _ (s1.trans s2) st2 (en2.off i (hp _))
          | ret w2 S2 => rw [hr] at g2; exact fun ι2 H2 v s2 st2 r2 => g2 ι2 H2 v (s1.trans s2) st2 r2
          | exc c2 ρ2 S2 => rw [hr] at g2; exact g2.elim
          | stuck => rw [hr] at g2; exact g2.elim
end
/-! ### isinstance(e, C), e the error that the suite holds -/
section
variable {X : Cx} {cl : Nat → Addr} {a D : Addr} {oe : Obj} {pn : List (Addr × Obj)} {i k : Nat} {n : Str} {np p pos : Pos} {t : Expr} {C : Addr} {b : Bool}
theorem b_isE (E : ExcC X.K D) (hz : Zc (.ref D) none oe) (hf : ∃ vs, oe.data = .fields vs) (hN : X.N[i]? = some n) (hg : Gl X "isinstance") (hm : X.mg "isinstance" = none) (he : PE (X.suite a ((a, oe) :: pn)) (.Name n np) (tVar i))
    (ht : PE (X.suite a ((a, oe) :: pn)) t (tC (.ref C))) (hk : PySem.W.kitOne X.K (.ref D) (.ref C) = some b)
    (h1 : starEach [.Name n np, t] X.env = (false, eval (.Name n np) X.env) :: starEach [t] X.env := by rfl) (h2 : starEach [t] X.env = (false, eval t X.env) :: starEach [] X.env := by rfl) (hpl : (backTo pos (starEach [t] X.env)).any (·.1) = false := by rfl) :
    PE (X.suite a ((a, oe) :: pn)) (.Call (.Name "isinstance" p) [.Name n np, t] [] pos) (bE X.K cl (Ws i a) (mC (.bool b))) := by
  have base := pe_callB (X := X.suite a ((a, oe) :: pn)) (p := p) (pos := pos) (call_isE E hz hf) hg hm (by decide +kernel) (pa_cons he (pa_cons ht pa_nil h2) h1) (by decide) (by decide) h1 hpl
  refine ⟨fun pins s σ H Q I h => base.run pins s σ H Q I ?_⟩
  obtain ⟨ι, S, ρ, st, en, g⟩ := h
  have hl : i < σ.length := by
    rw [I.len]
    exact (List.getElem?_eq_some_iff.mp hN).1
  refine ⟨_, en.more hl, ?_⟩
  exact ⟨.ref C, .ref C, b, rfl, (fun u r => r), hk, Gd.val (R := Rw X.K) g st (.bl b)⟩
end
/-! ### isinstance(e, (C, C2)) -/
def rIsET (K : PySem.W.Frag) (D a : Addr) : List V → Hp → VK → Prop := fun xs H Q => ∃ (tp : Addr) (cs : List V) (us : List Value) (b : Bool), xs = [.ref a, .ref tp] ∧ H tp = some (.tup cs) ∧ Paired ClsV cs us ∧ PySem.W.kitAny K (.ref D) us = some b ∧ Q (.bl b) H
theorem call_isET {X : Cx} {a D : Addr} {oe : Obj} {pn : List (Addr × Obj)} (C : ExcC X.K D) (hz : Zc (.ref D) none oe) (hf : ∃ vs, oe.data = .fields vs) : CallR (X.suite a ((a, oe) :: pn)) (.builtin "isinstance") (rIsET X.K D a) := by
  intro pins s σ H xs us Q I r h
  obtain ⟨tp, cs, ws, b, rfl, hT, kc, e, q⟩ := h
  obtain ⟨u1, u2, rfl, r1, r2⟩ := vals2 r
  cases (show u1 = Value.ref a from r1)
  cases (show u2 = Value.ref tp from r2)
  obtain ⟨hget, _⟩ := I.pin (a, oe) (List.mem_append.mpr (.inl List.mem_cons_self))
  obtain ⟨vs, hv⟩ := hf
  have J : PySem.W.InstAt s.heap a oe D none := by
    obtain ⟨oc, od, oda, osl⟩ := oe
    obtain ⟨h1, h2⟩ := hz
    dsimp only at h1 h2 hv
    subst h1 h2 hv
    exact ⟨hget, rfl, rfl, trivial⟩
  obtain ⟨_, its, rv, o, g1, g2, n, g3⟩ := (show ObjOk X.prog X.w H s.heap tp (.tup cs) from I.hok tp _ hT)
  have e3 := ClsV.all kc rv
  subst e3
  obtain ⟨oc, od, dt, sl⟩ := o
  simp only at g2 g3
  subst g2 g3
  exact PySem.W.kia_tup (PySem.W.handS_kitx_exc C.hg C.hk C.hs C.hd C.ha C.hn C.ht C.hm) I.kIn J g1 e
    (fun z => nomatch z) fun tk => ⟨.bl b, H, I.kept (t' := tk) fun _ _ z => z, rfl, q⟩
section
variable {X : Cx} {cl : Nat → Addr} {a D : Addr} {oe : Obj} {pn : List (Addr × Obj)} {i k : Nat} {n : Str} {np p pos tp : Pos} {t t' : Expr} {C C' : Addr} {b : Bool}
theorem b_isET (E : ExcC X.K D) (hz : Zc (.ref D) none oe) (hf : ∃ vs, oe.data = .fields vs) (hN : X.N[i]? = some n) (hg : Gl X "isinstance") (hm : X.mg "isinstance" = none) (he : PE (X.suite a ((a, oe) :: pn)) (.Name n np) (tVar i))
    (ht : PE (X.suite a ((a, oe) :: pn)) t (tC (.ref C))) (ht' : PE (X.suite a ((a, oe) :: pn)) t' (tC (.ref C'))) (hk : PySem.W.kitAny X.K (.ref D) [.ref C, .ref C'] = some b)
    (s1 : starEach [t, t'] X.env = (false, eval t X.env) :: starEach [t'] X.env := by rfl) (s2 : starEach [t'] X.env = (false, eval t' X.env) :: starEach [] X.env := by rfl)
    (h1 : starEach [.Name n np, .Tuple [t, t'] k tp] X.env = (false, eval (.Name n np) X.env) :: starEach [.Tuple [t, t'] k tp] X.env := by rfl) (h2 : starEach [.Tuple [t, t'] k tp] X.env = (false, eval (.Tuple [t, t'] k tp) X.env) :: starEach [] X.env := by rfl) (hpl : (backTo pos (starEach [.Tuple [t, t'] k tp] X.env)).any (·.1) = false := by rfl) :
    PE (X.suite a ((a, oe) :: pn)) (.Call (.Name "isinstance" p) [.Name n np, .Tuple [t, t'] k tp] [] pos) (bE X.K cl (Ws i a) (mC (.bool b))) := by
  have base := pe_callB (X := X.suite a ((a, oe) :: pn)) (p := p) (pos := pos) (call_isET E hz hf) hg hm (by decide +kernel) (pa_cons he (pa_cons (pe_tup (pa_cons ht (pa_cons ht' pa_nil s2) s1)) pa_nil h2) h1) (by decide) (by decide) h1 hpl
  refine ⟨fun pins s σ H Q I h => base.run pins s σ H Q I ?_⟩
  obtain ⟨ι, S, ρ, st, en, g⟩ := h
  have hl : i < σ.length := by
    rw [I.len]
    exact (List.getElem?_eq_some_iff.mp hN).1
  refine ⟨_, en.more hl, (by show 2 ≤ sizeLine; decide), fun q hq => ?_⟩
  exact ⟨q, _, _, b, rfl, upd_same, .cons (.own C) (.cons (.own C') .nil), hk, g ι _ _ (step_new hq _) (st.new hq _) (.bl b)⟩
end
/-! ### range with a step -/
section
variable {X : Cx} {cl : Nat → Addr} {Wx : Wi} {tg a b c : Expr} {ml : MA} {pos p : Pos}
def mRngC (a : MA) : MI := fun ρ S => (a ρ S).bind fun ws S => match ws with
  | [.dat (.int i), .dat (.int j), .dat (.int c)] => if c ≠ 0 ∧ c.natAbs < 1073741824 ∧ Builtin.Range.small i j c = true ∧ 0 ≤ Builtin.Range.rangeSize i j c then .ok (rangeD i c (Builtin.Range.rangeSize i j c).toNat) S else .stuck
  | _ => .stuck
theorem pd3 {K : PySem.W.Frag} {ι : Io} {H : Hp} {w u z : W} {vs : List V} (r : Paired (Rw K ι H) [w, u, z] vs) : ∃ v x y, vs = [v, x, y] ∧ Rw K ι H w v ∧ Rw K ι H u x ∧ Rw K ι H z y := by
  cases r with
  | cons a b =>
    obtain ⟨v, x, rfl, h1, h2⟩ := pd2 b
    exact ⟨_, _, _, rfl, a, h1, h2⟩
theorem b_rng3 (hg : Gl X "range") (hm : X.mg "range" = none) (ha : PA X [a, b, c] (bA X.K cl Wx ml)) (hs : starEach [a, b, c] X.env = (false, eval a X.env) :: starEach [b, c] X.env := by rfl) (hpl : (backTo pos (starEach [b, c] X.env)).any (·.1) = false := by rfl) :
    PI X tg (.Call (.Name "range" p) [a, b, c] [] pos) (bI X.K cl Wx (mRngC ml)) :=
  pi_to (pi_range3 hg hm ha hs hpl) fun σ H R ⟨ι, S, ρ, st, en, g⟩ => ⟨ι, S, ρ, st, en, (Gd.bind (R := fun ι H => Paired (Rw X.K ι H)) g).imp fun xs H1 ⟨ι1, S1, w1, s1, st1, r1, g1⟩ => by
    split at g1
    · rename_i i j c
      split at g1
      · rename_i hc
        obtain ⟨v, x, y, rfl, r2, r3, r4⟩ := pd3 r1
        cases r2; cases r3; cases r4
        exact ⟨i, j, c, _, rfl, ⟨hc.1, hc.2.1, hc.2.2.1, (Int.toNat_of_nonneg hc.2.2.2).symm⟩, Gd.val (R := Walks X.K) g1 st1 (walks_rngC _ _ _)⟩
      · exact g1.elim
    · exact g1.elim⟩
end
end Sm

set_option Elab.async false
set_option linter.all false
set_option maxRecDepth 100000
set_option maxHeartbeats 2000000
/-! SmR: repr of plain data. -/
namespace Sm
open PySem PySem.Spec PyProof.Rows L2
mutual
/-- no dict but empty ones -/
def bareD : PyData → Bool
  | .none | .bool _ | .int _ | .str _ => true
  | .list xs | .tuple xs => bareL xs
  | .dict kvs => kvs.isEmpty
def bareL : List PyData → Bool
  | [] => true
  | x :: xs => bareD x && bareL xs
end
mutual
def listsD : PyData → Bool
  | .none | .bool _ | .int _ | .str _ => false
  | .list _ => true
  | .tuple xs => listsL xs
  | .dict _ => false
def listsL : List PyData → Bool
  | [] => false
  | x :: xs => listsD x || listsL xs
end
section
variable {X : Cx} {pins : List (Addr × Obj)} {σ : L2.St} {ι : Io} {H : Hp} {s : Shared}
mutual
theorem Dv.reads (I : Inv X pins σ H s) : ∀ (d : PyData) (v : V) (u : Value), Dv X.K ι H v d → RelV v u → bareD d = true → ∃ as, Reads s.heap u d as ∧ (listsD d = false → ∀ a ∈ as, a ≠ sysModules)
  | .none, _, _, h, r, _ => by
    cases h; cases r
    exact ⟨_, Reads.none, fun _ a ha => by cases ha⟩
  | .bool b, _, _, h, r, _ => by
    cases h; cases r
    exact ⟨_, Reads.bool b, fun _ a ha => by cases ha⟩
  | .int i, _, _, h, r, _ => by
    cases h
    obtain ⟨t, rfl⟩ := r
    exact ⟨_, Reads.int i t, fun _ a ha => by cases ha⟩
  | .str x, _, _, h, r, _ => by
    cases h
    obtain ⟨t, rfl⟩ := r
    exact ⟨_, Reads.str x t, fun _ a ha => by cases ha⟩
  | .list ds, _, _, h, r, hb => by
    cases h with
    | lst hs _ ha =>
      cases r
      obtain ⟨its, rv, ⟨o, n, ho, hc, _, hd⟩, _⟩ := I.list (.inl (.inl hs))
      obtain ⟨as, hr, _⟩ := Dl.reads I ds _ its ha rv (by simpa [bareD] using hb)
      exact ⟨_, Reads.list ho hc hd hr, fun z => by simp [listsD] at z⟩
  | .tuple ds, _, _, h, r, hb => by
    cases h with
    | tup hs ha =>
      cases r
      obtain ⟨its, rv, ⟨o, ho, hc, n, hd⟩, _⟩ := I.tuple hs.sq
      obtain ⟨as, hr, hn⟩ := Dl.reads I ds _ its ha rv (by simpa [bareD] using hb)
      exact ⟨_, Reads.tuple ho hc hd hr, fun z => hn (by simpa [listsD] using z)⟩
  | .dict kvs, _, _, h, r, hb => by
    cases h with
    | dic hs _ hk =>
      cases r
      have e : kvs = [] := by simpa [bareD] using hb
      subst e
      cases hk
      obtain ⟨_, hm, vs, hv, o, es, ep, h1, h2, h3, _, h4, _⟩ := I.hok _ _ hs
      cases hv
      have e : es.toList = [] := by
        generalize hq : es.toList = l at h4
        cases h4
        rfl
      refine ⟨_, Reads.dict (kvs := []) h1 h2.1 h3 (by rw [e]; exact .nil) (by rw [e]; exact .nil), fun _ a ha => ?_⟩
      have e2 := List.mem_singleton.mp (by simpa using ha)
      rw [e2]
      exact beq_eq_false_iff_ne.mp hm
theorem Dl.reads (I : Inv X pins σ H s) : ∀ (ds : List PyData) (vs : List V) (us : List Value), Dl X.K ι H vs ds → Vals vs us → bareL ds = true → ∃ as, ReadsAll s.heap us ds as ∧ (listsL ds = false → ∀ a ∈ as, a ≠ sysModules)
  | [], _, _, h, r, _ => by
    cases h; cases r
    exact ⟨_, ReadsAll.nil, fun _ a ha => by cases ha⟩
  | d :: ds, _, _, h, r, hb => by
    cases h with
    | cons h1 h2 =>
      cases r with
      | cons r1 r2 =>
        have hb' : bareD d = true ∧ bareL ds = true := by simpa [bareL] using hb
        obtain ⟨as, q1, n1⟩ := Dv.reads I d _ _ h1 r1 hb'.1
        obtain ⟨bs, q2, n2⟩ := Dl.reads I ds _ _ h2 r2 hb'.2
        refine ⟨_, ReadsAll.cons q1 q2, fun z a ha => ?_⟩
        have z' : listsD d = false ∧ listsL ds = false := by simpa [listsL] using z
        rcases List.mem_append.mp ha with q | q
        · exact n1 z'.1 a q
        · exact n2 z'.2 a q
end
end
def repOk (d : PyData) : Bool := d.showable && decide (d.shown.length ≤ sizeLine) && decide (d.depth ≤ 64) && bareD d && (!d.hasDict || !listsD d)
def fRepr : FN := fun ws S => match ws with
  | [.dat d] => if repOk d = true then .ok (.dat (.str d.shown)) S else .stuck
  | _ => .stuck
def rRepr (K : PySem.W.Frag) : List V → Hp → VK → Prop := fun vs H Q => ∃ (ι : Io) (v : V) (d : PyData), vs = [v] ∧ Dv K ι H v d ∧ repOk d = true ∧ Q (.str d.shown) H
theorem so_repr {K : PySem.W.Frag} {cl : Nat → Addr} : SoN K cl (rRepr K) fRepr := fun ι S H ws vs Q E st r g => by
  unfold fRepr at g
  split at g
  · rename_i d
    split at g
    · rename_i hr
      obtain ⟨v, rfl, rw⟩ := pd1 r
      exact ⟨ι, v, d, rfl, rw, hr, Gd.val (R := Rw K) g st (.str _)⟩
    · exact g.elim
  · exact g.elim
theorem call_reprD {X : Cx} (hG : X.A.guards = some []) (hu : X.A.units + 200 < cLine) : CallR X (.builtin "repr") (rRepr X.K) := by
  intro pins s σ H vs us Q I r h
  obtain ⟨ι, v, d, rfl, hd, ok, q⟩ := h
  obtain ⟨u, rfl, rv⟩ := vals1 r
  unfold repOk at ok
  simp only [Bool.and_eq_true, decide_eq_true_eq] at ok
  obtain ⟨⟨⟨⟨h1, h2⟩, h3⟩, h4⟩, h5⟩ := ok
  have fin : ∀ (h' : Heap) (t : Tok) (tk : Nat), (∀ b o, s.heap.get? b = some o → h'.get? b = some o) → EP X pins σ Q (.str d.shown t) { s with heap := h', toks := tk } :=
    fun h' t tk k => ⟨.str d.shown, H, I.kept (t' := tk) k, ⟨t, rfl⟩, q⟩
  obtain ⟨as, hr, hn⟩ := hd.reads I d _ _ rv h4
  cases hd with
  | non => cases rv; exact PySem.P.repr_of_none (fin _ _ _ fun _ _ z => z)
  | bl b =>
    cases rv
    refine PySem.P.repr_of_bool ?_
    have := fin s.heap s.toks (s.toks + 1) fun _ _ z => z
    exact this
  | int i =>
    obtain ⟨t, rfl⟩ := rv
    exact PySem.P.repr_of_int (by simpa [PyData.showable] using h1) (fin _ _ _ fun _ _ z => z)
  | str x =>
    obtain ⟨t, rfl⟩ := rv
    exact PySem.P.repr_of_str (fin _ _ _ fun _ _ z => z) h2
  | lst _ _ _ =>
    cases rv
    refine repr_of_reads' hr h1 (fun hd hm => ?_) hG (by omega) (fun _ _ z => z) (fun h' t tk k => fin h' t tk k) h2
    rw [hd] at h5
    simp [listsD] at h5
  | tup _ _ =>
    cases rv
    refine repr_of_reads' hr h1 (fun hd hm => ?_) hG (by omega) (fun _ _ z => z) (fun h' t tk k => fin h' t tk k) h2
    rw [hd] at h5
    exact hn (by simpa using h5) _ hm rfl
  | dic _ _ _ =>
    cases rv
    refine repr_of_reads' hr h1 (fun hd hm => ?_) hG (by omega) (fun _ _ z => z) (fun h' t tk k => fin h' t tk k) h2
    exact hn (by simp [listsD]) _ hm rfl
end Sm

set_option Elab.async false
set_option linter.all false
set_option maxRecDepth 100000
set_option maxHeartbeats 2000000
/-! SmS: slices of tuples with a step. -/
namespace Sm
open PySem PySem.Spec PyProof.Rows L2
/-- the items of a slice with a step -/
def stepL {α : Type} (xs : List α) (lo hi : Option Int) (st : Int) : List α :=
  (List.range (Builtin.Slice.slicePlaces (Builtin.Slice.sliceAdjust lo hi st (xs.length : Int)).1 (Builtin.Slice.sliceAdjust lo hi st (xs.length : Int)).2 st)).filterMap
    fun k : Nat => xs[((Builtin.Slice.sliceAdjust lo hi st (xs.length : Int)).1 + (k : Int) * st).toNat]?
section
variable {prog : Program} {w : World} {A : Around} {E : Value → Shared → Prop} {s : Shared}
theorem sliceApplied_st {sl : Addr} {vl vu vs : Value} {lo hi : Option Int} {st : Int} {n : Nat} {Q : Int × Int × Nat → Shared → Prop} (hs : s.heap.IsSliceOf sl vl vu vs) (pl : IsPart vl lo) (pu : IsPart vu hi) (ps : IsPart vs (some st)) (h0 : st ≠ 0)
    (h : Q ((Builtin.Slice.sliceAdjust lo hi st (n : Int)).1, st, Builtin.Slice.slicePlaces (Builtin.Slice.sliceAdjust lo hi st (n : Int)).1 (Builtin.Slice.sliceAdjust lo hi st (n : Int)).2 st) s) :
    wpAny (model prog w) A (Builtin.Slice.sliceApplied (.ref sl) (pure (n : Int))) Q E s := by
  obtain ⟨os, hos, hcs, hds⟩ := id hs
  unfold Builtin.Slice.sliceApplied Builtin.Slice.sliceFields
  refine wpAny_bind (wpAny_bind (wpAny_field hos hds (x := vl) rfl
    (wpAny_bind (wpAny_field hos hds (x := vu) rfl (wpAny_bind
      (wpAny_field hos hds (x := vs) rfl (wpAny_pure ?_)))))))
  refine wpAny_bind (HT.slicePart_ ps ?_)
  show wpAny _ _ (if (st == 0) = true then _ else _) _ _ s
  rw [if_neg (by simpa using h0)]
  refine wpAny_bind (HT.slicePart_ pl (wpAny_bind
    (HT.slicePart_ pu (wpAny_bind (wpAny_pure ?_)))))
  exact wpAny_pure h
theorem tuple_st {t sl : Addr} {items : List Value} {vl vu vs : Value} {lo hi : Option Int} {st : Int} {Q : Value → Shared → Prop} (ht : IsTup s.heap t items.toArray) (hs : s.heap.IsSliceOf sl vl vu vs) (pl : IsPart vl lo) (pu : IsPart vu hi) (ps : IsPart vs (some st)) (h0 : st ≠ 0) (h1 : st ≠ 1)
    (h : Q (.ref s.heap.objs.size) { s with heap := s.heap.push { cls := .type "tuple", data := .seq (stepL items lo hi st).toArray } })
    (hsz : (stepL items lo hi st).length ≤ sizeLine) : wpAny (model prog w) A (getItem (.ref t) (.ref sl)) Q E s := by
  have hok : sizeOk (.seq (stepL items lo hi st).toArray) := by
    show (stepL items lo hi st).toArray.size ≤ sizeLine
    rw [List.size_toArray]
    exact hsz
  obtain ⟨os, hos, hcs, hds⟩ := id hs
  have hTs : s.TypeIs (.ref sl) "slice" := ⟨os, hos, hcs⟩
  unfold getItem
  try with_reducible refine wpAny_holding ?_
  first | refine wpAny_bind (wpAny_pure ?_) | skip
  refine wpAny_bind (wpAny_sequenceKey ht.typeIs
    (by decide) ?_)
  refine wpAny_bind (wpAny_callSpecial?_slot (name := Str.ofString "__getitem__")
    ht.typeIs PyProof.Rows.slot_tuple_getitem
    (wpAny_call_entry PyProof.Rows.slot_tuple_getitem ht.typeIs
      entry_tuple_getitem ?_ (args_tuple_getitem _ _)))
  show wpAny _ _ (Builtin.Tuple.tupleItemsOf (.ref t)
    >>= _) _ _ s
  refine wpAny_bind (tupleItemsOf_ ht ?_)
  refine wpAny_bind (wpAny_typeOf hTs
    ?_)
  rw [if_pos (by decide)]
  refine wpAny_bind (sliceApplied_st (n := items.toArray.size) hs pl pu ps h0 ?_)
  have e : items.toArray.size = items.length := by simp
  rw [e]
  dsimp only
  have hno : ¬ (((Builtin.Slice.sliceAdjust lo hi st (items.length : Int)).1 == 0 && st == 1 && Builtin.Slice.slicePlaces (Builtin.Slice.sliceAdjust lo hi st (items.length : Int)).1 (Builtin.Slice.sliceAdjust lo hi st (items.length : Int)).2 st == items.length) = true) := by
    intro q
    rw [Bool.and_eq_true, Bool.and_eq_true] at q
    exact h1 (eq_of_beq q.1.2)
  rw [if_neg hno]
  have e2 : ((List.range (Builtin.Slice.slicePlaces (Builtin.Slice.sliceAdjust lo hi st (items.length : Int)).1 (Builtin.Slice.sliceAdjust lo hi st (items.length : Int)).2 st)).filterMap fun k : Nat => items.toArray[((Builtin.Slice.sliceAdjust lo hi st (items.length : Int)).1 + (k : Int) * st).toNat]?).toArray = (stepL items lo hi st).toArray := by
    unfold stepL
    congr 2
    funext k
    simp
  rw [e2]
  first
    | exact wpAny_bind (m := Builtin.Tuple.tupleExact _)
        (wpAny_newObj_type (wpAny_pure ⟨_, rfl, wpAny_pure h⟩) hok)
    | exact wpAny_bind (m := Builtin.Tuple.tupleExact _)
        (wpAny_newObj_type (wpAny_bind (wpAny_pure (wpAny_pure ⟨_, rfl, wpAny_pure h⟩))) hok)
end
theorem stepL_rel {K : PySem.W.Frag} {ι : Io} {H : Hp} {xs : List V} {ds : List PyData} (d : Dl K ι H xs ds) (lo hi : Option Int) (st : Int) : Dl K ι H (stepL xs lo hi st) (stepL ds lo hi st) := by
  unfold stepL
  rw [d.length]
  generalize Builtin.Slice.slicePlaces _ _ _ = n
  generalize (Builtin.Slice.sliceAdjust lo hi st (ds.length : Int)).1 = a
  induction List.range n with
  | nil => exact .nil
  | cons k r ih =>
    rw [List.filterMap_cons, List.filterMap_cons]
    cases h : ds[(a + (k : Int) * st).toNat]? with
    | none =>
      have : xs[(a + (k : Int) * st).toNat]? = none := by
        rw [List.getElem?_eq_none_iff] at h ⊢
        rw [d.length]
        exact h
      rw [this]
      exact ih
    | some z =>
      obtain ⟨v, h1, h2⟩ := d.get _ _ h
      rw [h1]
      exact .cons h2 ih
theorem stepL_vals {xs : List V} {us : List Value} (r : Vals xs us) (lo hi : Option Int) (st : Int) : Vals (stepL xs lo hi st) (stepL us lo hi st) := by
  unfold stepL
  rw [r.length]
  generalize Builtin.Slice.slicePlaces _ _ _ = n
  generalize (Builtin.Slice.sliceAdjust lo hi st (us.length : Int)).1 = a
  induction List.range n with
  | nil => exact .nil
  | cons k q ih =>
    rw [List.filterMap_cons, List.filterMap_cons]
    cases h : xs[(a + (k : Int) * st).toNat]? with
    | none =>
      rw [r.none_of h]
      exact ih
    | some z =>
      obtain ⟨v, h1, h2⟩ := r.get h
      rw [h1]
      exact .cons h2 ih
def slSD (d : PyData) (lo hi : Option Int) (st : Int) : Option PyData := match d with
  | .tuple ds => if (stepL ds lo hi st).length ≤ sizeLine then some (.tuple (stepL ds lo hi st)) else none
  | _ => none
/-- the step is written -/
def mSlS (a : ME) (lo hi : MO) (st : Int) : ME := fun ρ S => (a ρ S).bind fun x S => (lo ρ S).bind fun l S => (hi ρ S).bind fun h S => match x with
  | .dat d => ofO (slSD d l h st) .dat S
  | _ => .stuck
section
variable {X : Cx} {cl : Nat → Addr} {Wx : Wi} {e se : Expr} {m : ME} {lo hi : Option Expr} {ml mh : MO} {pos p2 : Pos} {st : Int}
theorem b_slS (h0 : st ≠ 0) (h1 : st ≠ 1) (he : PE X e (bE X.K cl Wx m)) (hl : PO X lo (bO X.K cl Wx ml)) (hu : PO X hi (bO X.K cl Wx mh)) (hst : PO X (some se) (fun _ H Q => Q (some st) H)) : PE X (.Subscript e (.Slice lo hi (some se) p2) pos) (bE X.K cl Wx (mSlS m ml mh st)) := by
  refine ⟨fun pins s σ H Q I h => ?_⟩
  obtain ⟨ι, S, ρ, s0, en, g⟩ := h
  refine Subscript_ (thn (he.run pins s σ H _ I ⟨ι, S, ρ, s0, en, Gd.bind (R := Rw X.K) g⟩)
    fun v s1 ⟨x, H1, I1, r1, q1⟩ => ?_)
  obtain ⟨ι1, S1, w1, t1, st1, rw1, g1⟩ := q1
  refine wpAny_Slice (thn (hl.run pins s1 σ H1 _ I1 ⟨ι1, S1, ρ, st1, en.mono t1, Gd.bind (R := fun _ _ a b => a = b) g1⟩)
    fun vl s2 ⟨l, H2, I2, pl, q2⟩ => ?_)
  obtain ⟨ι2, S2, w2, t2, st2, rw2, g2⟩ := q2
  refine thn (hu.run pins s2 σ H2 _ I2 ⟨ι2, S2, ρ, st2, en.mono (t1.trans t2), Gd.bind (R := fun _ _ a b => a = b) g2⟩)
    fun vu s3 ⟨u, H3, I3, pu, q3⟩ => ?_
  obtain ⟨ι3, S3, w3, t3, st3, rw3, g3⟩ := q3
  subst rw2 rw3
  refine thn (hst.run pins s3 σ H3 (fun o H4 => o = some st ∧ H4 = H3) I3 ⟨rfl, rfl⟩)
    fun vs s4 ⟨o, H4, I4, ps, eo, e4⟩ => ?_
  subst eo e4
  have r4 := rw1.mono (t2.trans t3)
  have I5 : Inv X pins σ H4 { s4 with heap := s4.heap.push { cls := .type "slice", data := .fields #[vl, vu, vs] } } :=
    I4.kept (t' := s4.toks) fun b ob q => Heap.get?_push_of_some _ q
  cases w1 with
  | ref i => exact g3.elim
  | scr i => exact g3.elim
  | dat d =>
    obtain ⟨z, hz, g4⟩ := gd_ofO (o := slSD d w2 w3 st) g3
    unfold slSD at hz
    split at hz
    · rename_i ds
      split at hz
      · rename_i hlen
        have ez := Option.some.inj hz
        subst ez
        obtain ⟨a, xs, rfl, k1, k3⟩ := dv_tup r4
        cases r1
        obtain ⟨its, r, ht, hz'⟩ := I5.tuple k1.sq
        have rel := stepL_rel k3 w2 w3 st
        show wpAny (model X.prog X.w) X.A (subscriptTail e (.Slice lo hi (some se) p2) (.ref a) (.ref s4.heap.objs.size)) (EP X pins σ Q) X.xe { s4 with heap := s4.heap.push { cls := .type "slice", data := .fields #[vl, vu, vs] } }
        refine tail_any (ops := [.ref a, .ref s4.heap.objs.size]) ht.typeIs (PyProof.Rows.slot_tuple_getitem.lookup) ?_ (by with_unfolding_all rfl)
        refine tuple_st ht (Heap.IsSliceOf.new _ vl vu vs) pl pu ps h0 h1 ?_ (by rw [← (stepL_vals r w2 w3 st).length, rel.length]; exact hlen)
        refine ⟨.ref _, _, I5.laid (t' := s4.toks) (o := .tup (stepL xs w2 w3 st)) (fun b ob q => Heap.get?_push_of_some _ q) (Nat.le_refl _) ?_, rfl,
          Gd.tup g4 st3 rel _ (I5.hok.fresh (Nat.le_refl _))⟩
        exact ⟨by rw [rel.length]; exact hlen, _, stepL_vals r w2 w3 st, IsTup.new _ _⟩
      · cases hz
    · cases hz
theorem po_neg1 {k : Nat} {p1 p2 : Pos} : PO X (some (.UnaryOp .USub (.Constant (.int 1) k p1) p2)) (fun _ H Q => Q (some (-1)) H) := po_to (po_some (pe_un un_neg pe_int)) fun σ H Q q => ⟨1, rfl, -1, rfl, q⟩
theorem po_int {i : Int} {k : Nat} {p1 : Pos} : PO X (some (.Constant (.int i) k p1)) (fun _ H Q => Q (some i) H) := po_to (po_some pe_int) fun σ H Q q => ⟨i, rfl, q⟩
end
end Sm

set_option Elab.async false
set_option linter.all false
set_option maxRecDepth 100000
set_option maxHeartbeats 2000000
/-! Sm8: what the printed proofs ask besides. -/
namespace Sm
open PySem PySem.Spec PyProof.Rows L2
/-- a def of the text as it stands behind the top -/
structure Df (K : PySem.W.Frag) (mg : Str → Option Value) (x : Str) (st : Stmt) (ps : List Str) (f : Addr) (fd : FuncData) : Prop where
  fn : Fun K x x st f fd
  gl : mg x = some (.ref f)
  bt : ∀ (s : Shared) (us : List Value), us.length = ps.length → BindsTo s fd ⟨us, []⟩ (ps.zip us)
theorem Df.bd {K : PySem.W.Frag} {mg : Str → Option Value} {x : Str} {st : Stmt} {ps : List Str} {f : Addr} {fd : FuncData} (D : Df K mg x st ps f fd) : Binds K fd ps [] := fun s us _ hl => by
  rw [List.append_nil] at hl ⊢
  exact D.bt s us hl
theorem hu_64 {k : Nat} {A : Around} (hr : Room k A) : A.units + 64 < cLine := by
  have := hr.un
  omega
theorem hu_200 {k : Nat} {A : Around} (hr : Room k A) : A.units + 200 < cLine := by
  have := hr.un
  omega
theorem spM_stuck {K : PySem.W.Frag} {cl : Nat → Addr} {n : Nat} {vs : List V} {H : Hp} {Q : VK} {E : XK} (h : spM K cl n (fun _ _ => .stuck) vs H Q E) : False := by
  obtain ⟨_, _, _, _, _, _, g⟩ := h
  exact g
theorem pok_ws {i j : Nat} {a : Addr} (h : j ≠ i) : Pok (Ws i a).p j := fun σ v hp hl => by
  rw [List.getElem?_set_ne h]
  exact hp (by rw [List.length_set] at hl; exact hl)
/-! ### a module's constants -/
section
variable {X : Cx} {cl : Nat → Addr} {Wx : Wi} {x : Str} {pos : Pos}
theorem b_gint {i : Int} {t : Tok} (hg : Gl X x) (hm : X.mg x = some (.int i t)) (hd : (x == ("__debug__" : Str)) = false := by decide) : PE X (.Name x pos) (bE X.K cl Wx (mC (.int i))) := b_c (pe_glob (v := .int i) hg hm ⟨t, rfl⟩ hd) fun _ _ => .int _
theorem b_gstr {i : Str} {t : Tok} (hg : Gl X x) (hm : X.mg x = some (.str i t)) (hd : (x == ("__debug__" : Str)) = false := by decide) : PE X (.Name x pos) (bE X.K cl Wx (mC (.str i))) := b_c (pe_glob (v := .str i) hg hm ⟨t, rfl⟩ hd) fun _ _ => .str _
theorem b_gref {a : Addr} {d : PyData} (hg : Gl X x) (hm : X.mg x = some (.ref a)) (hk : ∀ ι H, Dv X.K ι H (.ref a) d) (hd : (x == ("__debug__" : Str)) = false := by decide) : PE X (.Name x pos) (bE X.K cl Wx (mC d)) := b_c (pe_glob (v := .ref a) hg hm rfl hd) hk
end
section
variable {X : Cx} {cl : Nat → Addr} {Wx : Wi} {elt tg iter : Expr} {scope : Scope} {own : List (Str × Nat)} {pos spos py : Pos} {mi : MI} {g : TG} {f : GF} {me : ME}
theorem b_setLcD {i : Nat} {y : Str} (own : List (Str × Nat)) (hP : Pok Wx.p i) (hc : X.calm = true) (hN : X.N.Nodup) (hy : X.N[i]? = some y) (hyl : X.env.scope.names.lookup y = some .local)
    (hsw : swapsWith (.ListComp elt [⟨tg, iter, [], 0⟩] scope pos) (some (.Name y py)) spos.line X.env = pure true) (hi : PI X tg iter (bI X.K cl Wx mi)) (ok : BlkOk X.N X.env.scope scope own)
    (hg : ∀ (s : Shared) (H : Hp) (C : Addr) (cl : List (Str × Addr)) (fp : List Addr), PG (X.blk s H scope (compEnvC scope cl C X.env) fp) tg g) (so : SoC X.K g f (own.map (·.2)))
    (he : ∀ (s : Shared) (H : Hp) (C : Addr) (l : List (Str × Addr)) (fp : List Addr), PE (X.blk s H scope (compEnvC scope l C X.env) fp) elt (bE X.K cl W0 me)) (hs : ∀ x, foldedSetIterable iter X.env x = pure x := by intro _; rfl) :
    PS X (.Assign [.Name y py] (.ListComp elt [⟨tg, iter, [], 0⟩] scope pos) spos) (bS X.K cl Wx (mSet i (mOfL (mLc mi f mYes me (own.map (·.2)))))) := b_setLc (fun _ _ _ => ofL_read) hP hc hN hy hyl hsw hi ok hg so he hs
theorem b_setLcN {i : Nat} {y : Str} (own : List (Str × Nat)) (hP : Pok Wx.p i) (hc : X.calm = true) (hN : X.N.Nodup) (hy : X.N[i]? = some y) (hyl : X.env.scope.names.lookup y = some .local)
    (hsw : swapsWith (.ListComp elt [⟨tg, iter, [], 0⟩] scope pos) (some (.Name y py)) spos.line X.env = pure true) (hi : PI X tg iter (bI X.K cl Wx mi)) (ok : BlkOk X.N X.env.scope scope own)
    (hg : ∀ (s : Shared) (H : Hp) (C : Addr) (cl : List (Str × Addr)) (fp : List Addr), PG (X.blk s H scope (compEnvC scope cl C X.env) fp) tg g) (so : SoC X.K g f (own.map (·.2)))
    (he : ∀ (s : Shared) (H : Hp) (C : Addr) (l : List (Str × Addr)) (fp : List Addr), PE (X.blk s H scope (compEnvC scope l C X.env) fp) elt (bE X.K cl W0 me)) (hs : ∀ x, foldedSetIterable iter X.env x = pure x := by intro _; rfl) :
    PS X (.Assign [.Name y py] (.ListComp elt [⟨tg, iter, [], 0⟩] scope pos) spos) (bS X.K cl Wx (mSet i (mNew (mLc mi f mYes me (own.map (·.2)))))) := b_setLc (fun _ _ _ => new_read) hP hc hN hy hyl hsw hi ok hg so he hs
end
/-! ### comparisons as tests -/
section
variable {X : Cx} {cl : Nat → Addr} {Wx : Wi} {a b c : Expr} {ma mb mc m : ME} {pos : Pos} {f g : F2} {r r' : R2}
theorem mT_read {K : PySem.W.Frag} {σ : L2.St} {H : Hp} {Q : Bool → Hp → Prop} (h : bT K cl Wx (mT m) σ H Q) : bE K cl Wx m σ H fun x H1 => ∃ c, x = .bl c ∧ Q c H1 := by
  obtain ⟨ι, S, ρ, st, en, g⟩ := h
  refine ⟨ι, S, ρ, st, en, (Gd.bind (R := Rw K) g).imp fun x H1 ⟨ι1, S1, w1, s1, st1, r1, g1⟩ => ?_⟩
  cases w1 with
  | ref i => exact g1.elim
  | scr i => exact g1.elim
  | dat d =>
    cases d <;> first | exact g1.elim | skip
    cases r1
    exact ⟨_, rfl, Gd.val (R := fun _ _ a b => a = b) g1 st1 rfl⟩
theorem b_tcmp {op : CmpOp} (ho : OpR X (compareOp op) r) (hs : So2 X.K cl r f) (ha : PE X a (bE X.K cl Wx ma)) (hb : PE X b (bE X.K cl Wx mb)) (hm : behindInMarks op b = false) : PT X (.Compare a [op] [b] pos) (bT X.K cl Wx (mT (mOp2 f ma mb))) :=
  pt_to (pt_cmpR ho ha hb hm) fun σ H Q h => two hs (mT_read h)
theorem b_tisN {k : Nat} {np : Pos} (ha : PE X a (bE X.K cl Wx ma)) : PT X (.Compare a [.Is] [.Constant .none k np] pos) (bT X.K cl Wx (mT (mIsNo false ma))) :=
  pt_to (pt_cmpR op_isN ha pe_non (nomark _)) fun σ H Q h => by
    obtain ⟨ι, S, ρ, st, en, g⟩ := mT_read h
    exact ⟨ι, S, ρ, st, en, (Gd.bind (R := Rw X.K) g).imp fun x H1 ⟨ι1, S1, w1, s1, st1, r1, g1⟩ => ⟨rfl, isN_core (neg := false) st1 r1 g1⟩⟩
theorem b_tnotN {k : Nat} {np : Pos} (ha : PE X a (bE X.K cl Wx ma)) : PT X (.Compare a [.IsNot] [.Constant .none k np] pos) (bT X.K cl Wx (mT (mIsNo true ma))) :=
  pt_to (pt_cmpR op_notN ha pe_non (nomark _)) fun σ H Q h => by
    obtain ⟨ι, S, ρ, st, en, g⟩ := mT_read h
    exact ⟨ι, S, ρ, st, en, (Gd.bind (R := Rw X.K) g).imp fun x H1 ⟨ι1, S1, w1, s1, st1, r1, g1⟩ => ⟨rfl, isN_core (neg := true) st1 r1 g1⟩⟩
end
end Sm

set_option Elab.async false
set_option linter.all false
set_option maxRecDepth 100000
set_option maxHeartbeats 2000000
/-! SmE: the end of a law's row. -/
namespace Sm
open PySem PySem.Spec PyProof.Rows L2
section
variable {P : Program} {w : World} {K : PySem.W.Frag} {mg mb : Str → Option Value} {k : Nat} {fa a : Addr} {fd : FuncData} {x : Str} {sp : Sp} {s1 : Shared} {us : List Value} {ns : List Int}
/-- what the row asks of the law's call -/
def Told (s1 : Shared) (r : Result) (s' : Shared) : Prop := r = .ok (.ret (.bool true)) ∧ OldK s1.heap s'.heap ∧ s'.os = s1.os ∧ AllBare s'.gens
theorem told_of (F : ∀ base : Heap, K.In base → base.Ns mainGlobals mg → FnG P w K mg base k fa fd [x] sp) (KX : K.In s1.heap) (hn : s1.heap.Ns mainGlobals mg) (hb : s1.heap.Ns builtinsNs mb) (hbb : ∀ x : Str, x ≠ "__name__" → mb x = bootBuiltins x)
    (lim : s1.heap.NoLimit) (bare : s1.gens = #[]) (ha : s1.heap.get? a = some { cls := .type "list", data := .seq us.toArray }) (hr : Room k callerA) (hbind : ∀ (s : Shared) (u : Value), BindsTo s fd ⟨[u], []⟩ [(x, u)])
    (H : Hp) (only : Only H) (q : sp [.ref a] H (fun v _ => v = .bl true) fun _ _ _ => False) (ok : HOk P w H s1.heap) (hA : ∀ b, H b ≠ none → b = a) (hK : H a ≠ none → K.lookup a = none) :
    codeAny (model P w) callerA (.call (.ref fa) ⟨[.ref a], []⟩) (Told s1) s1 := by
  have at0 : ∀ {b : Addr} {o : Obj}, s1.heap.get? b = some o → H b = none → (hidT s1.heap H).get? b = some o :=
    fun e n => hidT_get e n
  have dictNot : ∀ {b : Addr} {o : Obj} {es : Array DictEntry} {ep : Nat}, s1.heap.get? b = some o → o.data = .dict es ep → H b = none := by
    intro b o es ep e d
    cases q : H b with
    | none => rfl
    | some u =>
      have z : b = a := hA b (by rw [q]; exact fun z => by cases z)
      rw [z, ha] at e
      have e' := Option.some.inj e
      rw [← e'] at d
      cases d
  have ns0 : ∀ {b : Addr} {m : Str → Option Value}, s1.heap.Ns b m → (hidT s1.heap H).Ns b m := by
    intro b m h
    obtain ⟨o, es, ep, e, d, r⟩ := h
    exact ⟨o, es, ep, at0 e (dictNot e d), d, r⟩
  have kin : K.In (hidT s1.heap H) := by
    intro b o e
    refine at0 (KX b o e) ?_
    cases q : H b with
    | none => rfl
    | some u =>
      have z : b = a := hA b (by rw [q]; exact fun z => by cases z)
      rw [z] at e q
      rw [hK (by rw [q]; exact fun z => by cases z)] at e
      cases e
  have md : Mod K mg (hidT s1.heap H) := by
    obtain ⟨mc, l1, l2⟩ := lim
    exact ⟨kin, ns0 hn, ⟨mb, ns0 hb, hbb⟩, ⟨mc, ns0 l1, l2⟩⟩
  have noF : ∀ {b : Addr}, b ∉ frs ([] : List Env) := fun {b} h => by cases h
  have e0 : Env0 P w K mg (hidT s1.heap H) callerA [] s1 H := by
    refine ⟨rfl, md, fun b o e => of_hidT e, Nat.le_of_eq (hidT_size _ _), trivial, fun b h => absurd h noF, ok, .of_eq bare⟩
  have run := (F _ kin (ns0 hn)).run callerA [] s1 H ⟨[.ref a], []⟩ [.ref a] [.ref a] _ _ rfl hr e0 (hbind s1 (.ref a)) (.cons rfl .nil) q
  refine codeAny_mono run fun r s' h => ?_
  cases r with
  | error e =>
    obtain ⟨_, _, _, _, _, _, _, _, _, _, _, _, z⟩ := (show L2.CX P w [] H s1 (fun _ _ _ => False) e s' from h)
    exact z.elim
  | ok fl =>
    cases fl with
    | ret u =>
      obtain ⟨v, H', os, br, un, ok', rv, qv⟩ := h
      have qv' : v = .bl true := qv
      rw [qv'] at rv
      have eu : u = Value.bool true := rv
      rw [eu]
      refine ⟨rfl, OldK.of_keep fun b o e => ?_, os, br⟩
      cases z : H b with
      | none => exact un.keep b o e z noF (fun z => by cases z)
      | some u =>
        rcases only b with y | ⟨ob, xs, y⟩
        · rw [z] at y
          cases y
        · obtain ⟨e1, _⟩ := ok b _ y
          obtain ⟨e2, _⟩ := ok' b _ (un.frzs b ob _ y)
          rw [e] at e1
          rw [Option.some.inj e1]
          exact e2
    | next => exact False.elim h
    | brk => exact False.elim h
    | cont => exact False.elim h
/-- the law's call over the script, as an object of the top's or as one that is only read -/
theorem told_call (F : ∀ base : Heap, K.In base → base.Ns mainGlobals mg → FnG P w K mg base k fa fd [x] sp) (KX : K.In s1.heap) (hn : s1.heap.Ns mainGlobals mg) (hb : s1.heap.Ns builtinsNs mb) (hbb : ∀ x : Str, x ≠ "__name__" → mb x = bootBuiltins x)
    (lim : s1.heap.NoLimit) (bare : s1.gens = #[]) (ha : s1.heap.get? a = some { cls := .type "list", data := .seq us.toArray }) (hi : IntsAre us ns) (hl : ns.length ≤ sizeLine) (hr : Room k callerA) (hbind : ∀ (s : Shared) (u : Value), BindsTo s fd ⟨[u], []⟩ [(x, u)])
    (hsp : ∀ (H : Hp) (ι : Io), Only H → ι = ⟨[], []⟩ → SlN K ι H a (ns.map V.int) → sp [.ref a] H (fun v _ => v = .bl true) fun _ _ _ => False) :
    codeAny (model P w) callerA (.call (.ref fa) ⟨[.ref a], []⟩) (Told s1) s1 := by
  have rv := vals_ints hi
  have cold : ¬ live ⟨[], []⟩ a := fun z => by
    rcases z with ⟨i, e⟩ | z
    · cases e
    · cases z
  by_cases hk : (K.lookup a).isSome = true
  · obtain ⟨o, ho⟩ := Option.isSome_iff_exists.mp hk
    have eo := (KX a o ho).symm.trans ha
    have eo' := Option.some.inj eo
    subst eo'
    refine told_of F KX hn hb hbb lim bare ha hr hbind (fun _ => none) (fun _ => .inl rfl) (hsp _ _ (fun _ => .inl rfl) rfl (.inr ⟨_, us.toArray, _, ho, rfl, rfl, rfl, ?_, ?_⟩)) ?_ ?_ ?_
    · rw [List.size_toArray, hi.length]
      exact hl
    · rw [List.toList_toArray]
      exact rv
    · intro b u z
      cases z
    · exact fun b z => absurd rfl z
    · exact fun z => absurd rfl z
  · have hk' : K.lookup a = none := by
      cases e : K.lookup a with
      | none => rfl
      | some o => rw [e] at hk; exact absurd rfl hk
    let ob : Obj := { cls := .type "list", data := .seq us.toArray }
    let H : Hp := fun b => if b = a then some (.frz ob (.lst (ns.map V.int))) else none
    have h1 : H a = some (.frz ob (.lst (ns.map V.int))) := if_pos rfl
    have h2 : ∀ b, b ≠ a → H b = none := fun b hb => if_neg hb
    have only : Only H := fun b => by
      by_cases z : b = a
      · rw [z]
        exact .inr ⟨_, _, h1⟩
      · exact .inl (h2 b z)
    refine told_of F KX hn hb hbb lim bare ha hr hbind H only (hsp H _ only rfl (.inl ⟨.inr ⟨ob, h1⟩, cold⟩)) ?_ ?_ (fun _ => hk')
    · intro b u z
      by_cases y : b = a
      · rw [y, h1] at z
        have z' := Option.some.inj z
        subst z'
        rw [y]
        exact ⟨ha, by rw [List.length_map]; exact hl, us, _, rv, ha⟩
      · rw [h2 b y] at z
        cases z
    · intro b z
      by_cases y : b = a
      · exact y
      · exact absurd (h2 b y) z
end
/-- the goal that k_head leaves -/
theorem walk_G {l : PySem.W.OpenLaw} {n k : Nat} {q : Program} {loose : List Str} {XP : (Str → Option Value) → Heap → Prop} {YP : World → Heap → Prop} {d : DefRec} {K : Params → PySem.W.Frag} {sp : PySem.W.Frag → (Nat → Addr) → Sp} {x : Str}
    (hn : l.most = some n) (hn2 : n ≤ sizeLine) (hdf : d.params.defaults = []) (hr : Room k callerA) (hY : ∀ (w : World) (h : Heap), YP w h → (K w.params).In h)
    (F : ∀ (w : World) (mg : Str → Option Value) (fa : Addr) (h : Heap), (K w.params).In h → h.Ns mainGlobals mg → mg d.name = some (.ref fa) →
      ∃ (cl : Nat → Addr) (fd : FuncData), (∀ (s : Shared) (u : Value), BindsTo s fd ⟨[u], []⟩ [(x, u)]) ∧ ∀ base : Heap, (K w.params).In base → base.Ns mainGlobals mg → FnG l.prog w (K w.params) mg base k fa fd [x] (sp (K w.params) cl))
    (hsp : ∀ (K : PySem.W.Frag) (cl : Nat → Addr) (H : Hp) (ι : Io) (a : Addr) (ns : List Int), ns.length ≤ n → (∀ z ∈ ns, Builtin.Int.intBits z ≤ 1048576) → ι = ⟨[], []⟩ → SlN K ι H a (ns.map V.int) → sp K cl [.ref a] H (fun v _ => v = .bl true) fun _ _ _ => False) :
    PySem.W.WalkO q loose XP YP l.row.toRowW d [] (fun f vs => PySem.call f vs) := by
  refine Att.attach_callB hn hdf
    fun w s0 s1 mg mb fa o pm cd doc a us ns G Y ho hd hcd hmg hobj hints hlen hbits hg => ?_
  have KX := hY w _ Y
  obtain ⟨cl, fd, hbd, hF⟩ := F w mg fa _ KX G.T.g hmg
  exact told_call hF KX G.T.g G.T.b G.T.builtins G.T.nolimit hg hobj hints (Nat.le_trans hlen hn2) hr hbd
    fun H ι _ e hS => hsp _ cl H ι a ns hlen hbits e hS
/-- the law's promise, from what its mirror tells of the script -/
theorem sp_law {mf : FN} {n : Nat} (h : ∀ ns : List Int, ns.length ≤ n → (∀ z ∈ ns, Builtin.Int.intBits z ≤ 1048576) → ∃ S, mf [.scr ns] [] = .ok (.dat (.bool true)) S)
    (K : PySem.W.Frag) (cl : Nat → Addr) (H : Hp) (ι : Io) (a : Addr) (ns : List Int) (hl : ns.length ≤ n) (hb : ∀ z ∈ ns, Builtin.Int.intBits z ≤ 1048576) (e : ι = ⟨[], []⟩) (hS : SlN K ι H a (ns.map V.int)) :
    spM K cl 1 mf [.ref a] H (fun v _ => v = .bl true) fun _ _ _ => False := by
  subst e
  obtain ⟨S, hm⟩ := h ns hl hb
  refine ⟨rfl, ⟨[], []⟩, [], [.scr ns], ⟨rfl, fun i j a e => by simp at e, fun i e => by simp at e, fun i o e => by simp at e, fun a h => by cases h⟩, .cons ⟨a, rfl, hS⟩ .nil, ?_⟩
  rw [hm]
  intro ι' H' b s st r
  cases r
  rfl
/-! ### the facts of the top, by their written part -/
section
variable {K : PySem.W.Frag} {h : Heap} {mg : Str → Option Value} {x : Str} {R : Prop}
theorem df_then {st : Stmt} {ps : List Str} {f : Addr} {od an : Option Addr} {sl : Array (Option Value)} {oc kV dc pm cd ct : Value} (X : K.In h) (G : h.Ns mainGlobals mg) (a : PySem.W.nsIn K mainGlobals x = some (some (.ref f)))
    (l : K.lookup f = some ⟨oc, od, .func (PySem.W.fnOf x x (defArgs st) (defBody st) (defScope st) .none kV dc pm an cd ct), sl⟩) (c : PySem.W.codeIn K cd x = true) (k : PySem.W.keepIn K (.ref f) = true)
    (b : ∀ (kV dc pm : Value) (an : Option Addr) (cd ct : Value) (us : List Value), us.length = ps.length → bindArgs (PySem.W.fnOf x x (defArgs st) (defBody st) (defScope st) .none kV dc pm an cd ct) ⟨us, []⟩ = pure (ps.zip us))
    (r : ∀ f fd, Df K mg x st ps f fd → R) : R :=
  r f _ ⟨fun_mk l c k, PySem.W.mg_of X G a, fun s us hl => .of_eq (b _ _ _ _ _ _ us hl)⟩
theorem int_then {i : Int} {t : Tok} (X : K.In h) (G : h.Ns mainGlobals mg) (a : PySem.W.nsIn K mainGlobals x = some (some (.int i t))) (r : ∀ t, mg x = some (.int i t) → R) : R := r t (PySem.W.mg_of X G a)
theorem str_then {i : Str} {t : Tok} (X : K.In h) (G : h.Ns mainGlobals mg) (a : PySem.W.nsIn K mainGlobals x = some (some (.str i t))) (r : ∀ t, mg x = some (.str i t) → R) : R := r t (PySem.W.mg_of X G a)
theorem tup_then {p : Addr} {od : Option Addr} {its : Array Value} {n : Nat} {sl : Array (Option Value)} {xs : List V} {ds : List PyData} (X : K.In h) (G : h.Ns mainGlobals mg) (a : PySem.W.nsIn K mainGlobals x = some (some (.ref p)))
    (l : K.lookup p = some ⟨.type "tuple", od, .seq its n, sl⟩) (z : its.size ≤ sizeLine) (v : Vals xs its.toList) (d : ∀ ι H, Dl K ι H xs ds) (r : ∀ p, mg x = some (.ref p) → (∀ ι H, Dv K ι H (.ref p) (.tuple ds)) → R) : R :=
  r p (PySem.W.mg_of X G a) fun ι H => .tup (.inr ⟨_, its, n, l, rfl, rfl, z, v⟩) (d ι H)
theorem free_of (X : K.In h) (G : h.Ns mainGlobals mg) (a : PySem.W.nsIn K mainGlobals x = some none) : mg x = none := PySem.W.mg_none_of X G a
theorem kit_own {D C : Addr} {b : Bool} (h1 : PySem.W.subIn K (.ref D) (.ref C) = some b) (h2 : PySem.W.isClsIn K C = true) (h3 : PySem.W.typeIn K (.ref C) = some (.type "type")) (hn : b = false → D ≠ C) : PySem.W.kitOne K (.ref D) (.ref C) = some b := by
  unfold PySem.W.kitOne
  by_cases e : D = C
  · cases b with
    | false => exact absurd e (hn rfl)
    | true => rw [if_pos (by rw [e]; exact beq_self_eq_true _)]
  · have e1 : ((PySem.W.clsIn K C).isSome && PySem.W.typeIn K (.ref C) == some (.type "type")) = true := by
      have h2' : (PySem.W.clsIn K C).isSome = true := h2
      rw [h2', h3]
      rfl
    rw [if_neg (fun q => e (Value.ref.inj (beq_iff_eq.mp q)))]
    show (if ((PySem.W.clsIn K C).isSome && PySem.W.typeIn K (.ref C) == some (.type "type")) = true then PySem.W.subIn K (.ref D) (.ref C) else none) = some b
    rw [if_pos e1]
    exact h1
end
end Sm

set_option Elab.async false
set_option linter.all false
set_option maxRecDepth 100000
set_option maxHeartbeats 2000000
/-! SmM: what mirrors come to, step by step. -/
namespace Sm
open PySem PySem.Spec PyProof.Rows L2

section
variable {α β : Type} {S : SS} {ρ : En}
theorem bind_ok {a : α} {f : α → SS → Res β} : (Res.ok a S).bind f = f a S := rfl
theorem bind_exc {c : Nat} {f : α → SS → Res β} : (Res.exc (α := α) c S).bind f = .exc c S := rfl
theorem rF_ok {a : α} {f : α → SS → Fl} : rF (.ok a S) ρ f = f a S := rfl
theorem rF_exc {c : Nat} {f : α → SS → Fl} : rF (Res.exc (α := α) c S) ρ f = .exc c ρ S := rfl
theorem ofO_some {a : α} {f : α → β} : ofO (some a) f S = .ok (f a) S := rfl
theorem seq_nx {b : MS} {a : MS} {ρ' : En} {S' : SS} (h : a ρ S = .nx ρ' S') : mSeq a b ρ S = b ρ' S' := by
  unfold mSeq
  rw [h]
end
/-- isinstance, answered -/
def isT (T : String) (d : PyData) : Bool := match d with
  | .none => T == "NoneType"
  | .bool _ => T == "bool" || T == "int"
  | .int _ => T == "int"
  | .str _ => T == "str"
  | .list _ => T == "list"
  | .tuple _ => T == "tuple"
  | .dict _ => T == "dict"
theorem is_int (d : PyData) : isD "int" d = some (isT "int" d) := by
  cases d with
  | none => show kitB "NoneType" "int" = some false; decide +kernel
  | bool b => show kitB "bool" "int" = some true; decide +kernel
  | int b => show kitB "int" "int" = some true; decide +kernel
  | str b => show kitB "str" "int" = some false; decide +kernel
  | list b => show kitB "list" "int" = some false; decide +kernel
  | tuple b => show kitB "tuple" "int" = some false; decide +kernel
  | dict b => show kitB "dict" "int" = some false; decide +kernel
theorem is_bool (d : PyData) : isD "bool" d = some (isT "bool" d) := by
  cases d with
  | none => show kitB "NoneType" "bool" = some false; decide +kernel
  | bool b => show kitB "bool" "bool" = some true; decide +kernel
  | int b => show kitB "int" "bool" = some false; decide +kernel
  | str b => show kitB "str" "bool" = some false; decide +kernel
  | list b => show kitB "list" "bool" = some false; decide +kernel
  | tuple b => show kitB "tuple" "bool" = some false; decide +kernel
  | dict b => show kitB "dict" "bool" = some false; decide +kernel
theorem is_str (d : PyData) : isD "str" d = some (isT "str" d) := by
  cases d with
  | none => show kitB "NoneType" "str" = some false; decide +kernel
  | bool b => show kitB "bool" "str" = some false; decide +kernel
  | int b => show kitB "int" "str" = some false; decide +kernel
  | str b => show kitB "str" "str" = some true; decide +kernel
  | list b => show kitB "list" "str" = some false; decide +kernel
  | tuple b => show kitB "tuple" "str" = some false; decide +kernel
  | dict b => show kitB "dict" "str" = some false; decide +kernel
theorem is_tuple (d : PyData) : isD "tuple" d = some (isT "tuple" d) := by
  cases d with
  | none => show kitB "NoneType" "tuple" = some false; decide +kernel
  | bool b => show kitB "bool" "tuple" = some false; decide +kernel
  | int b => show kitB "int" "tuple" = some false; decide +kernel
  | str b => show kitB "str" "tuple" = some false; decide +kernel
  | list b => show kitB "list" "tuple" = some false; decide +kernel
  | tuple b => show kitB "tuple" "tuple" = some true; decide +kernel
  | dict b => show kitB "dict" "tuple" = some false; decide +kernel
/-- a comprehension whose element is a plain function of the item -/
theorem loopC_map {turn : PyData → SS → Res (Option PyData)} {f : PyData → PyData} {S : SS} : ∀ (ds acc : List PyData), (∀ d ∈ ds, turn d S = .ok (some (f d)) S) → acc.length + ds.length ≤ sizeLine → loopC turn ds acc S = .ok (acc ++ ds.map f) S
  | [], acc, _, _ => by rw [List.map_nil, List.append_nil]; rfl
  | d :: ds, acc, h, hl => by
    have hl' : acc.length + (ds.length + 1) ≤ sizeLine := hl
    unfold loopC
    rw [h d List.mem_cons_self, bind_ok]
    dsimp only
    rw [if_pos (by omega), loopC_map ds (acc ++ [f d]) (fun x hx => h x (List.mem_cons_of_mem _ hx)) (by rw [List.length_append]; show acc.length + 1 + ds.length ≤ _; omega)]
    rw [List.append_assoc, List.map_cons]
    rfl
theorem lc_map {mi : MI} {g : GF} {me : ME} {vs : List Nat} {ρ : En} {S S' : SS} {ds : List PyData} (f : PyData → PyData) (hi : mi ρ S = .ok ds S') (h : ∀ d ∈ ds, turnC g mYes me (wipeE ρ vs) d S' = .ok (some (f d)) S') (hl : ds.length ≤ sizeLine) :
    mLc mi g mYes me vs ρ S = .ok (ds.map f) S' := by
  unfold mLc
  rw [hi, bind_ok, loopC_map ds [] h (by show 0 + ds.length ≤ _; omega)]
  rfl
theorem turn_one {g : GF} {me : ME} {ρ ρ' : En} {d y : PyData} {S S' : SS} (hg : g d ρ = some ρ') (he : me ρ' S = .ok (.dat y) S') : turnC g mYes me ρ d S = .ok (some y) S' := by
  unfold turnC
  rw [hg]
  show (noX (Res.ok true S)).bind _ = _
  show (noX (me ρ' S)).bind oneC = _
  rw [he]
  rfl
theorem bools_map : ∀ (l : List PyData) (f : PyData → Bool), boolsD (l.map fun d => .bool (f d)) = some (l.map f)
  | [], _ => rfl
  | d :: l, f => by
    show (boolsD (l.map fun d => .bool (f d))).map (f d :: ·) = _
    rw [bools_map l f]
    rfl
section
variable {f : FN} {a b c d e : W} {S : SS}
theorem lenW1 : lenW 1 f [a] S = f [a] S := rfl
theorem lenW2 : lenW 2 f [a, b] S = f [a, b] S := rfl
theorem lenW3 : lenW 3 f [a, b, c] S = f [a, b, c] S := rfl
theorem lenW4 : lenW 4 f [a, b, c, d] S = f [a, b, c, d] S := rfl
theorem lenW5 : lenW 5 f [a, b, c, d, e] S = f [a, b, c, d, e] S := rfl
end
end Sm

set_option Elab.async false
set_option linter.all false
set_option maxRecDepth 100000
set_option maxHeartbeats 2000000
/-! SmN: a mirror, stepped part after part: no part is read before it is reached. -/
namespace Sm
open PySem PySem.Spec PyProof.Rows L2
variable {α β : Type} {S : SS} {ρ : En} {w u x : W} {ws : List W} {d e : PyData} {a b c : ME} {ma : MA} {t t' : MT} {s s' : MS} {f g : F2} {F : FN} {i j : Nat} {bb : Bool}
def k2a (f : F2) (b : ME) (ρ : En) : W → SS → Res W := fun x S => (b ρ S).bind (f x)
theorem n_op2 : mOp2 f a b ρ S = (a ρ S).bind (k2a f b ρ) := rfl
theorem n_op2a : k2a f b ρ x S = (b ρ S).bind (f x) := rfl
theorem n_dat2 {h : PyData → PyData → Option PyData} : dat2 h (.dat d) (.dat e) S = ofO (h d e) .dat S := rfl
theorem n_tst2 {h : PyData → PyData → Option Bool} : tst2 h (.dat d) (.dat e) S = ofO (h d e) (fun b => .dat (.bool b)) S := rfl
def k2r (h : PyData → PyData → Option PyData) (S : SS) (x y : Option PyData) : Res W := match x, y with
  | some d, some e => ofO (h d e) .dat S
  | _, _ => .stuck
theorem n_rd2 {h : PyData → PyData → Option PyData} : rd2 h w u S = k2r h S (getW S w) (getW S u) := by
  unfold rd2 k2r
  rfl
theorem n_rd2s {h : PyData → PyData → Option PyData} : k2r h S (some d) (some e) = ofO (h d e) .dat S := rfl
def k2t (h : PyData → PyData → Option Bool) (S : SS) (x y : Option PyData) : Res W := match x, y with
  | some d, some e => ofO (h d e) (fun b => .dat (.bool b)) S
  | _, _ => .stuck
theorem n_rdt2 {h : PyData → PyData → Option Bool} : rdt2 h w u S = k2t h S (getW S w) (getW S u) := by
  unfold rdt2 k2t
  rfl
theorem n_rdt2s {h : PyData → PyData → Option Bool} : k2t h S (some d) (some e) = ofO (h d e) (fun b => .dat (.bool b)) S := rfl
def kgR : Option O → Option PyData
  | some (.lst xs) => some (.list xs)
  | _ => none
theorem n_getd : getW S (.dat d) = some d := rfl
theorem n_getr : getW S (.ref i) = kgR S[i]? := by
  unfold getW kgR
  rfl
theorem n_getl {xs : List PyData} : kgR (some (.lst xs)) = some (.list xs) := rfl
def kNo : W → SS → Res W := fun z S => match z with
  | .dat (.bool b) => .ok (.dat (.bool (!b))) S
  | _ => .stuck
theorem n_not2 : not2 f w u S = (f w u S).bind kNo := rfl
theorem n_no : kNo (.dat (.bool bb)) S = .ok (.dat (.bool (!bb))) S := rfl
def kAn (b : ME) (ρ : En) : W → SS → Res W := fun x S => match x with
  | .dat (.bool true) => b ρ S
  | .dat (.bool false) => .ok (.dat (.bool false)) S
  | _ => .stuck
theorem n_and : mAnd a b ρ S = (a ρ S).bind (kAn b ρ) := rfl
theorem n_andt : kAn b ρ (.dat (.bool true)) S = b ρ S := rfl
theorem n_andf : kAn b ρ (.dat (.bool false)) S = .ok (.dat (.bool false)) S := rfl
def kOr (b : ME) (ρ : En) : W → SS → Res W := fun x S => match x with
  | .dat (.bool true) => .ok (.dat (.bool true)) S
  | .dat (.bool false) => b ρ S
  | _ => .stuck
theorem n_or : mOr a b ρ S = (a ρ S).bind (kOr b ρ) := rfl
theorem n_ort : kOr b ρ (.dat (.bool true)) S = .ok (.dat (.bool true)) S := rfl
theorem n_orf : kOr b ρ (.dat (.bool false)) S = b ρ S := rfl
theorem n_not : mNot a ρ S = (a ρ S).bind kNo := rfl
def kT : W → SS → Res Bool := fun z S => match z with
  | .dat (.bool b) => .ok b S
  | _ => .stuck
theorem n_T : mT a ρ S = (a ρ S).bind kT := rfl
theorem n_t : kT (.dat (.bool bb)) S = .ok bb S := rfl
def kTa (b : MT) (ρ : En) : Bool → SS → Res Bool := fun x S => if x = true then b ρ S else .ok false S
theorem n_tand : tAndM t t' ρ S = (t ρ S).bind (kTa t' ρ) := rfl
theorem n_tandt : kTa t ρ true S = t ρ S := rfl
theorem n_tandf : kTa t ρ false S = .ok false S := rfl
def kTo (b : MT) (ρ : En) : Bool → SS → Res Bool := fun x S => if x = true then .ok true S else b ρ S
theorem n_tor : tOrM t t' ρ S = (t ρ S).bind (kTo t' ρ) := rfl
theorem n_tort : kTo t ρ true S = .ok true S := rfl
theorem n_torf : kTo t ρ false S = t ρ S := rfl
def kTn : Bool → SS → Res Bool := fun x S => .ok (!x) S
theorem n_tnot : tNotM t ρ S = (t ρ S).bind kTn := rfl
theorem n_tn : kTn bb S = .ok (!bb) S := rfl
def kIf (a b : ME) (ρ : En) : Bool → SS → Res W := fun x S => if x = true then a ρ S else b ρ S
theorem n_if : mIf t a b ρ S = (t ρ S).bind (kIf a b ρ) := rfl
theorem n_ift : kIf a b ρ true S = a ρ S := rfl
theorem n_iff : kIf a b ρ false S = b ρ S := rfl
def kCh1 (f g : F2) (b c : ME) (ρ : En) : W → SS → Res W := fun x S => (b ρ S).bind fun y S => (f x y S).bind fun z S => match z with
    | .dat (.bool true) => (c ρ S).bind fun w S => g y w S
    | .dat (.bool false) => .ok (.dat (.bool false)) S
    | _ => .stuck
def kCh2 (f g : F2) (c : ME) (ρ : En) (x : W) : W → SS → Res W := fun y S => (f x y S).bind fun z S => match z with
    | .dat (.bool true) => (c ρ S).bind fun w S => g y w S
    | .dat (.bool false) => .ok (.dat (.bool false)) S
    | _ => .stuck
def kCh3 (g : F2) (c : ME) (ρ : En) (y : W) : W → SS → Res W := fun z S => match z with
    | .dat (.bool true) => (c ρ S).bind fun w S => g y w S
    | .dat (.bool false) => .ok (.dat (.bool false)) S
    | _ => .stuck
theorem n_ch : mChain f g a b c ρ S = (a ρ S).bind (kCh1 f g b c ρ) := rfl
theorem n_ch1 : kCh1 f g b c ρ x S = (b ρ S).bind (kCh2 f g c ρ x) := rfl
theorem n_ch2 : kCh2 f g c ρ x u S = (f x u S).bind (kCh3 g c ρ u) := rfl
theorem n_ch3t : kCh3 g c ρ u (.dat (.bool true)) S = (c ρ S).bind (g u) := rfl
theorem n_ch3f : kCh3 g c ρ u (.dat (.bool false)) S = .ok (.dat (.bool false)) S := rfl
def kUn (f : PyData → Option PyData) : W → SS → Res W := fun x S => match x with
  | .dat d => ofO (f d) .dat S
  | _ => .stuck
theorem n_un {h : PyData → Option PyData} : mUn h a ρ S = (a ρ S).bind (kUn h) := rfl
theorem n_und {h : PyData → Option PyData} : kUn h (.dat d) S = ofO (h d) .dat S := rfl
theorem n_nil : mNil ρ S = .ok [] S := rfl
def kCo (r : MA) (ρ : En) : W → SS → Res (List W) := fun x S => (r ρ S).bind fun xs S => .ok (x :: xs) S
def kCo2 (x : W) : List W → SS → Res (List W) := fun xs S => .ok (x :: xs) S
theorem n_cons : mCons a ma ρ S = (a ρ S).bind (kCo ma ρ) := rfl
theorem n_cons1 : kCo ma ρ x S = (ma ρ S).bind (kCo2 x) := rfl
theorem n_cons2 : kCo2 x ws S = .ok (x :: ws) S := rfl
def kTup (S : SS) : Option (List PyData) → Res W
  | some ds => if ds.length ≤ sizeLine then .ok (.dat (.tuple ds)) S else .stuck
  | none => .stuck
def kTu : List W → SS → Res W := fun ws S => kTup S (datsW ws)
theorem n_tup : mTup ma ρ S = (ma ρ S).bind kTu := by
  unfold mTup
  congr 1
theorem n_tu : kTu ws S = kTup S (datsW ws) := rfl
theorem n_tus {ds : List PyData} : kTup S (some ds) = if ds.length ≤ sizeLine then .ok (.dat (.tuple ds)) S else .stuck := rfl
def kLst (S : SS) : Option (List PyData) → Res (List PyData)
  | some ds => if ds.length ≤ sizeLine then .ok ds S else .stuck
  | none => .stuck
def kLs : List W → SS → Res (List PyData) := fun ws S => kLst S (datsW ws)
theorem n_lst : mLst ma ρ S = (ma ρ S).bind kLs := by
  unfold mLst
  congr 1
theorem n_ls : kLs ws S = kLst S (datsW ws) := rfl
theorem n_lss {ds : List PyData} : kLst S (some ds) = if ds.length ≤ sizeLine then .ok ds S else .stuck := rfl
theorem n_dn : datsW [] = some [] := rfl
theorem n_dc : datsW (.dat d :: ws) = (datsW ws).map (d :: ·) := rfl
def kOfL : List PyData → SS → Res W := fun ds S => .ok (.dat (.list ds)) S
theorem n_ofl {m : ML} : mOfL m ρ S = (m ρ S).bind kOfL := rfl
theorem n_ofl2 {ds : List PyData} : kOfL ds S = .ok (.dat (.list ds)) S := rfl
def kNew : List PyData → SS → Res W := fun ds S => .ok (.ref S.length) (S ++ [.lst ds])
theorem n_new {m : ML} : mNew m ρ S = (m ρ S).bind kNew := rfl
theorem n_new2 {ds : List PyData} : kNew ds S = .ok (.ref S.length) (S ++ [.lst ds]) := rfl
def kIsO (T : String) (S : SS) : Option PyData → Res W
  | some d => ofO (isD T d) (fun b => .dat (.bool b)) S
  | none => .stuck
def kIs (T : String) : W → SS → Res W := fun w S => kIsO T S (getW S w)
theorem n_is {T : String} : mIs T a ρ S = (a ρ S).bind (kIs T) := by
  unfold mIs
  congr 1
theorem n_is2 {T : String} : kIs T w S = kIsO T S (getW S w) := rfl
theorem n_is3 {T : String} : kIsO T S (some d) = ofO (isD T d) (fun b => .dat (.bool b)) S := rfl
theorem n_cal : mCal F ma ρ S = (ma ρ S).bind F := rfl
theorem n_calL {G : FL} : mCalL G ma ρ S = (ma ρ S).bind G := rfl
theorem n_nop : mNoP ρ S = .ok none S := rfl
def kPt : W → SS → Res (Option Int) := fun x S => match x with
  | .dat (.int i) => .ok (some i) S
  | _ => .stuck
theorem n_part : mPart a ρ S = (a ρ S).bind kPt := rfl
theorem n_pt {i : Int} : kPt (.dat (.int i)) S = .ok (some i) S := rfl
def kSl1 (lo hi : MO) (ρ : En) : W → SS → Res W := fun x S => (lo ρ S).bind fun l S => (hi ρ S).bind fun h S => ofO (slW x l h) .dat S
def kSl2 (hi : MO) (ρ : En) (x : W) : Option Int → SS → Res W := fun l S => (hi ρ S).bind fun h S => ofO (slW x l h) .dat S
def kSl3 (x : W) (l : Option Int) : Option Int → SS → Res W := fun h S => ofO (slW x l h) .dat S
variable {lo hi : MO} {l h : Option Int}
theorem n_sl : mSl a lo hi ρ S = (a ρ S).bind (kSl1 lo hi ρ) := rfl
theorem n_sl1 : kSl1 lo hi ρ x S = (lo ρ S).bind (kSl2 hi ρ x) := rfl
theorem n_sl2 : kSl2 hi ρ x l S = (hi ρ S).bind (kSl3 x l) := rfl
theorem n_sl3 : kSl3 x l h S = ofO (slW x l h) .dat S := rfl
theorem n_slw : slW (.dat d) l h = slD d l h := rfl
theorem n_isno {n : Bool} : mIsNo n a ρ S = (a ρ S).bind (isNoW n) := rfl
theorem n_isnot {n : Bool} : isNoW n (.dat .none) S = .ok (.dat (.bool (!n))) S := by cases n <;> rfl
theorem n_isnoi {n : Bool} {k : Int} : isNoW n (.dat (.int k)) S = .ok (.dat (.bool n)) S := by cases n <;> rfl
theorem n_isnol {n : Bool} {k : List PyData} : isNoW n (.dat (.list k)) S = .ok (.dat (.bool n)) S := by cases n <;> rfl
theorem n_isnou {n : Bool} {k : List PyData} : isNoW n (.dat (.tuple k)) S = .ok (.dat (.bool n)) S := by cases n <;> rfl
theorem n_iter : mIter a ρ S = (a ρ S).bind itW := rfl
theorem n_itl {ds : List PyData} : itW (.dat (.list ds)) S = .ok ds S := rfl
theorem n_itu {ds : List PyData} : itW (.dat (.tuple ds)) S = .ok ds S := rfl
theorem n_its {y : Str} : itW (.dat (.str y)) S = .ok (signsD y) S := rfl
theorem n_c : mC d ρ S = .ok (.dat d) S := rfl
def kVa (S : SS) : Option (Option W) → Res W
  | some (some w) => .ok w S
  | _ => .stuck
theorem n_var : mVar i ρ S = kVa S ρ[i]? := by
  unfold mVar kVa
  rfl
theorem n_va : kVa S (some (some w)) = .ok w S := rfl
/-! statements -/
def kSq (b : MS) : Fl → Fl
  | .nx ρ S => b ρ S
  | f => f
theorem n_seq : mSeq s s' ρ S = kSq s' (s ρ S) := rfl
theorem n_sqn : kSq s (.nx ρ S) = s ρ S := rfl
theorem n_sqr : kSq s (.ret w S) = .ret w S := rfl
theorem n_sqe {c : Nat} : kSq s (.exc c ρ S) = .exc c ρ S := rfl
theorem n_pass : mPass ρ S = .nx ρ S := rfl
def kSe (i : Nat) (ρ : En) : W → SS → Fl := fun w S => .nx (ρ.set i (some w)) S
theorem n_set : mSet i a ρ S = rF (a ρ S) ρ (kSe i ρ) := rfl
theorem n_se : kSe i ρ w S = .nx (ρ.set i (some w)) S := rfl
def kRe : W → SS → Fl := fun w S => .ret w S
theorem n_ret : mRet a ρ S = rF (a ρ S) ρ kRe := rfl
theorem n_re : kRe w S = .ret w S := rfl
theorem n_retn : mRetN ρ S = .ret (.dat .none) S := rfl
def kDr (ρ : En) : W → SS → Fl := fun _ S => .nx ρ S
theorem n_drop : mDrop a ρ S = rF (a ρ S) ρ (kDr ρ) := rfl
theorem n_dr : kDr ρ w S = .nx ρ S := rfl
def kIfS (a b : MS) (ρ : En) : Bool → SS → Fl := fun b' S => if b' = true then a ρ S else b ρ S
theorem n_ifs : mIfS t s s' ρ S = rF (t ρ S) ρ (kIfS s s' ρ) := rfl
theorem n_ifst : kIfS s s' ρ true S = s ρ S := rfl
theorem n_ifsf : kIfS s s' ρ false S = s' ρ S := rfl
theorem n_raise : mRaise i ρ S = .exc i ρ S := rfl
def kPa (i j : Nat) (ρ : En) : List W → SS → Fl := fun ws S => parW i j ws ρ S
theorem n_par : mPar i j ma ρ S = rF (ma ρ S) ρ (kPa i j ρ) := rfl
theorem n_pa : kPa i j ρ [w, u] S = .nx ((ρ.set i (some w)).set j (some u)) S := rfl
def kAs (g : GF) (ρ : En) : W → SS → Fl := fun w S => asgW g w ρ S
theorem n_asg {G : GF} : mAsg G a ρ S = rF (a ρ S) ρ (kAs G ρ) := rfl
def kAsO (S : SS) : Option En → Fl
  | some ρ => .nx ρ S
  | none => .stuck
theorem n_as {G : GF} : kAs G ρ (.dat d) S = kAsO S (G d ρ) := by
  unfold kAs asgW kAsO
  rfl
theorem n_aso : kAsO S (some ρ) = .nx ρ S := rfl
theorem n_gT2 {d e : PyData} : gT [i, j] (.tuple [d, e]) ρ = some ((ρ.set i (some (.dat d))).set j (some (.dat e))) := rfl
theorem n_gN : gN i d ρ = some (ρ.set i (some (.dat d))) := rfl
def kFo (g : GF) (mb : MS) (ρ : En) : List PyData → SS → Fl := fun ds S => loopF (stepF g mb) ds ρ S
theorem n_for {mi : MI} {G : GF} : mFor mi G s ρ S = rF (mi ρ S) ρ (kFo G s ρ) := rfl
theorem n_fo {G : GF} {ds : List PyData} : kFo G s ρ ds S = loopF (stepF G s) ds ρ S := rfl
def kLo (step : PyData → En → SS → Fl) (ds : List PyData) : Fl → Fl
  | .nx ρ' S' => loopF step ds ρ' S'
  | .ct ρ' S' => loopF step ds ρ' S'
  | .brk ρ' S' => .nx ρ' S'
  | f => f
theorem n_lo0 {step : PyData → En → SS → Fl} : loopF step [] ρ S = .nx ρ S := rfl
theorem n_lo {step : PyData → En → SS → Fl} {ds : List PyData} : loopF step (d :: ds) ρ S = kLo step ds (step d ρ S) := rfl
theorem n_lon {step : PyData → En → SS → Fl} {ds : List PyData} : kLo step ds (.nx ρ S) = loopF step ds ρ S := rfl
theorem n_lor {step : PyData → En → SS → Fl} {ds : List PyData} : kLo step ds (.ret w S) = .ret w S := rfl
def kSt (mb : MS) (S : SS) : Option En → Fl
  | some ρ' => mb ρ' S
  | none => .stuck
theorem n_step {G : GF} : stepF G s d ρ S = kSt s S (G d ρ) := by
  unfold stepF kSt
  rfl
theorem n_st : kSt s S (some ρ) = s ρ S := rfl
theorem n_try {sub : Nat → Option Bool} {hs : Nat → MS} : mTry s sub i hs ρ S = catF sub i hs (s ρ S) := rfl
theorem n_catn {sub : Nat → Option Bool} {hs : Nat → MS} : catF sub i hs (.nx ρ S) = .nx ρ S := rfl
theorem n_catr {sub : Nat → Option Bool} {hs : Nat → MS} : catF sub i hs (.ret w S) = .ret w S := rfl
theorem n_def {N : Nat} : mDef N s ws S = outF (s (ws.map some ++ List.replicate (N - ws.length) none) S) := rfl
theorem n_outn : outF (.nx ρ S) = .ok (.dat .none) S := rfl
theorem n_outr : outF (.ret w S) = .ok w S := rfl
theorem n_oute {c : Nat} : outF (.exc c ρ S) = .exc c S := rfl
def kLen (S : SS) : Option PyData → Res W
  | some d => ofO (lenD d) (fun n => .dat (.int n)) S
  | none => .stuck
theorem n_len : fLen [w] S = kLen S (getW S w) := by
  unfold fLen kLen
  rfl
theorem n_lend : kLen S (some d) = ofO (lenD d) (fun n => .dat (.int n)) S := rfl
theorem n_lenl {ds : List PyData} : lenD (.list ds) = some (ds.length : Int) := rfl
theorem n_lenu {ds : List PyData} : lenD (.tuple ds) = some (ds.length : Int) := rfl
theorem n_max {k m : Int} : fMax2 [.dat (.int k), .dat (.int m)] S = .ok (.dat (.int (if m > k then m else k))) S := rfl
theorem n_min {k m : Int} : fMin2 [.dat (.int k), .dat (.int m)] S = .ok (.dat (.int (if m < k then m else k))) S := rfl
theorem n_inti {k : Int} : fInt [.dat (.int k)] S = .ok (.dat (.int k)) S := rfl
theorem n_intb : fInt [.dat (.bool bb)] S = .ok (.dat (.int (if bb then 1 else 0))) S := rfl
theorem n_tupl {ds : List PyData} : fTuple [.dat (.list ds)] S = .ok (.dat (.tuple ds)) S := rfl
theorem n_addi {k m : Int} : addD (.int k) (.int m) = some (.int (k + m)) := rfl
theorem n_subi {k m : Int} : subD (.int k) (.int m) = some (.int (k - m)) := rfl
theorem n_lei {k m : Int} : leD (.int k) (.int m) = some (decide (k ≤ m)) := rfl
theorem n_lti {k m : Int} : ltD (.int k) (.int m) = some (decide (k < m)) := rfl
theorem n_gti {k m : Int} : gtD (.int k) (.int m) = some (decide (m < k)) := rfl
theorem n_negi {k : Int} : negD (.int k) = some (.int (-k)) := rfl
theorem n_modi {k m : Int} (h : 0 < m) : modD (.int k) (.int m) = some (.int (k % m)) := by
  show (if 0 < m then _ else _) = _
  rw [if_pos h]
/-! comprehensions -/
def kLc (g : GF) (mt : MT) (me : ME) (vs : List Nat) (ρ : En) : List PyData → SS → Res (List PyData) := fun ds S => loopC (turnC g mt me (wipeE ρ vs)) ds [] S
theorem n_lc {mi : MI} {G : GF} {mt : MT} {me : ME} {vs : List Nat} : mLc mi G mt me vs ρ S = (mi ρ S).bind (kLc G mt me vs ρ) := rfl
theorem n_lcs {G : GF} {mt : MT} {me : ME} {vs : List Nat} {ds : List PyData} : kLc G mt me vs ρ ds S = loopC (turnC G mt me (wipeE ρ vs)) ds [] S := rfl
def kLp (turn : PyData → SS → Res (Option PyData)) (ds acc : List PyData) : Option PyData → SS → Res (List PyData) := fun o S => match o with
    | some y => if acc.length < sizeLine then loopC turn ds (acc ++ [y]) S else .stuck
    | none => loopC turn ds acc S
variable {turn : PyData → SS → Res (Option PyData)} {ds acc : List PyData}
theorem n_lp0 : loopC turn [] acc S = .ok acc S := rfl
theorem n_lp1 : loopC turn (d :: ds) acc S = (turn d S).bind (kLp turn ds acc) := rfl
theorem n_lps : kLp turn ds acc (some d) S = if acc.length < sizeLine then loopC turn ds (acc ++ [d]) S else .stuck := rfl
theorem n_lpn : kLp turn ds acc none S = loopC turn ds acc S := rfl
def kTc2 (me : ME) (ρ : En) : Bool → SS → Res (Option PyData) := fun b S => if b = true then (noX (me ρ S)).bind oneC else .ok none S
def kTc (mt : MT) (me : ME) (S : SS) : Option En → Res (Option PyData)
  | none => .stuck
  | some ρ1 => (noX (mt ρ1 S)).bind (kTc2 me ρ1)
theorem n_turn {G : GF} {mt : MT} {me : ME} : turnC G mt me ρ d S = kTc mt me S (G d ρ) := by
  unfold turnC kTc
  rfl
theorem n_tc {mt : MT} {me : ME} : kTc mt me S (some ρ) = (noX (mt ρ S)).bind (kTc2 me ρ) := rfl
theorem n_yes : mYes ρ S = .ok true S := rfl
theorem n_nox {v : α} : noX (.ok v S) = .ok v S := rfl
theorem n_tct {me : ME} : kTc2 me ρ true S = (noX (me ρ S)).bind oneC := rfl
theorem n_tcf {me : ME} : kTc2 me ρ false S = .ok none S := rfl
theorem n_one : oneC (.dat d) S = .ok (some d) S := rfl
theorem n_w0 : wipeE ρ [] = ρ := rfl
theorem n_w1 {v : Nat} {vs : List Nat} : wipeE ρ (v :: vs) = (wipeE ρ vs).set v none := rfl
theorem n_sum0 {l : List PyData} {is : List Int} (h : intsD l = some is) : fSum [.dat (.list l)] S = .ok (.dat (.int is.sum)) S := by
  show ofO (intsD l) _ S = _
  rw [h]
  rfl
def kSu (S : SS) (o : Option (List Int)) : Res W := ofO o (fun bs => .dat (.int bs.sum)) S
theorem n_sum {l : List PyData} : fSum [.dat (.list l)] S = kSu S (intsD l) := rfl
theorem n_sums {l : List Int} : kSu S (some l) = .ok (.dat (.int l.sum)) S := rfl
theorem n_in0 : intsD [] = some [] := rfl
theorem n_in1 {k : Int} {l : List PyData} : intsD (.int k :: l) = (intsD l).map (k :: ·) := rfl
end Sm

set_option Elab.async false
set_option linter.all false
set_option maxRecDepth 100000
set_option maxHeartbeats 2000000
/-! SmN2: more of the stepping: cells set, builtins on ints. -/
namespace Sm
open PySem PySem.Spec PyProof.Rows L2
variable {S rest : SS} {ρ : En} {w u x : W} {o m mi : ME} {d a b c e : PyData}
def kI1 (mo mi : ME) (ρ : En) : W → SS → Fl := fun w S => rF (mo ρ S) ρ fun o S => rF (mi ρ S) ρ fun i S => setIW w o i ρ S
def kI2 (mi : ME) (ρ : En) (w : W) : W → SS → Fl := fun o S => rF (mi ρ S) ρ fun i S => setIW w o i ρ S
def kI3 (ρ : En) (w o : W) : W → SS → Fl := fun i S => setIW w o i ρ S
theorem i_set : mSetI o mi m ρ S = rF (m ρ S) ρ (kI1 o mi ρ) := rfl
theorem i_1 : kI1 o mi ρ w S = rF (o ρ S) ρ (kI2 mi ρ w) := rfl
theorem i_2 : kI2 mi ρ w u S = rF (mi ρ S) ρ (kI3 ρ w u) := rfl
theorem i_3 : kI3 ρ w u x S = setIW w u x ρ S := rfl
theorem i_s1 : setIW (.dat e) (.ref 0) (.dat (.int 1)) ρ (.lst [a, b, c, d] :: rest) = .nx ρ (.lst [a, e, c, d] :: rest) := rfl
theorem i_s2 : setIW (.dat e) (.ref 0) (.dat (.int 2)) ρ (.lst [a, b, c, d] :: rest) = .nx ρ (.lst [a, b, e, d] :: rest) := rfl
theorem i_s3 : setIW (.dat e) (.ref 0) (.dat (.int 3)) ρ (.lst [a, b, c, d] :: rest) = .nx ρ (.lst [a, b, c, e] :: rest) := rfl
theorem i_abs {k : Int} : fAbs [.dat (.int k)] S = .ok (.dat (.int (if k < 0 then -k else k))) S := rfl
theorem i_gei {k n : Int} : geD (.int k) (.int n) = some (decide (n ≤ k)) := rfl
def kRg : List W → SS → Res (List PyData) := fun ws S => match ws with
  | [.dat (.int j)] => if small62 j then .ok (rangeD 0 1 j.toNat) S else .stuck
  | _ => .stuck
theorem i_rng {ma : MA} : mRng1 ma ρ S = (ma ρ S).bind kRg := rfl
theorem i_rg {j : Int} : kRg [.dat (.int j)] S = if small62 j then .ok (rangeD 0 1 j.toNat) S else .stuck := rfl
theorem loop_inv {step : PyData → En → SS → Fl} (P : Nat → En → SS → Prop) : ∀ (ds : List PyData) (n : Nat) (ρ : En) (S : SS), P n ρ S →
    (∀ (i : Nat) (d : PyData) (ρ : En) (S : SS), n ≤ i → i < n + ds.length → d ∈ ds → P i ρ S → ∃ ρ' S', step d ρ S = .nx ρ' S' ∧ P (i + 1) ρ' S') →
    ∃ ρ' S', loopF step ds ρ S = .nx ρ' S' ∧ P (n + ds.length) ρ' S'
  | [], n, ρ, S, h, _ => ⟨ρ, S, rfl, h⟩
  | d :: ds, n, ρ, S, h, k => by
    obtain ⟨ρ1, S1, e, h1⟩ := k n d ρ S (Nat.le_refl _) (by simp) List.mem_cons_self h
    obtain ⟨ρ2, S2, e2, h2⟩ := loop_inv P ds (n + 1) ρ1 S1 h1 fun i d ρ S h1 h2 h3 h4 => k i d ρ S (by omega) (by simp only [List.length_cons]; omega) (List.mem_cons_of_mem _ h3) h4
    refine ⟨ρ2, S2, ?_, ?_⟩
    · rw [n_lo, e, n_lon, e2]
    · rw [List.length_cons, show n + (ds.length + 1) = n + 1 + ds.length by omega]
      exact h2
def kA4 (r : Nat) (d : PyData) (ρ : En) (S : SS) : Option O → Fl
  | some (.lst ds) => if ds.length < sizeLine then .nx ρ (S.set r (.lst (ds ++ [d]))) else .stuck
  | _ => .stuck
def kA3 (r : Nat) (ρ : En) : W → SS → Fl := fun w S => appW r w ρ S
def kA2 (me : ME) (r : Nat) (ρ : En) (S : SS) : Option O → Fl
  | some (.lst _) => rF (me ρ S) ρ (kA3 r ρ)
  | _ => .stuck
def kA1 (me : ME) (ρ : En) : W → SS → Fl := fun o S => app1W me o ρ S
variable {r : Nat} {ds : List PyData}
theorem i_app : mApp o m ρ S = rF (o ρ S) ρ (kA1 m ρ) := rfl
theorem i_a1 : kA1 m ρ (.ref r) S = kA2 m r ρ S S[r]? := by
  unfold kA1 app1W kA2
  rfl
theorem i_a2 : kA2 m r ρ S (some (.lst ds)) = rF (m ρ S) ρ (kA3 r ρ) := rfl
theorem i_a3 : kA3 r ρ (.dat d) S = kA4 r d ρ S S[r]? := by
  unfold kA3 appW kA4
  rfl
theorem i_a4 : kA4 r d ρ S (some (.lst ds)) = if ds.length < sizeLine then .nx ρ (S.set r (.lst (ds ++ [d]))) else .stuck := rfl
def kFz2 (i : Nat) (S : SS) : Option O → Res W
  | some (.lst ds) => .ok (.dat (.list ds)) (S.set i .dead)
  | _ => .stuck
def kFz : W → SS → Res W := fun w S => match w with
  | .ref i => match S[i]? with
    | some (.lst ds) => .ok (.dat (.list ds)) (S.set i .dead)
    | _ => .stuck
  | w => .ok w S
theorem i_frz : mFrz m ρ S = (m ρ S).bind kFz := rfl
theorem i_fz : kFz (.ref r) S = kFz2 r S S[r]? := by
  unfold kFz kFz2
  rfl
theorem i_fz2 : kFz2 r S (some (.lst ds)) = .ok (.dat (.list ds)) (S.set r .dead) := rfl
/-- a result, and what is known of it -/
def Rt (q : Res W) (Q : W → SS → Prop) : Prop := ∃ x S', q = .ok x S' ∧ Q x S'
def Nx (f : Fl) (Q : En → SS → Prop) : Prop := ∃ ρ' S', f = .nx ρ' S' ∧ Q ρ' S'
theorem for_end {G : GF} {b s : MS} {ds : List PyData} {Q : W → SS → Prop} (P : Nat → En → SS → Prop) (h0 : P 0 ρ S)
    (hs : ∀ (i : Nat) (d : PyData) (ρ : En) (S : SS), i < ds.length → d ∈ ds → P i ρ S → Nx (stepF G b d ρ S) (P (i + 1)))
    (he : ∀ ρ' S', P ds.length ρ' S' → Rt (outF (s ρ' S')) Q) : Rt (outF (kSq s (loopF (stepF G b) ds ρ S))) Q := by
  obtain ⟨ρ', S', e, h⟩ := loop_inv P ds 0 ρ S h0 fun i d ρ S _ h2 h3 h4 => hs i d ρ S (by omega) h3 h4
  rw [e, n_sqn]
  exact he ρ' S' (by rw [Nat.zero_add] at h; exact h)
theorem rg_ok {j : Int} (h : 0 ≤ j) (h' : j < 2 ^ 61) (S : SS) : kRg [.dat (.int j)] S = .ok (rangeD 0 1 j.toNat) S := by
  rw [i_rg, if_pos]
  unfold small62
  rw [Bool.and_eq_true, decide_eq_true_eq, decide_eq_true_eq]
  exact ⟨by omega, by omega⟩
theorem rg_len {n : Nat} : (rangeD 0 1 n).length = n := by unfold rangeD; rw [List.length_map, List.length_range]
end Sm

set_option Elab.async false
set_option linter.all false
set_option maxRecDepth 100000
set_option maxHeartbeats 2000000
namespace Sm
open PySem PySem.Spec PyProof.Rows L2
variable {S rest : SS} {ρ : En}
def kRc : List W → SS → Res (List PyData) := fun ws S => match ws with
  | [.dat (.int i), .dat (.int j), .dat (.int c)] => if c ≠ 0 ∧ c.natAbs < 1073741824 ∧ Builtin.Range.small i j c = true ∧ 0 ≤ Builtin.Range.rangeSize i j c then .ok (rangeD i c (Builtin.Range.rangeSize i j c).toNat) S else .stuck
  | _ => .stuck
theorem j_rngc {ma : MA} : mRngC ma ρ S = (ma ρ S).bind kRc := rfl
theorem rngc_if {i j c : Int} : kRc [.dat (.int i), .dat (.int j), .dat (.int c)] S = if c ≠ 0 ∧ c.natAbs < 1073741824 ∧ Builtin.Range.small i j c = true ∧ 0 ≤ Builtin.Range.rangeSize i j c then .ok (rangeD i c (Builtin.Range.rangeSize i j c).toNat) S else .stuck := by
  unfold kRc
  rfl
theorem rngc_2 {n : Nat} (h : n < 1000) (S : SS) : kRc [.dat (.int 0), .dat (.int n), .dat (.int 2)] S = .ok (rangeD 0 2 ((n + 1) / 2)) S := by
  have e : Builtin.Range.rangeSize 0 n 2 = (((n + 1) / 2 : Nat) : Int) := by
    unfold Builtin.Range.rangeSize
    rw [if_pos (by decide)]
    by_cases q : (0 : Int) < n
    · rw [if_pos q]; omega
    · rw [if_neg q]; omega
  have e2 : Builtin.Range.small 0 n 2 = true := by
    have fl : ∀ v : Int, -(2 ^ 62) ≤ v → v < 2 ^ 62 → Builtin.Range.rangeFitsLong v = true := fun v h1 h2 => by
      unfold Builtin.Range.rangeFitsLong
      simp
      omega
    unfold Builtin.Range.small
    rw [e]
    simp only [Int.zero_add, Bool.and_eq_true, Bool.or_eq_true]
    refine ⟨⟨⟨⟨fl _ (by omega) (by omega), fl _ (by omega) (by omega)⟩, fl _ (by omega) (by omega)⟩, fl _ (by omega) (by omega)⟩, .inr (fl _ (by omega) (by omega))⟩
  have c3 : (2 : Int).natAbs < 1073741824 := by omega
  have c4 : (0 : Int) ≤ Builtin.Range.rangeSize 0 n 2 := by rw [e]; omega
  rw [rngc_if, if_pos ⟨by omega, c3, e2, c4⟩, e, Int.toNat_natCast]
end Sm

set_option Elab.async false
set_option linter.all false
set_option maxRecDepth 100000
set_option maxHeartbeats 4000000
namespace K63
open PySem PySem.Spec PyProof.Rows L2 Sm
def topS (i : Nat) : Stmt := PySem.Challenge.pw_waysinstep_k63_whole_expressions_judged.main.body.getD i (.Pass ⟨0, 0, 0, 0⟩)
abbrev st_is_integer : Stmt := topS 3
abbrev N_is_integer : List Str := ["thing"]
theorem sc_is_integer : FnScope N_is_integer ["thing"] (defScope st_is_integer) := ⟨rfl, rfl, rfl, by decide +kernel, rfl, by decide +kernel, by decide +kernel⟩
abbrev st_is_within : Stmt := topS 4
abbrev N_is_within : List Str := ["thing", "least", "most"]
theorem sc_is_within : FnScope N_is_within ["thing", "least", "most"] (defScope st_is_within) := ⟨rfl, rfl, rfl, by decide +kernel, rfl, by decide +kernel, by decide +kernel⟩
abbrev st_is_worth : Stmt := topS 5
abbrev N_is_worth : List Str := ["thing"]
theorem sc_is_worth : FnScope N_is_worth ["thing"] (defScope st_is_worth) := ⟨rfl, rfl, rfl, by decide +kernel, rfl, by decide +kernel, by decide +kernel⟩
abbrev st_are_letters : Stmt := topS 13
abbrev N_are_letters : List Str := ["thing", "many", "sign"]
theorem sc_are_letters : FnScope N_are_letters ["thing", "many"] (defScope st_are_letters) := ⟨rfl, rfl, rfl, by decide +kernel, rfl, by decide +kernel, by decide +kernel⟩
abbrev st_is_word : Stmt := topS 14
abbrev N_is_word : List Str := ["thing"]
theorem sc_is_word : FnScope N_is_word ["thing"] (defScope st_is_word) := ⟨rfl, rfl, rfl, by decide +kernel, rfl, by decide +kernel, by decide +kernel⟩
abbrev st_is_atom : Stmt := topS 24
abbrev N_is_atom : List Str := ["thing"]
theorem sc_is_atom : FnScope N_is_atom ["thing"] (defScope st_is_atom) := ⟨rfl, rfl, rfl, by decide +kernel, rfl, by decide +kernel, by decide +kernel⟩
abbrev st_parts_of : Stmt := topS 25
abbrev N_parts_of : List Str := ["thing"]
theorem sc_parts_of : FnScope N_parts_of ["thing"] (defScope st_parts_of) := ⟨rfl, rfl, rfl, by decide +kernel, rfl, by decide +kernel, by decide +kernel⟩
abbrev st_is_kind : Stmt := topS 26
abbrev N_is_kind : List Str := ["thing"]
theorem sc_is_kind : FnScope N_is_kind ["thing"] (defScope st_is_kind) := ⟨rfl, rfl, rfl, by decide +kernel, rfl, by decide +kernel, by decide +kernel⟩
abbrev st_is_sign : Stmt := topS 27
abbrev N_is_sign : List Str := ["thing"]
theorem sc_is_sign : FnScope N_is_sign ["thing"] (defScope st_is_sign) := ⟨rfl, rfl, rfl, by decide +kernel, rfl, by decide +kernel, by decide +kernel⟩
abbrev st_size_within : Stmt := topS 28
abbrev N_size_within : List Str := ["thing", "deep", "parts", "sizes", "part"]
theorem sc_size_within : FnScope N_size_within ["thing", "deep"] (defScope st_size_within) := ⟨rfl, rfl, rfl, by decide +kernel, rfl, by decide +kernel, by decide +kernel⟩
abbrev st_size_of : Stmt := topS 29
abbrev N_size_of : List Str := ["thing", "found"]
theorem sc_size_of : FnScope N_size_of ["thing"] (defScope st_size_of) := ⟨rfl, rfl, rfl, by decide +kernel, rfl, by decide +kernel, by decide +kernel⟩
abbrev st_is_expression : Stmt := topS 30
abbrev N_is_expression : List Str := ["thing"]
theorem sc_is_expression : FnScope N_is_expression ["thing"] (defScope st_is_expression) := ⟨rfl, rfl, rfl, by decide +kernel, rfl, by decide +kernel, by decide +kernel⟩
abbrev st_check_expression : Stmt := topS 31
abbrev N_check_expression : List Str := ["thing"]
theorem sc_check_expression : FnScope N_check_expression ["thing"] (defScope st_check_expression) := ⟨rfl, rfl, rfl, by decide +kernel, rfl, by decide +kernel, by decide +kernel⟩
abbrev st_size : Stmt := topS 32
abbrev N_size : List Str := ["expression"]
theorem sc_size : FnScope N_size ["expression"] (defScope st_size) := ⟨rfl, rfl, rfl, by decide +kernel, rfl, by decide +kernel, by decide +kernel⟩
abbrev st_turned_of : Stmt := topS 33
abbrev N_turned_of : List Str := ["thing", "parts", "part"]
theorem sc_turned_of : FnScope N_turned_of ["thing"] (defScope st_turned_of) := ⟨rfl, rfl, rfl, by decide +kernel, rfl, by decide +kernel, by decide +kernel⟩
abbrev st_turned_expression : Stmt := topS 34
abbrev N_turned_expression : List Str := ["expression"]
theorem sc_turned_expression : FnScope N_turned_expression ["expression"] (defScope st_turned_expression) := ⟨rfl, rfl, rfl, by decide +kernel, rfl, by decide +kernel, by decide +kernel⟩
abbrev st__law_mixed : Stmt := topS 36
abbrev N__law_mixed : List Str := ["cell", "turn", "number"]
theorem sc__law_mixed : FnScope N__law_mixed ["cell", "turn"] (defScope st__law_mixed) := ⟨rfl, rfl, rfl, by decide +kernel, rfl, by decide +kernel, by decide +kernel⟩
abbrev st__law_hand : Stmt := topS 37
abbrev N__law_hand : List Str := ["script", "cell"]
theorem sc__law_hand : FnScope N__law_hand ["script"] (defScope st__law_hand) := ⟨rfl, rfl, rfl, by decide +kernel, rfl, by decide +kernel, by decide +kernel⟩
abbrev st__law_draw : Stmt := topS 38
abbrev N__law_draw : List Str := ["hand", "many", "cell", "found", "cells", "at"]
theorem sc__law_draw : FnScope N__law_draw ["hand", "many"] (defScope st__law_draw) := ⟨rfl, rfl, rfl, by decide +kernel, rfl, by decide +kernel, by decide +kernel⟩
abbrev st__law_letters : Stmt := topS 39
abbrev N__law_letters : List Str := ["hand", "many", "letters", "found", "k"]
theorem sc__law_letters : FnScope N__law_letters ["hand", "many"] (defScope st__law_letters) := ⟨rfl, rfl, rfl, by decide +kernel, rfl, by decide +kernel, by decide +kernel⟩
abbrev st__law_words : Stmt := topS 40
abbrev N__law_words : List Str := ["hand", "found", "k", "word"]
theorem sc__law_words : FnScope N__law_words ["hand"] (defScope st__law_words) := ⟨rfl, rfl, rfl, by decide +kernel, rfl, by decide +kernel, by decide +kernel⟩
abbrev st__law_worths : Stmt := topS 41
abbrev N__law_worths : List Str := ["hand", "some", "base", "found", "k", "worth"]
theorem sc__law_worths : FnScope N__law_worths ["hand"] (defScope st__law_worths) := ⟨rfl, rfl, rfl, by decide +kernel, rfl, by decide +kernel, by decide +kernel⟩
abbrev st__law_atom : Stmt := topS 42
abbrev N__law_atom : List Str := ["hand", "words", "worths", "kind"]
theorem sc__law_atom : FnScope N__law_atom ["hand", "words", "worths"] (defScope st__law_atom) := ⟨rfl, rfl, rfl, by decide +kernel, rfl, by decide +kernel, by decide +kernel⟩
abbrev st__law_expression : Stmt := topS 43
abbrev N__law_expression : List Str := ["hand", "words", "worths", "room", "deep", "kind", "most", "least", "left", "one", "other", "word"]
theorem sc__law_expression : FnScope N__law_expression ["hand", "words", "worths", "room", "deep"] (defScope st__law_expression) := ⟨rfl, rfl, rfl, by decide +kernel, rfl, by decide +kernel, by decide +kernel⟩
abbrev st__law_is : Stmt := topS 44
abbrev N__law_is : List Str := ["told", "due"]
theorem sc__law_is : FnScope N__law_is ["told", "due"] (defScope st__law_is) := ⟨rfl, rfl, rfl, by decide +kernel, rfl, by decide +kernel, by decide +kernel⟩
abbrev st__law_parts : Stmt := topS 45
abbrev N__law_parts : List Str := ["thing"]
theorem sc__law_parts : FnScope N__law_parts ["thing"] (defScope st__law_parts) := ⟨rfl, rfl, rfl, by decide +kernel, rfl, by decide +kernel, by decide +kernel⟩
abbrev st__law_is_whole : Stmt := topS 46
abbrev N__law_is_whole : List Str := ["thing", "least", "most"]
theorem sc__law_is_whole : FnScope N__law_is_whole ["thing", "least", "most"] (defScope st__law_is_whole) := ⟨rfl, rfl, rfl, by decide +kernel, rfl, by decide +kernel, by decide +kernel⟩
abbrev st__law_is_word : Stmt := topS 47
abbrev N__law_is_word : List Str := ["thing", "sign"]
theorem sc__law_is_word : FnScope N__law_is_word ["thing"] (defScope st__law_is_word) := ⟨rfl, rfl, rfl, by decide +kernel, rfl, by decide +kernel, by decide +kernel⟩
abbrev st__law_is_lone : Stmt := topS 48
abbrev N__law_is_lone : List Str := ["thing", "word", "many"]
theorem sc__law_is_lone : FnScope N__law_is_lone ["thing"] (defScope st__law_is_lone) := ⟨rfl, rfl, rfl, by decide +kernel, rfl, by decide +kernel, by decide +kernel⟩
abbrev st__law_sizes : Stmt := topS 49
abbrev N__law_sizes : List Str := ["thing", "places", "at", "deep", "many", "sizes"]
theorem sc__law_sizes : FnScope N__law_sizes ["thing"] (defScope st__law_sizes) := ⟨rfl, rfl, rfl, by decide +kernel, rfl, by decide +kernel, by decide +kernel⟩
abbrev st__law_tower : Stmt := topS 50
abbrev N__law_tower : List Str := ["hand", "thing", "many", "k", "kind"]
theorem sc__law_tower : FnScope N__law_tower ["hand", "thing", "many"] (defScope st__law_tower) := ⟨rfl, rfl, rfl, by decide +kernel, rfl, by decide +kernel, by decide +kernel⟩
abbrev st__law_row : Stmt := topS 51
abbrev N__law_row : List Str := ["hand", "word", "atom", "many", "row", "turn", "later", "k"]
theorem sc__law_row : FnScope N__law_row ["hand", "word", "atom", "many"] (defScope st__law_row) := ⟨rfl, rfl, rfl, by decide +kernel, rfl, by decide +kernel, by decide +kernel⟩
abbrev st__law_at_bounds : Stmt := topS 52
abbrev N__law_at_bounds : List Str := ["hand", "atom", "kind", "word", "some", "times"]
theorem sc__law_at_bounds : FnScope N__law_at_bounds ["hand", "atom"] (defScope st__law_at_bounds) := ⟨rfl, rfl, rfl, by decide +kernel, rfl, by decide +kernel, by decide +kernel⟩
abbrev st__law_odd : Stmt := topS 53
abbrev N__law_odd : List Str := ["hand", "thing", "kind", "most", "odd"]
theorem sc__law_odd : FnScope N__law_odd ["hand", "thing"] (defScope st__law_odd) := ⟨rfl, rfl, rfl, by decide +kernel, rfl, by decide +kernel, by decide +kernel⟩
abbrev st__law_bent : Stmt := topS 54
abbrev N__law_bent : List Str := ["hand", "thing", "deep", "places", "at"]
theorem sc__law_bent : FnScope N__law_bent ["hand", "thing", "deep"] (defScope st__law_bent) := ⟨rfl, rfl, rfl, by decide +kernel, rfl, by decide +kernel, by decide +kernel⟩
abbrev st__law_back : Stmt := topS 55
abbrev N__law_back : List Str := ["thing", "at"]
theorem sc__law_back : FnScope N__law_back ["thing"] (defScope st__law_back) := ⟨rfl, rfl, rfl, by decide +kernel, rfl, by decide +kernel, by decide +kernel⟩
abbrev st__law_told : Stmt := topS 56
abbrev N__law_told : List Str := ["which", "thing", "e", "found"]
theorem sc__law_told : FnScope N__law_told ["which", "thing"] (defScope st__law_told) := ⟨rfl, rfl, rfl, by decide +kernel, rfl, by decide +kernel, by decide +kernel⟩
abbrev st__law_is_right : Stmt := topS 57
abbrev N__law_is_right : List Str := ["thing", "sizes", "ahead", "is_one", "told", "back"]
theorem sc__law_is_right : FnScope N__law_is_right ["thing"] (defScope st__law_is_right) := ⟨rfl, rfl, rfl, by decide +kernel, rfl, by decide +kernel, by decide +kernel⟩
abbrev st_law : Stmt := topS 58
abbrev N_law : List Str := ["script", "hand", "turn", "words", "worths", "thing", "k"]
theorem sc_law : FnScope N_law ["script"] (defScope st_law) := ⟨rfl, rfl, rfl, by decide +kernel, rfl, by decide +kernel, by decide +kernel⟩
def mb_is_integer : MS := (mRet (mAnd (mIs "int" (mVar 0)) (mNot (mIs "bool" (mVar 0)))))
def m_is_integer : FN := mDef 1 mb_is_integer
def mb_is_within : MS := (mRet (mAnd (mCal (lenW 1 (m_is_integer)) (mCons (mVar 0) mNil)) (mChain (tst2 leD) (tst2 leD) (mVar 1) (mVar 0) (mVar 2))))
def m_is_within : FN := mDef 3 mb_is_within
def mb_is_worth : MS := (mRet (mCal (lenW 3 (m_is_within)) (mCons (mVar 0) (mCons (mUn negD (mC (.int 1000000000000000000))) (mCons (mC (.int 1000000000000000000)) mNil)))))
def m_is_worth : FN := mDef 1 mb_is_worth
def mb_are_letters : MS := (mRet (mAnd (mIs "str" (mVar 0)) (mAnd (mOp2 (tst2 eqD) (mCal fLen (mCons (mVar 0) mNil)) (mVar 1)) (mCal fAll (mCons (mOfL (mLc (mIter (mVar 0)) (gN 2) mYes (mOp2 (rdt2 inD) (mVar 2) (mC (.str "abcdefghijklmnopqrstuvwxyz"))) (([("sign", 2)] : List (Str × Nat)).map (·.2)))) mNil)))))
def m_are_letters : FN := mDef 3 mb_are_letters
def mb_is_word : MS := (mRet (mCal (lenW 2 (m_are_letters)) (mCons (mVar 0) (mCons (mC (.int 2)) mNil))))
def m_is_word : FN := mDef 1 mb_is_word
def mb_is_atom : MS := (mSeq (mIfS (mT (mOp2 (rdt2 inD) (mOp2 (rd2 ixD) (mVar 0) (mC (.int 0))) (mC (.tuple [(.str "any"), (.str "here")])))) (mRet (mOp2 (tst2 eqD) (mCal fLen (mCons (mVar 0) mNil)) (mC (.int 1)))) mPass) (mSeq (mIfS (mT (mOp2 (rdt2 inD) (mOp2 (rd2 ixD) (mVar 0) (mC (.int 0))) (mC (.tuple [(.str "word"), (.str "back")])))) (mRet (mAnd (mOp2 (tst2 eqD) (mCal fLen (mCons (mVar 0) mNil)) (mC (.int 2))) (mCal (lenW 1 (m_is_word)) (mCons (mOp2 (rd2 ixD) (mVar 0) (mC (.int 1))) mNil)))) mPass) (mRet (mAnd (mOp2 (tst2 eqD) (mCal fLen (mCons (mVar 0) mNil)) (mC (.int 3))) (mAnd (mOp2 (tst2 eqD) (mOp2 (rd2 ixD) (mVar 0) (mC (.int 0))) (mC (.str "node"))) (mAnd (mOp2 (rdt2 inD) (mOp2 (rd2 ixD) (mVar 0) (mC (.int 1))) (mC (.tuple [(.str "<"), (.str "="), (.str ">")]))) (mCal (lenW 1 (m_is_worth)) (mCons (mOp2 (rd2 ixD) (mVar 0) (mC (.int 2))) mNil))))))))
def m_is_atom : FN := mDef 1 mb_is_atom
def mb_parts_of : MS := (mSeq (mIfS (tAndM (mT (mOp2 (rdt2 inD) (mOp2 (rd2 ixD) (mVar 0) (mC (.int 0))) (mC (.tuple [(.str "then"), (.str "or")])))) (mT (mOp2 (tst2 eqD) (mCal fLen (mCons (mVar 0) mNil)) (mC (.int 3))))) (mRet (mOfL (mLst (mCons (mOp2 (rd2 ixD) (mVar 0) (mC (.int 1))) (mCons (mOp2 (rd2 ixD) (mVar 0) (mC (.int 2))) mNil))))) mPass) (mSeq (mIfS (tAndM (mT (mOp2 (rdt2 inD) (mOp2 (rd2 ixD) (mVar 0) (mC (.int 0))) (mC (.tuple [(.str "star"), (.str "plus"), (.str "maybe")])))) (mT (mOp2 (tst2 eqD) (mCal fLen (mCons (mVar 0) mNil)) (mC (.int 2))))) (mRet (mOfL (mLst (mCons (mOp2 (rd2 ixD) (mVar 0) (mC (.int 1))) mNil)))) mPass) (mSeq (mIfS (tAndM (mT (mOp2 (tst2 eqD) (mOp2 (rd2 ixD) (mVar 0) (mC (.int 0))) (mC (.str "times")))) (tAndM (mT (mOp2 (tst2 eqD) (mCal fLen (mCons (mVar 0) mNil)) (mC (.int 4)))) (mT (mCal (lenW 3 (m_is_within)) (mCons (mOp2 (rd2 ixD) (mVar 0) (mC (.int 1))) (mCons (mC (.int 0)) (mCons (mC (.int 9)) mNil))))))) (mRet (mIf (mT (mCal (lenW 3 (m_is_within)) (mCons (mOp2 (rd2 ixD) (mVar 0) (mC (.int 2))) (mCons (mCal fMax2 (mCons (mC (.int 1)) (mCons (mOp2 (rd2 ixD) (mVar 0) (mC (.int 1))) mNil))) (mCons (mC (.int 9)) mNil))))) (mOfL (mLst (mCons (mOp2 (rd2 ixD) (mVar 0) (mC (.int 3))) mNil))) (mC .none))) mPass) (mRet (mC .none)))))
def m_parts_of : FN := mDef 1 mb_parts_of
def mb_is_kind : MS := (mRet (mAnd (mIs "tuple" (mVar 0)) (mAnd (mOp2 (tst2 gtD) (mCal fLen (mCons (mVar 0) mNil)) (mC (.int 0))) (mIs "str" (mOp2 (rd2 ixD) (mVar 0) (mC (.int 0)))))))
def m_is_kind : FN := mDef 1 mb_is_kind
def mb_is_sign : MS := (mRet (mOr (mOp2 (not2 (tst2 eqD)) (mOp2 (rd2 ixD) (mVar 0) (mC (.int 0))) (mC (.str "node"))) (mOr (mOp2 (not2 (tst2 eqD)) (mCal fLen (mCons (mVar 0) mNil)) (mC (.int 3))) (mIs "str" (mOp2 (rd2 ixD) (mVar 0) (mC (.int 1)))))))
def m_is_sign : FN := mDef 1 mb_is_sign
def mb_size_within (rec : FN) : MS := (mSeq (mIfS (tOrM (mT (mOp2 (tst2 eqD) (mVar 1) (mC (.int 0)))) (tOrM (tNotM (mT (mCal (lenW 1 (m_is_kind)) (mCons (mVar 0) mNil)))) (tNotM (mT (mCal (lenW 1 (m_is_sign)) (mCons (mVar 0) mNil)))))) (mRet (mC .none)) mPass) (mSeq (mIfS (mT (mCal (lenW 1 (m_is_atom)) (mCons (mVar 0) mNil))) (mRet (mC (.int 1))) mPass) (mSeq (mSet 2 (mCal (lenW 1 (m_parts_of)) (mCons (mVar 0) mNil))) (mSeq (mIfS (mT (mIsNo false (mVar 2))) (mRet (mC .none)) mPass) (mSeq (mSet 3 (mOfL (mLc (mIter (mVar 2)) (gN 4) mYes (mCal (lenW 2 rec) (mCons (mVar 4) (mCons (mOp2 (dat2 subD) (mVar 1) (mC (.int 1))) mNil))) (([("part", 4)] : List (Str × Nat)).map (·.2))))) (mSeq (mIfS (mT (mOp2 (rdt2 inD) (mC .none) (mVar 3))) (mRet (mC .none)) mPass) (mRet (mOp2 (dat2 mulD) (mCal fSum (mCons (mVar 3) mNil)) (mIf (mT (mOp2 (tst2 eqD) (mOp2 (rd2 ixD) (mVar 0) (mC (.int 0))) (mC (.str "times")))) (mOp2 (rd2 ixD) (mVar 0) (mC (.int 2))) (mC (.int 1)))))))))))
def m_size_within : Nat → FN
  | 0 => fun _ _ => .stuck
  | n + 1 => mDef 5 (mb_size_within (m_size_within n))
def mb_size_of : MS := (mSeq (mSet 1 (mCal (lenW 2 (m_size_within 40)) (mCons (mVar 0) (mCons (mC (.int 30)) mNil)))) (mRet (mIf (tOrM (mT (mIsNo false (mVar 1))) (mT (mOp2 (tst2 gtD) (mVar 1) (mC (.int 300))))) (mC .none) (mVar 1))))
def m_size_of : FN := mDef 2 mb_size_of
def mb_is_expression : MS := (mRet (mIsNo true (mCal (lenW 1 (m_size_of)) (mCons (mVar 0) mNil))))
def m_is_expression : FN := mDef 1 mb_is_expression
def mb_check_expression : MS := (mIfS (tNotM (mT (mCal (lenW 1 (m_is_expression)) (mCons (mVar 0) mNil)))) (mRaise 0) mPass)
def m_check_expression : FN := mDef 1 mb_check_expression
def mb_size : MS := (mSeq (mDrop (mCal (lenW 1 (m_check_expression)) (mCons (mVar 0) mNil))) (mRet (mCal (lenW 1 (m_size_of)) (mCons (mVar 0) mNil))))
def m_size : FN := mDef 1 mb_size
def mb_turned_of (rec : FN) : MS := (mSeq (mIfS (mT (mOp2 (rdt2 inD) (mOp2 (rd2 ixD) (mVar 0) (mC (.int 0))) (mC (.tuple [(.str "word"), (.str "back")])))) (mRet (mTup (mCons (mIf (mT (mOp2 (tst2 eqD) (mOp2 (rd2 ixD) (mVar 0) (mC (.int 0))) (mC (.str "word")))) (mC (.str "back")) (mC (.str "word"))) (mCons (mOp2 (rd2 ixD) (mVar 0) (mC (.int 1))) mNil)))) mPass) (mSeq (mIfS (mT (mOp2 (rdt2 inD) (mOp2 (rd2 ixD) (mVar 0) (mC (.int 0))) (mTup (mCons (mC (.str "any")) (mCons (mC (.str "here")) (mCons (mC (.str "node")) mNil)))))) (mRet (mVar 0)) mPass) (mSeq (mSet 1 (mOfL (mLc (mIter (mCal (lenW 1 (m_parts_of)) (mCons (mVar 0) mNil))) (gN 2) mYes (mCal (lenW 1 rec) (mCons (mVar 2) mNil)) (([("part", 2)] : List (Str × Nat)).map (·.2))))) (mSeq (mIfS (mT (mOp2 (tst2 eqD) (mOp2 (rd2 ixD) (mVar 0) (mC (.int 0))) (mC (.str "then")))) (mRet (mTup (mCons (mC (.str "then")) (mCons (mOp2 (rd2 ixD) (mVar 1) (mC (.int 1))) (mCons (mOp2 (rd2 ixD) (mVar 1) (mC (.int 0))) mNil))))) mPass) (mRet (mOp2 (dat2 addD) (mSl (mVar 0) mNoP (mPart (mOp2 (dat2 subD) (mCal fLen (mCons (mVar 0) mNil)) (mCal fLen (mCons (mVar 1) mNil))))) (mCal fTuple (mCons (mVar 1) mNil))))))))
def m_turned_of : Nat → FN
  | 0 => fun _ _ => .stuck
  | n + 1 => mDef 3 (mb_turned_of (m_turned_of n))
def mb_turned_expression : MS := (mSeq (mDrop (mCal (lenW 1 (m_check_expression)) (mCons (mVar 0) mNil))) (mRet (mCal (lenW 1 (m_turned_of 40)) (mCons (mVar 0) mNil))))
def m_turned_expression : FN := mDef 1 mb_turned_expression
def mb__law_mixed : MS := (mSeq (mSet 2 (mOp2 (dat2 modD) (mCal fInt (mCons (mOp2 (dat2 mulD) (mOp2 (dat2 addD) (mOp2 (dat2 addD) (mOp2 (dat2 modD) (mCal fInt (mCons (mVar 0) mNil)) (mC (.int 2147483647))) (mOp2 (dat2 mulD) (mC (.int 7919)) (mVar 1))) (mC (.int 1))) (mC (.int 48271))) mNil)) (mC (.int 2147483647)))) (mSeq (mSet 2 (mOp2 (dat2 modD) (mCal fInt (mCons (mOp2 (dat2 mulD) (mVar 2) (mOp2 (dat2 addD) (mOp2 (dat2 fdivD) (mVar 2) (mC (.int 1009))) (mC (.int 69621)))) mNil)) (mC (.int 2147483647)))) (mRet (mOp2 (dat2 fdivD) (mOp2 (dat2 modD) (mCal fInt (mCons (mOp2 (dat2 mulD) (mVar 2) (mOp2 (dat2 addD) (mOp2 (dat2 fdivD) (mVar 2) (mC (.int 2003))) (mC (.int 40692)))) mNil)) (mC (.int 2147483399))) (mC (.int 16))))))
def m__law_mixed : FN := mDef 3 mb__law_mixed
def mb__law_hand : MS := (mRet (mNew (mLst (mCons (mOfL (mLc (mIter (mSl (mVar 0) mNoP (mPart (mC (.int 63))))) (gN 1) mYes (mCal fInt (mCons (mVar 1) mNil)) (([("cell", 1)] : List (Str × Nat)).map (·.2)))) (mCons (mC (.int 0)) (mCons (mC (.int 0)) (mCons (mC (.int 0)) mNil)))))))
def m__law_hand : FN := mDef 2 mb__law_hand
def mb__law_draw : MS := (mSeq (mSetI (mVar 0) (mC (.int 3)) (mOp2 (dat2 addD) (mOp2 (rd2 ixD) (mVar 0) (mC (.int 3))) (mC (.int 1)))) (mSeq (mIfS (mT (mOp2 (tst2 gtD) (mOp2 (rd2 ixD) (mVar 0) (mC (.int 2))) (mC (.int 0)))) (mSeq (mSet 3 (mOp2 (dat2 modD) (mCal fInt (mCons (mOp2 (rd2 ixD) (mVar 0) (mC (.int 2))) mNil)) (mVar 1))) (mSeq (mSetI (mVar 0) (mC (.int 2)) (mOp2 (dat2 fdivD) (mOp2 (rd2 ixD) (mVar 0) (mC (.int 2))) (mVar 1))) (mRet (mVar 3)))) mPass) (mSeq (mPar 4 5 (mCons (mOp2 (rd2 ixD) (mVar 0) (mC (.int 0))) (mCons (mOp2 (rd2 ixD) (mVar 0) (mC (.int 1))) mNil))) (mSeq (mSetI (mVar 0) (mC (.int 1)) (mOp2 (dat2 addD) (mVar 5) (mC (.int 1)))) (mSeq (mIfS (mT (mOp2 (tst2 eqD) (mCal fLen (mCons (mVar 4) mNil)) (mC (.int 0)))) (mRet (mOp2 (dat2 modD) (mCal fInt (mCons (mCal (lenW 2 (m__law_mixed)) (mCons (mC (.int 0)) (mCons (mOp2 (rd2 ixD) (mVar 0) (mC (.int 3))) mNil))) mNil)) (mVar 1))) mPass) (mSeq (mSet 2 (mOp2 (rd2 ixD) (mVar 4) (mOp2 (dat2 modD) (mCal fInt (mCons (mVar 5) mNil)) (mCal fLen (mCons (mVar 4) mNil))))) (mSeq (mIfS (tAndM (mT (mOp2 (tst2 ltD) (mVar 5) (mCal fLen (mCons (mVar 4) mNil)))) (mT (mOp2 (tst2 geD) (mCal fAbs (mCons (mVar 2) mNil)) (mOp2 (dat2 powD) (mC (.int 10)) (mC (.int 18)))))) (mSeq (mSetI (mVar 0) (mC (.int 2)) (mOp2 (dat2 fdivD) (mCal fAbs (mCons (mVar 2) mNil)) (mVar 1))) (mRet (mOp2 (dat2 modD) (mCal fInt (mCons (mCal fAbs (mCons (mVar 2) mNil)) mNil)) (mVar 1)))) mPass) (mRet (mOp2 (dat2 modD) (mCal fInt (mCons (mCal (lenW 2 (m__law_mixed)) (mCons (mVar 2) (mCons (mOp2 (rd2 ixD) (mVar 0) (mC (.int 3))) mNil))) mNil)) (mVar 1))))))))))
def m__law_draw : FN := mDef 6 mb__law_draw
def mb__law_letters : MS := (mSeq (mSet 2 (mC (.str "abcdefghijklmnopqrstuvwxyz"))) (mSeq (mSet 3 (mC (.str ""))) (mSeq (mFor (mRng1 (mCons (mVar 1) mNil)) (gN 4) (mSet 3 (mOp2 (dat2 addD) (mVar 3) (mOp2 (rd2 ixD) (mVar 2) (mCal (lenW 2 (m__law_draw)) (mCons (mVar 0) (mCons (mC (.int 26)) mNil))))))) (mRet (mVar 3)))))
def m__law_letters : FN := mDef 5 mb__law_letters
def mb__law_words : MS := (mSeq (mSet 1 (mNew (mLst (mCons (mCal (lenW 2 (m__law_letters)) (mCons (mVar 0) (mCons (mC (.int 2)) mNil))) mNil)))) (mSeq (mFor (mRng1 (mCons (mOp2 (dat2 addD) (mC (.int 1)) (mCal (lenW 2 (m__law_draw)) (mCons (mVar 0) (mCons (mC (.int 2)) mNil)))) mNil)) (gN 2) (mSeq (mSet 3 (mCal (lenW 2 (m__law_letters)) (mCons (mVar 0) (mCons (mC (.int 2)) mNil)))) (mSeq (mIfS (mT (mOp2 (tst2 eqD) (mCal (lenW 2 (m__law_draw)) (mCons (mVar 0) (mCons (mC (.int 2)) mNil))) (mC (.int 0)))) (mSet 3 (mOp2 (dat2 addD) (mSl (mOp2 (rd2 ixD) (mVar 1) (mC (.int 0))) mNoP (mPart (mC (.int 1)))) (mSl (mVar 3) (mPart (mC (.int 1))) mNoP))) mPass) (mIfS (mT (mOp2 (not2 (rdt2 inD)) (mVar 3) (mVar 1))) (mApp (mVar 1) (mVar 3)) mPass)))) (mRet (mFrz (mVar 1)))))
def m__law_words : FN := mDef 4 mb__law_words
def mb__law_worths : MS := (mSeq (mSet 1 (mOfL (mLst (mCons (mC (.int 0)) (mCons (mC (.int 1)) (mCons (mC (.int 7)) (mCons (mUn negD (mC (.int 5))) (mCons (mOp2 (dat2 powD) (mC (.int 10)) (mC (.int 18))) (mCons (mUn negD (mOp2 (dat2 powD) (mC (.int 10)) (mC (.int 18)))) (mCons (mCal (lenW 2 (m__law_draw)) (mCons (mVar 0) (mCons (mOp2 (dat2 powD) (mC (.int 10)) (mC (.int 8))) mNil))) (mCons (mOp2 (dat2 subD) (mUn negD (mC (.int 1))) (mCal (lenW 2 (m__law_draw)) (mCons (mVar 0) (mCons (mOp2 (dat2 powD) (mC (.int 10)) (mC (.int 8))) mNil)))) mNil))))))))))) (mSeq (mSet 2 (mOp2 (rd2 ixD) (mVar 1) (mCal (lenW 2 (m__law_draw)) (mCons (mVar 0) (mCons (mC (.int 8)) mNil))))) (mSeq (mSet 3 (mNew (mLst (mCons (mVar 2) mNil)))) (mSeq (mFor (mRng1 (mCons (mCal (lenW 2 (m__law_draw)) (mCons (mVar 0) (mCons (mC (.int 4)) mNil))) mNil)) (gN 4) (mSeq (mSet 5 (mCal fMin2 (mCons (mOp2 (dat2 powD) (mC (.int 10)) (mC (.int 18))) (mCons (mCal fMax2 (mCons (mUn negD (mOp2 (dat2 powD) (mC (.int 10)) (mC (.int 18)))) (mCons (mOp2 (dat2 subD) (mOp2 (dat2 addD) (mVar 2) (mCal (lenW 2 (m__law_draw)) (mCons (mVar 0) (mCons (mC (.int 7)) mNil)))) (mC (.int 3))) mNil))) mNil)))) (mSeq (mIfS (mT (mOp2 (tst2 eqD) (mCal (lenW 2 (m__law_draw)) (mCons (mVar 0) (mCons (mC (.int 8)) mNil))) (mC (.int 0)))) (mSet 5 (mOp2 (rd2 ixD) (mOfL (mLst (mCons (mOp2 (dat2 powD) (mC (.int 10)) (mC (.int 18))) (mCons (mUn negD (mOp2 (dat2 powD) (mC (.int 10)) (mC (.int 18)))) (mCons (mOp2 (dat2 subD) (mOp2 (dat2 powD) (mC (.int 10)) (mC (.int 18))) (mC (.int 1))) (mCons (mOp2 (dat2 subD) (mC (.int 1)) (mOp2 (dat2 powD) (mC (.int 10)) (mC (.int 18)))) mNil)))))) (mCal (lenW 2 (m__law_draw)) (mCons (mVar 0) (mCons (mC (.int 4)) mNil))))) mPass) (mIfS (mT (mOp2 (not2 (rdt2 inD)) (mVar 5) (mVar 3))) (mApp (mVar 3) (mVar 5)) mPass)))) (mRet (mFrz (mVar 3)))))))
def m__law_worths : FN := mDef 6 mb__law_worths
def mb__law_atom : MS := (mSeq (mSet 3 (mCal (lenW 2 (m__law_draw)) (mCons (mVar 0) (mCons (mC (.int 12)) mNil)))) (mSeq (mIfS (mT (mOp2 (tst2 ltD) (mVar 3) (mC (.int 5)))) (mRet (mTup (mCons (mC (.str "word")) (mCons (mOp2 (rd2 ixD) (mVar 1) (mCal (lenW 2 (m__law_draw)) (mCons (mVar 0) (mCons (mCal fLen (mCons (mVar 1) mNil)) mNil)))) mNil)))) mPass) (mSeq (mIfS (mT (mOp2 (tst2 ltD) (mVar 3) (mC (.int 7)))) (mRet (mTup (mCons (mC (.str "back")) (mCons (mOp2 (rd2 ixD) (mVar 1) (mCal (lenW 2 (m__law_draw)) (mCons (mVar 0) (mCons (mCal fLen (mCons (mVar 1) mNil)) mNil)))) mNil)))) mPass) (mSeq (mIfS (mT (mOp2 (tst2 ltD) (mVar 3) (mC (.int 10)))) (mRet (mTup (mCons (mC (.str "node")) (mCons (mOp2 (rd2 ixD) (mC (.str "<=>")) (mCal (lenW 2 (m__law_draw)) (mCons (mVar 0) (mCons (mC (.int 3)) mNil)))) (mCons (mOp2 (rd2 ixD) (mVar 2) (mCal (lenW 2 (m__law_draw)) (mCons (mVar 0) (mCons (mCal fLen (mCons (mVar 2) mNil)) mNil)))) mNil))))) mPass) (mRet (mOp2 (rd2 ixD) (mOfL (mLst (mCons (mTup (mCons (mC (.str "any")) mNil)) (mCons (mTup (mCons (mC (.str "here")) mNil)) mNil)))) (mOp2 (dat2 subD) (mVar 3) (mC (.int 10)))))))))
def m__law_atom : FN := mDef 4 mb__law_atom
def mb__law_expression (rec : FN) : MS := (mSeq (mIfS (tOrM (mT (mOp2 (tst2 leD) (mVar 4) (mC (.int 1)))) (tAndM (mT (mOp2 (tst2 leD) (mVar 3) (mC (.int 1)))) (mT (mOp2 (tst2 gtD) (mCal (lenW 2 (m__law_draw)) (mCons (mVar 0) (mCons (mC (.int 3)) mNil))) (mC (.int 0)))))) (mRet (mCal (lenW 3 (m__law_atom)) (mCons (mVar 0) (mCons (mVar 1) (mCons (mVar 2) mNil))))) mPass) (mSeq (mSet 5 (mCal (lenW 2 (m__law_draw)) (mCons (mVar 0) (mCons (mC (.int 12)) mNil)))) (mSeq (mIfS (tAndM (mT (mOp2 (tst2 gtD) (mVar 3) (mC (.int 1)))) (mT (mOp2 (tst2 ltD) (mVar 5) (mC (.int 7))))) (mSeq (mSet 8 (mOp2 (dat2 addD) (mC (.int 1)) (mCal (lenW 2 (m__law_draw)) (mCons (mVar 0) (mCons (mOp2 (dat2 subD) (mVar 3) (mC (.int 1))) mNil))))) (mSeq (mSet 9 (mCal (lenW 5 rec) (mCons (mVar 0) (mCons (mVar 1) (mCons (mVar 2) (mCons (mVar 8) (mCons (mOp2 (dat2 subD) (mVar 4) (mC (.int 1))) mNil))))))) (mSeq (mSet 10 (mCal (lenW 5 rec) (mCons (mVar 0) (mCons (mVar 1) (mCons (mVar 2) (mCons (mOp2 (dat2 subD) (mVar 3) (mVar 8)) (mCons (mOp2 (dat2 subD) (mVar 4) (mC (.int 1))) mNil))))))) (mRet (mTup (mCons (mOp2 (rd2 ixD) (mOfL (mLst (mCons (mC (.str "then")) (mCons (mC (.str "or")) mNil)))) (mCal fInt (mCons (mOp2 (tst2 gtD) (mVar 5) (mC (.int 3))) mNil))) (mCons (mVar 9) (mCons (mVar 10) mNil)))))))) mPass) (mSeq (mIfS (mT (mOp2 (tst2 ltD) (mVar 5) (mC (.int 10)))) (mSeq (mSet 11 (mOp2 (rd2 ixD) (mOfL (mLst (mCons (mC (.str "star")) (mCons (mC (.str "plus")) (mCons (mC (.str "maybe")) mNil))))) (mCal (lenW 2 (m__law_draw)) (mCons (mVar 0) (mCons (mC (.int 3)) mNil))))) (mRet (mTup (mCons (mVar 11) (mCons (mCal (lenW 5 rec) (mCons (mVar 0) (mCons (mVar 1) (mCons (mVar 2) (mCons (mVar 3) (mCons (mOp2 (dat2 subD) (mVar 4) (mC (.int 1))) mNil)))))) mNil))))) mPass) (mSeq (mSet 6 (mOp2 (dat2 addD) (mC (.int 1)) (mCal (lenW 2 (m__law_draw)) (mCons (mVar 0) (mCons (mCal fMin2 (mCons (mC (.int 9)) (mCons (mVar 3) mNil))) mNil))))) (mSeq (mSet 7 (mCal (lenW 2 (m__law_draw)) (mCons (mVar 0) (mCons (mOp2 (dat2 addD) (mVar 6) (mC (.int 1))) mNil)))) (mRet (mTup (mCons (mC (.str "times")) (mCons (mVar 7) (mCons (mVar 6) (mCons (mCal (lenW 5 rec) (mCons (mVar 0) (mCons (mVar 1) (mCons (mVar 2) (mCons (mOp2 (dat2 fdivD) (mVar 3) (mVar 6)) (mCons (mOp2 (dat2 subD) (mVar 4) (mC (.int 1))) mNil)))))) mNil))))))))))))
def m__law_expression : Nat → FN
  | 0 => fun _ _ => .stuck
  | n + 1 => mDef 12 (mb__law_expression (m__law_expression n))
def mb__law_is : MS := (mRet (mAnd (mIs "bool" (mVar 0)) (mOp2 (tst2 eqD) (mVar 0) (mVar 1))))
def m__law_is : FN := mDef 2 mb__law_is
def mb__law_parts : MS := (mSeq (mIfS (mT (mOp2 (rdt2 inD) (mOp2 (rd2 ixD) (mVar 0) (mC (.int 0))) (mOfL (mLst (mCons (mC (.str "then")) (mCons (mC (.str "or")) mNil)))))) (mRet (mOfL (mLst (mCons (mC (.int 1)) (mCons (mC (.int 2)) mNil))))) mPass) (mSeq (mIfS (mT (mOp2 (rdt2 inD) (mOp2 (rd2 ixD) (mVar 0) (mC (.int 0))) (mOfL (mLst (mCons (mC (.str "star")) (mCons (mC (.str "plus")) (mCons (mC (.str "maybe")) mNil))))))) (mRet (mOfL (mLst (mCons (mC (.int 1)) mNil)))) mPass) (mRet (mIf (mT (mOp2 (tst2 eqD) (mOp2 (rd2 ixD) (mVar 0) (mC (.int 0))) (mC (.str "times")))) (mOfL (mLst (mCons (mC (.int 3)) mNil))) (mOfL (mLst mNil))))))
def m__law_parts : FN := mDef 1 mb__law_parts
def mb__law_is_whole : MS := (mRet (mAnd (mIs "int" (mVar 0)) (mAnd (mNot (mIs "bool" (mVar 0))) (mChain (tst2 leD) (tst2 leD) (mVar 1) (mVar 0) (mVar 2)))))
def m__law_is_whole : FN := mDef 3 mb__law_is_whole
def mb__law_is_word : MS := (mSeq (mIfS (tOrM (tNotM (mT (mIs "str" (mVar 0)))) (mT (mOp2 (not2 (tst2 eqD)) (mCal fLen (mCons (mVar 0) mNil)) (mC (.int 2))))) (mRet (mC (.bool false))) mPass) (mRet (mCal fAll (mCons (mOfL (mLc (mIter (mVar 0)) (gN 1) mYes (mOp2 (rdt2 inD) (mVar 1) (mC (.str "abcdefghijklmnopqrstuvwxyz"))) (([("sign", 1)] : List (Str × Nat)).map (·.2)))) mNil))))
def m__law_is_word : FN := mDef 2 mb__law_is_word
def mb__law_is_lone : MS := (mSeq (mPar 1 2 (mCons (mOp2 (rd2 ixD) (mVar 0) (mC (.int 0))) (mCons (mCal fLen (mCons (mVar 0) mNil)) mNil))) (mSeq (mIfS (mT (mOp2 (rdt2 inD) (mVar 1) (mOfL (mLst (mCons (mC (.str "any")) (mCons (mC (.str "here")) mNil)))))) (mRet (mOp2 (tst2 eqD) (mVar 2) (mC (.int 1)))) mPass) (mSeq (mIfS (mT (mOp2 (rdt2 inD) (mVar 1) (mOfL (mLst (mCons (mC (.str "word")) (mCons (mC (.str "back")) mNil)))))) (mRet (mAnd (mOp2 (tst2 eqD) (mVar 2) (mC (.int 2))) (mCal (lenW 1 (m__law_is_word)) (mCons (mOp2 (rd2 ixD) (mVar 0) (mC (.int 1))) mNil)))) mPass) (mSeq (mIfS (mT (mOp2 (tst2 eqD) (mVar 1) (mC (.str "node")))) (mSeq (mIfS (tOrM (mT (mOp2 (not2 (tst2 eqD)) (mVar 2) (mC (.int 3)))) (tOrM (tNotM (mT (mIs "str" (mOp2 (rd2 ixD) (mVar 0) (mC (.int 1)))))) (mT (mOp2 (not2 (rdt2 inD)) (mOp2 (rd2 ixD) (mVar 0) (mC (.int 1))) (mOfL (mLst (mCons (mC (.str "<")) (mCons (mC (.str "=")) (mCons (mC (.str ">")) mNil))))))))) (mRet (mC (.bool false))) mPass) (mRet (mCal (lenW 3 (m__law_is_whole)) (mCons (mOp2 (rd2 ixD) (mVar 0) (mC (.int 2))) (mCons (mUn negD (mOp2 (dat2 powD) (mC (.int 10)) (mC (.int 18)))) (mCons (mOp2 (dat2 powD) (mC (.int 10)) (mC (.int 18))) mNil)))))) mPass) (mSeq (mIfS (mT (mOp2 (tst2 eqD) (mVar 1) (mC (.str "times")))) (mRet (mAnd (mOp2 (tst2 eqD) (mVar 2) (mC (.int 4))) (mAnd (mCal (lenW 3 (m__law_is_whole)) (mCons (mOp2 (rd2 ixD) (mVar 0) (mC (.int 1))) (mCons (mC (.int 0)) (mCons (mC (.int 9)) mNil)))) (mCal (lenW 3 (m__law_is_whole)) (mCons (mOp2 (rd2 ixD) (mVar 0) (mC (.int 2))) (mCons (mCal fMax2 (mCons (mC (.int 1)) (mCons (mOp2 (rd2 ixD) (mVar 0) (mC (.int 1))) mNil))) (mCons (mC (.int 9)) mNil))))))) mPass) (mRet (mOr (mAnd (mOp2 (rdt2 inD) (mVar 1) (mOfL (mLst (mCons (mC (.str "then")) (mCons (mC (.str "or")) mNil))))) (mOp2 (tst2 eqD) (mVar 2) (mC (.int 3)))) (mAnd (mOp2 (rdt2 inD) (mVar 1) (mOfL (mLst (mCons (mC (.str "star")) (mCons (mC (.str "plus")) (mCons (mC (.str "maybe")) mNil)))))) (mOp2 (tst2 eqD) (mVar 2) (mC (.int 2)))))))))))
def m__law_is_lone : FN := mDef 3 mb__law_is_lone
def mb__law_sizes (rec : FN) : MS := (mSeq (mIfS (tOrM (tNotM (mT (mIs "tuple" (mVar 0)))) (tOrM (mT (mOp2 (tst2 eqD) (mCal fLen (mCons (mVar 0) mNil)) (mC (.int 0)))) (tOrM (tNotM (mT (mIs "str" (mOp2 (rd2 ixD) (mVar 0) (mC (.int 0)))))) (tNotM (mT (mCal (lenW 1 (m__law_is_lone)) (mCons (mVar 0) mNil))))))) (mRet (mC .none)) mPass) (mSeq (mAsg (gT [3, 4]) (mTup (mCons (mC (.int 0)) (mCons (mC (.int 0)) mNil)))) (mSeq (mSet 1 (mCal (lenW 1 (m__law_parts)) (mCons (mVar 0) mNil))) (mSeq (mFor (mIter (mVar 1)) (gN 2) (mSeq (mSet 5 (mCal (lenW 1 rec) (mCons (mOp2 (rd2 ixD) (mVar 0) (mVar 2)) mNil))) (mSeq (mIfS (mT (mIsNo false (mVar 5))) (mRet (mC .none)) mPass) (mPar 3 4 (mCons (mCal fMax2 (mCons (mVar 3) (mCons (mOp2 (rd2 ixD) (mVar 5) (mC (.int 0))) mNil))) (mCons (mOp2 (dat2 addD) (mVar 4) (mOp2 (rd2 ixD) (mVar 5) (mC (.int 1)))) mNil)))))) (mSeq (mIfS (mT (mOp2 (tst2 eqD) (mOp2 (rd2 ixD) (mVar 0) (mC (.int 0))) (mC (.str "times")))) (mSet 4 (mOp2 (dat2 mulD) (mVar 4) (mOp2 (rd2 ixD) (mVar 0) (mC (.int 2))))) mPass) (mRet (mTup (mCons (mOp2 (dat2 addD) (mVar 3) (mC (.int 1))) (mCons (mOp2 (dat2 addD) (mVar 4) (mCal fInt (mCons (mOp2 (tst2 eqD) (mCal fLen (mCons (mVar 1) mNil)) (mC (.int 0))) mNil))) mNil)))))))))
def m__law_sizes : Nat → FN
  | 0 => fun _ _ => .stuck
  | n + 1 => mDef 6 (mb__law_sizes (m__law_sizes n))
def mb__law_tower : MS := (mSeq (mFor (mRng1 (mCons (mVar 2) mNil)) (gN 3) (mSeq (mSet 4 (mCal (lenW 2 (m__law_draw)) (mCons (mVar 0) (mCons (mC (.int 6)) mNil)))) (mIfS (mT (mOp2 (tst2 ltD) (mVar 4) (mC (.int 3)))) (mSet 1 (mTup (mCons (mOp2 (rd2 ixD) (mOfL (mLst (mCons (mC (.str "star")) (mCons (mC (.str "plus")) (mCons (mC (.str "maybe")) mNil))))) (mVar 4)) (mCons (mVar 1) mNil)))) (mIfS (mT (mOp2 (tst2 eqD) (mVar 4) (mC (.int 3)))) (mSet 1 (mTup (mCons (mC (.str "times")) (mCons (mCal (lenW 2 (m__law_draw)) (mCons (mVar 0) (mCons (mC (.int 2)) mNil))) (mCons (mC (.int 1)) (mCons (mVar 1) mNil)))))) (mSet 1 (mTup (mCons (mOp2 (rd2 ixD) (mOfL (mLst (mCons (mC (.str "then")) (mCons (mC (.str "or")) mNil)))) (mOp2 (dat2 subD) (mVar 4) (mC (.int 4)))) (mCons (mVar 1) (mCons (mTup (mCons (mC (.str "here")) mNil)) mNil))))))))) (mRet (mVar 1)))
def m__law_tower : FN := mDef 5 mb__law_tower
def mb__law_row : MS := (mSeq (mSet 4 (mOfL (mLc (mRng1 (mCons (mVar 3) mNil)) (gN 7) mYes (mVar 2) (([("k", 7)] : List (Str × Nat)).map (·.2))))) (mSeq (mFor (mRng1 (mCons (mC (.int 9)) mNil)) (gN 5) (mSeq (mSet 6 (mNew (mLc (mRngC (mCons (mC (.int 0)) (mCons (mOp2 (dat2 subD) (mCal fLen (mCons (mVar 4) mNil)) (mC (.int 1))) (mCons (mC (.int 2)) mNil)))) (gN 7) mYes (mTup (mCons (mVar 1) (mCons (mOp2 (rd2 ixD) (mVar 4) (mVar 7)) (mCons (mOp2 (rd2 ixD) (mVar 4) (mOp2 (dat2 addD) (mVar 7) (mC (.int 1)))) mNil)))) (([("k", 7)] : List (Str × Nat)).map (·.2))))) (mSeq (mIfS (mT (mOp2 (tst2 eqD) (mOp2 (dat2 modD) (mCal fInt (mCons (mCal fLen (mCons (mVar 4) mNil)) mNil)) (mC (.int 2))) (mC (.int 1)))) (mApp (mVar 6) (mOp2 (rd2 ixD) (mVar 4) (mUn negD (mC (.int 1))))) mPass) (mSet 4 (mFrz (mVar 6)))))) (mRet (mOp2 (rd2 ixD) (mVar 4) (mC (.int 0))))))
def m__law_row : FN := mDef 8 mb__law_row
def mb__law_at_bounds : MS := (mSeq (mSet 2 (mCal (lenW 2 (m__law_draw)) (mCons (mVar 0) (mCons (mC (.int 4)) mNil)))) (mSeq (mSet 3 (mOp2 (rd2 ixD) (mOfL (mLst (mCons (mC (.str "then")) (mCons (mC (.str "or")) mNil)))) (mCal (lenW 2 (m__law_draw)) (mCons (mVar 0) (mCons (mC (.int 2)) mNil))))) (mSeq (mIfS (mT (mOp2 (tst2 eqD) (mVar 2) (mC (.int 0)))) (mRet (mCal (lenW 3 (m__law_tower)) (mCons (mVar 0) (mCons (mVar 1) (mCons (mOp2 (dat2 addD) (mC (.int 27)) (mCal (lenW 2 (m__law_draw)) (mCons (mVar 0) (mCons (mC (.int 4)) mNil)))) mNil))))) mPass) (mSeq (mIfS (mT (mOp2 (tst2 eqD) (mVar 2) (mC (.int 1)))) (mRet (mCal (lenW 4 (m__law_row)) (mCons (mVar 0) (mCons (mVar 3) (mCons (mVar 1) (mCons (mOp2 (dat2 addD) (mC (.int 298)) (mCal (lenW 2 (m__law_draw)) (mCons (mVar 0) (mCons (mC (.int 5)) mNil)))) mNil)))))) mPass) (mSeq (mIfS (mT (mOp2 (tst2 eqD) (mVar 2) (mC (.int 2)))) (mSeq (mSet 5 (mOp2 (dat2 addD) (mC (.int 2)) (mCal (lenW 2 (m__law_draw)) (mCons (mVar 0) (mCons (mC (.int 8)) mNil))))) (mSeq (mSet 4 (mCal (lenW 4 (m__law_row)) (mCons (mVar 0) (mCons (mVar 3) (mCons (mVar 1) (mCons (mOp2 (dat2 addD) (mOp2 (dat2 fdivD) (mC (.int 300)) (mVar 5)) (mCal (lenW 2 (m__law_draw)) (mCons (mVar 0) (mCons (mC (.int 2)) mNil)))) mNil)))))) (mRet (mTup (mCons (mC (.str "times")) (mCons (mCal (lenW 2 (m__law_draw)) (mCons (mVar 0) (mCons (mOp2 (dat2 addD) (mVar 5) (mC (.int 1))) mNil))) (mCons (mVar 5) (mCons (mVar 4) mNil)))))))) mPass) (mSeq (mSet 4 (mCal (lenW 4 (m__law_row)) (mCons (mVar 0) (mCons (mVar 3) (mCons (mVar 1) (mCons (mOp2 (dat2 addD) (mC (.int 3)) (mCal (lenW 2 (m__law_draw)) (mCons (mVar 0) (mCons (mC (.int 2)) mNil)))) mNil)))))) (mRet (mTup (mCons (mC (.str "times")) (mCons (mC (.int 0)) (mCons (mC (.int 9)) (mCons (mTup (mCons (mC (.str "star")) (mCons (mTup (mCons (mC (.str "times")) (mCons (mC (.int 2)) (mCons (mOp2 (dat2 addD) (mC (.int 9)) (mCal (lenW 2 (m__law_draw)) (mCons (mVar 0) (mCons (mC (.int 2)) mNil)))) (mCons (mTup (mCons (mVar 3) (mCons (mVar 4) (mCons (mTup (mCons (mC (.str "times")) (mCons (mC (.int 1)) (mCons (mC (.int 1)) (mCons (mTup (mCons (mC (.str "any")) mNil)) mNil))))) mNil)))) mNil))))) mNil))) mNil))))))))))))
def m__law_at_bounds : FN := mDef 6 mb__law_at_bounds
def mb__law_odd : MS := (mSeq (mPar 2 3 (mCons (mCal (lenW 2 (m__law_draw)) (mCons (mVar 0) (mCons (mC (.int 6)) mNil))) (mCons (mOp2 (dat2 subD) (mCal (lenW 2 (m__law_draw)) (mCons (mVar 0) (mCons (mC (.int 13)) mNil))) (mC (.int 1))) mNil))) (mSeq (mIfS (mT (mOp2 (tst2 eqD) (mVar 2) (mC (.int 0)))) (mSeq (mSet 4 (mOfL (mLst (mCons (mOfL (mCalL fList (mCons (mVar 1) mNil))) (mCons (mSl (mVar 1) mNoP (mPart (mUn negD (mC (.int 1))))) (mCons (mOp2 (dat2 addD) (mVar 1) (mTup (mCons (mTup (mCons (mC (.str "any")) mNil)) mNil))) (mCons (mTup (mCons (mVar 1) mNil)) (mCons (mSlS (mVar 1) mNoP mNoP (-1)) (mCons (mOp2 (dat2 mulD) (mSl (mVar 1) mNoP (mPart (mC (.int 1)))) (mC (.int 2))) (mCons (mOfL (mLst (mCons (mC (.str "any")) mNil))) mNil)))))))))) (mSet 4 (mOp2 (dat2 addD) (mVar 4) (mOfL (mLst (mCons (mTup (mCons (mC (.str "here")) (mCons (mC (.str "any")) mNil))) mNil)))))) (mIfS (mT (mOp2 (tst2 eqD) (mVar 2) (mC (.int 1)))) (mSet 4 (mOfL (mLst (mCons (mC .none) (mCons (mC (.str "any")) (mCons (mC (.str "")) (mCons (mC (.int 5)) (mCons (mC (.bool true)) (mCons (mTup mNil) (mCons (mOfL (mLst mNil)) (mCons mDic0 mNil))))))))))) (mIfS (mT (mOp2 (tst2 eqD) (mVar 2) (mC (.int 2)))) (mSeq (mSet 4 (mOfL (mLst (mCons (mTup (mCons (mC (.str "word")) (mCons (mC (.str "abc")) mNil))) (mCons (mTup (mCons (mC (.str "back")) (mCons (mC (.str "a")) mNil))) (mCons (mTup (mCons (mC (.str "word")) (mCons (mC (.str "aB")) mNil))) (mCons (mTup (mCons (mC (.str "word")) (mCons (mC (.str "")) mNil))) (mCons (mTup (mCons (mC (.str "word")) (mCons (mC (.int 5)) mNil))) (mCons (mTup (mCons (mC (.str "back")) (mCons (mC .none) mNil))) mNil))))))))) (mSet 4 (mOp2 (dat2 addD) (mVar 4) (mOfL (mLst (mCons (mTup (mCons (mC (.str "word")) mNil)) (mCons (mTup (mCons (mC (.str "Word")) (mCons (mC (.str "ab")) mNil))) mNil))))))) (mIfS (mT (mOp2 (tst2 eqD) (mVar 2) (mC (.int 3)))) (mSeq (mSet 4 (mOfL (mLst (mCons (mTup (mCons (mC (.str "node")) (mCons (mC (.str "<")) (mCons (mOp2 (dat2 addD) (mOp2 (dat2 powD) (mC (.int 10)) (mC (.int 18))) (mC (.int 1))) mNil)))) (mCons (mTup (mCons (mC (.str "node")) (mCons (mC (.str "==")) (mCons (mC (.int 5)) mNil)))) (mCons (mTup (mCons (mC (.str "node")) (mCons (mC (.str "=")) (mCons (mC (.bool true)) mNil)))) (mCons (mTup (mCons (mC (.str "node")) (mCons (mC (.str ">")) (mCons (mC (.str "5")) mNil)))) mNil))))))) (mSet 4 (mOp2 (dat2 addD) (mVar 4) (mOfL (mLst (mCons (mTup (mCons (mC (.str "node")) (mCons (mC (.int 5)) (mCons (mC (.str "=")) mNil)))) (mCons (mTup (mCons (mC (.str "node")) (mCons (mC (.str "")) (mCons (mC (.int 5)) mNil)))) (mCons (mTup (mCons (mC (.str "node")) (mCons (mC (.str "<")) (mCons (mOp2 (dat2 subD) (mUn negD (mOp2 (dat2 powD) (mC (.int 10)) (mC (.int 18)))) (mC (.int 1))) mNil)))) (mCons (mTup (mCons (mC (.str "node")) (mCons (mC (.str "<>")) (mCons (mC (.int 5)) mNil)))) mNil))))))))) (mIfS (mT (mOp2 (tst2 eqD) (mVar 2) (mC (.int 4)))) (mSeq (mSet 4 (mOfL (mLst (mCons (mTup (mCons (mC (.str "times")) (mCons (mVar 3) (mCons (mC (.int 5)) (mCons (mVar 1) mNil))))) (mCons (mTup (mCons (mC (.str "times")) (mCons (mC (.int 3)) (mCons (mVar 3) (mCons (mVar 1) mNil))))) (mCons (mTup (mCons (mC (.str "times")) (mCons (mC (.int 0)) (mCons (mVar 3) (mCons (mVar 1) mNil))))) mNil)))))) (mSeq (mSet 4 (mOp2 (dat2 addD) (mVar 4) (mOfL (mLst (mCons (mTup (mCons (mC (.str "times")) (mCons (mC (.bool true)) (mCons (mC (.int 3)) (mCons (mVar 1) mNil))))) (mCons (mTup (mCons (mC (.str "times")) (mCons (mC (.int 1)) (mCons (mC (.bool true)) (mCons (mVar 1) mNil))))) (mCons (mTup (mCons (mC (.str "times")) (mCons (mC (.int 2)) (mCons (mVar 1) mNil)))) mNil))))))) (mSet 4 (mOp2 (dat2 addD) (mVar 4) (mOfL (mLst (mCons (mTup (mCons (mC (.str "times")) (mCons (mC (.int 0)) (mCons (mC .none) (mCons (mVar 1) mNil))))) (mCons (mTup (mCons (mC (.str "times")) (mCons (mC (.str "1")) (mCons (mC (.int 2)) (mCons (mVar 1) mNil))))) mNil)))))))) (mSeq (mSet 4 (mOfL (mLst (mCons (mTup (mCons (mC (.str "then")) (mCons (mVar 1) mNil))) (mCons (mTup (mCons (mC (.str "or")) (mCons (mVar 1) (mCons (mVar 1) (mCons (mVar 1) mNil))))) (mCons (mTup (mCons (mC (.str "star")) (mCons (mVar 1) (mCons (mVar 1) mNil)))) (mCons (mTup (mCons (mC (.str "maybe")) mNil)) (mCons (mTup (mCons (mC (.str "plus")) (mCons (mOfL (mLst (mCons (mVar 1) mNil))) mNil))) mNil)))))))) (mSet 4 (mOp2 (dat2 addD) (mVar 4) (mOfL (mLst (mCons (mTup (mCons (mC (.str "or")) (mCons (mVar 1) (mCons (mC .none) mNil)))) (mCons (mTup (mCons (mTup (mCons (mC (.str "any")) mNil)) (mCons (mVar 1) mNil))) (mCons (mTup (mCons (mC (.str "until")) (mCons (mVar 1) mNil))) mNil))))))))))))) (mRet (mOp2 (rd2 ixD) (mVar 4) (mCal (lenW 2 (m__law_draw)) (mCons (mVar 0) (mCons (mC (.int 8)) mNil)))))))
def m__law_odd : FN := mDef 5 mb__law_odd
def mb__law_bent (rec : FN) : MS := (mSeq (mSet 3 (mCal (lenW 1 (m__law_parts)) (mCons (mVar 1) mNil))) (mSeq (mIfS (tOrM (mT (mOp2 (tst2 eqD) (mVar 2) (mC (.int 0)))) (tOrM (mT (mOp2 (tst2 eqD) (mCal fLen (mCons (mVar 3) mNil)) (mC (.int 0)))) (mT (mOp2 (tst2 eqD) (mCal (lenW 2 (m__law_draw)) (mCons (mVar 0) (mCons (mC (.int 5)) mNil))) (mC (.int 0)))))) (mRet (mCal (lenW 2 (m__law_odd)) (mCons (mVar 0) (mCons (mVar 1) mNil)))) mPass) (mSeq (mSet 4 (mOp2 (rd2 ixD) (mVar 3) (mCal (lenW 2 (m__law_draw)) (mCons (mVar 0) (mCons (mCal fLen (mCons (mVar 3) mNil)) mNil))))) (mRet (mOp2 (dat2 addD) (mOp2 (dat2 addD) (mSl (mVar 1) mNoP (mPart (mVar 4))) (mTup (mCons (mCal (lenW 3 rec) (mCons (mVar 0) (mCons (mOp2 (rd2 ixD) (mVar 1) (mVar 4)) (mCons (mOp2 (dat2 subD) (mVar 2) (mC (.int 1))) mNil)))) mNil))) (mSl (mVar 1) (mPart (mOp2 (dat2 addD) (mVar 4) (mC (.int 1)))) mNoP))))))
def m__law_bent : Nat → FN
  | 0 => fun _ _ => .stuck
  | n + 1 => mDef 5 (mb__law_bent (m__law_bent n))
def mb__law_back (rec : FN) : MS := (mSeq (mIfS (mT (mOp2 (tst2 eqD) (mOp2 (rd2 ixD) (mVar 0) (mC (.int 0))) (mC (.str "then")))) (mRet (mTup (mCons (mC (.str "then")) (mCons (mCal (lenW 1 rec) (mCons (mOp2 (rd2 ixD) (mVar 0) (mC (.int 2))) mNil)) (mCons (mCal (lenW 1 rec) (mCons (mOp2 (rd2 ixD) (mVar 0) (mC (.int 1))) mNil)) mNil))))) mPass) (mSeq (mIfS (mT (mOp2 (rdt2 inD) (mOp2 (rd2 ixD) (mVar 0) (mC (.int 0))) (mOfL (mLst (mCons (mC (.str "word")) (mCons (mC (.str "back")) mNil)))))) (mRet (mTup (mCons (mOp2 (rd2 ixD) (mOfL (mLst (mCons (mC (.str "word")) (mCons (mC (.str "back")) mNil)))) (mCal fInt (mCons (mOp2 (tst2 eqD) (mOp2 (rd2 ixD) (mVar 0) (mC (.int 0))) (mC (.str "word"))) mNil))) (mCons (mOp2 (rd2 ixD) (mVar 0) (mC (.int 1))) mNil)))) mPass) (mSeq (mFor (mIter (mCal (lenW 1 (m__law_parts)) (mCons (mVar 0) mNil))) (gN 1) (mSet 0 (mOp2 (dat2 addD) (mOp2 (dat2 addD) (mSl (mVar 0) mNoP (mPart (mVar 1))) (mTup (mCons (mCal (lenW 1 rec) (mCons (mOp2 (rd2 ixD) (mVar 0) (mVar 1)) mNil)) mNil))) (mSl (mVar 0) (mPart (mOp2 (dat2 addD) (mVar 1) (mC (.int 1)))) mNoP)))) (mRet (mVar 0)))))
def m__law_back : Nat → FN
  | 0 => fun _ _ => .stuck
  | n + 1 => mDef 2 (mb__law_back (m__law_back n))
def mb__law_told : MS := (mSeq (mTry (mIfS (mT (mOp2 (tst2 eqD) (mVar 0) (mC (.int 0)))) (mSet 3 (mTup (mCons (mC (.str "told")) (mCons (mCal (lenW 1 (m_size)) (mCons (mVar 1) mNil)) mNil)))) (mSet 3 (mTup (mCons (mC (.str "told")) (mCons (mCal (lenW 1 (m_turned_expression)) (mCons (mVar 1) mNil)) mNil))))) (fun k => if k = 0 then some true else none) 2 (fun _ => (mSet 3 (mTup (mCons (mC (.str "refused")) (mCons (mAnd (mC (.bool true)) (mNot (mC (.bool false)))) mNil)))))) (mRet (mVar 3)))
def m__law_told : FN := mDef 4 mb__law_told
def mb__law_is_right : MS := (mSeq (mSet 1 (mCal (lenW 1 (m__law_sizes 50)) (mCons (mVar 0) mNil))) (mSeq (mSet 2 (mCal fRepr (mCons (mVar 0) mNil))) (mSeq (mSet 3 (mAnd (mIsNo true (mVar 1)) (mAnd (mOp2 (tst2 leD) (mOp2 (rd2 ixD) (mVar 1) (mC (.int 0))) (mC (.int 30))) (mOp2 (tst2 leD) (mOp2 (rd2 ixD) (mVar 1) (mC (.int 1))) (mC (.int 300)))))) (mSeq (mIfS (tOrM (tNotM (mT (mCal (lenW 2 (m__law_is)) (mCons (mCal (lenW 1 (m_is_expression)) (mCons (mVar 0) mNil)) (mCons (mVar 3) mNil))))) (mT (mOp2 (not2 (tst2 eqD)) (mCal fRepr (mCons (mVar 0) mNil)) (mVar 2)))) (mRet (mC (.bool false))) mPass) (mSeq (mIfS (tNotM (mT (mVar 3))) (mRet (mAnd (mOp2 (tst2 eqD) (mCal (lenW 2 (m__law_told)) (mCons (mC (.int 0)) (mCons (mVar 0) mNil))) (mTup (mCons (mC (.str "refused")) (mCons (mC (.bool true)) mNil)))) (mOp2 (tst2 eqD) (mCal (lenW 2 (m__law_told)) (mCons (mC (.int 1)) (mCons (mVar 0) mNil))) (mTup (mCons (mC (.str "refused")) (mCons (mC (.bool true)) mNil)))))) mPass) (mSeq (mSet 4 (mCal (lenW 2 (m__law_told)) (mCons (mC (.int 0)) (mCons (mVar 0) mNil)))) (mSeq (mIfS (tOrM (mT (mOp2 (not2 (tst2 eqD)) (mVar 4) (mTup (mCons (mC (.str "told")) (mCons (mOp2 (rd2 ixD) (mVar 1) (mC (.int 1))) mNil))))) (mT (mIs "bool" (mOp2 (rd2 ixD) (mVar 4) (mC (.int 1)))))) (mRet (mC (.bool false))) mPass) (mSeq (mSet 5 (mCal (lenW 2 (m__law_told)) (mCons (mC (.int 1)) (mCons (mVar 0) mNil)))) (mSeq (mIfS (tOrM (mT (mOp2 (not2 (tst2 eqD)) (mVar 5) (mTup (mCons (mC (.str "told")) (mCons (mCal (lenW 1 (m__law_back 40)) (mCons (mVar 0) mNil)) mNil))))) (mT (mOp2 (not2 (tst2 eqD)) (mCal fRepr (mCons (mOp2 (rd2 ixD) (mVar 5) (mC (.int 1))) mNil)) (mCal fRepr (mCons (mCal (lenW 1 (m__law_back 40)) (mCons (mVar 0) mNil)) mNil))))) (mRet (mC (.bool false))) mPass) (mRet (mAnd (mOp2 (tst2 eqD) (mCal (lenW 2 (m__law_told)) (mCons (mC (.int 1)) (mCons (mOp2 (rd2 ixD) (mVar 5) (mC (.int 1))) mNil))) (mTup (mCons (mC (.str "told")) (mCons (mVar 0) mNil)))) (mOp2 (tst2 eqD) (mCal fRepr (mCons (mVar 0) mNil)) (mVar 2)))))))))))))
def m__law_is_right : FN := mDef 6 mb__law_is_right
def mb_law : MS := (mSeq (mSet 1 (mCal (lenW 1 (m__law_hand)) (mCons (mVar 0) mNil))) (mSeq (mPar 3 4 (mCons (mCal (lenW 1 (m__law_words)) (mCons (mVar 1) mNil)) (mCons (mCal (lenW 1 (m__law_worths)) (mCons (mVar 1) mNil)) mNil))) (mSeq (mFor (mRng1 (mCons (mC (.int 3)) mNil)) (gN 2) (mSeq (mSet 5 (mCal (lenW 5 (m__law_expression 16)) (mCons (mVar 1) (mCons (mVar 3) (mCons (mVar 4) (mCons (mOp2 (rd2 ixD) (mOfL (mLst (mCons (mC (.int 1)) (mCons (mC (.int 3)) (mCons (mC (.int 8)) (mCons (mC (.int 20)) (mCons (mC (.int 60)) mNil))))))) (mCal (lenW 2 (m__law_draw)) (mCons (mVar 1) (mCons (mC (.int 5)) mNil)))) (mCons (mOp2 (dat2 addD) (mC (.int 2)) (mCal (lenW 2 (m__law_draw)) (mCons (mVar 1) (mCons (mC (.int 10)) mNil)))) mNil))))))) (mSeq (mIfS (mT (mOp2 (tst2 eqD) (mCal (lenW 2 (m__law_draw)) (mCons (mVar 1) (mCons (mC (.int 3)) mNil))) (mC (.int 0)))) (mSet 5 (mCal (lenW 2 (m__law_at_bounds)) (mCons (mVar 1) (mCons (mCal (lenW 3 (m__law_atom)) (mCons (mVar 1) (mCons (mVar 3) (mCons (mVar 4) mNil)))) mNil)))) mPass) (mSeq (mIfS (tNotM (mT (mCal (lenW 1 (m__law_is_right)) (mCons (mVar 5) mNil)))) (mRet (mC (.bool false))) mPass) (mFor (mRng1 (mCons (mC (.int 4)) mNil)) (gN 6) (mIfS (tNotM (mT (mCal (lenW 1 (m__law_is_right)) (mCons (mCal (lenW 3 (m__law_bent 40)) (mCons (mVar 1) (mCons (mVar 5) (mCons (mCal (lenW 2 (m__law_draw)) (mCons (mVar 1) (mCons (mC (.int 33)) mNil))) mNil)))) mNil)))) (mRet (mC (.bool false))) mPass)))))) (mRet (mC (.bool true))))))
def m_law : FN := mDef 7 mb_law
structure CTxt (K : PySem.W.Frag) (mg : Str → Option Value) (cl : Nat → Addr) : Prop where
  g_NoExpression : mg "NoExpression" = some (.ref (cl 0))
  g_StoreError : mg "StoreError" = some (.ref (cl 1))
  g_NoPath : mg "NoPath" = some (.ref (cl 2))
  g_BadSigns : mg "BadSigns" = some (.ref (cl 3))
  e_NoExpression : PySem.W.excIn K (cl 0) [.type "ValueError", .type "Exception", .type "BaseException", .type "object"] "ValueError.__new__" = true
  kc_NoExpression : PySem.W.keepIn K (.ref (cl 0)) = true
  b_NoExpression : PySem.W.subIn K (.ref (cl 0)) (.type "BaseException") = some true
  t_NoExpression : PySem.W.typeIn K (.ref (cl 0)) = some (.type "type")
  x_NoExpression : ExcC K (cl 0)
  s_NoExpression_StoreError : PySem.W.kitOne K (.ref (cl 0)) (.ref (cl 1)) = some true
  s_NoExpression_NoPath : PySem.W.kitOne K (.ref (cl 0)) (.ref (cl 2)) = some false
  s_NoExpression_BadSigns : PySem.W.kitOne K (.ref (cl 0)) (.ref (cl 3)) = some false
  m_NoExpression_NoExpression : PySem.W.exmOne K (.ref (cl 0)) (.ref (cl 0)) = some true
structure Txt (K : PySem.W.Frag) (mg : Str → Option Value) (cl : Nat → Addr) (ad ca : Nat → Addr) (tkC : Nat → Tok) (fdv : Nat → FuncData) : Prop extends CTxt K mg cl where
  d_is_integer : Df K mg "is_integer" st_is_integer ["thing"] (ad 0) (fdv 0)
  d_is_within : Df K mg "is_within" st_is_within ["thing", "least", "most"] (ad 1) (fdv 1)
  d_is_worth : Df K mg "is_worth" st_is_worth ["thing"] (ad 2) (fdv 2)
  d_are_letters : Df K mg "are_letters" st_are_letters ["thing", "many"] (ad 3) (fdv 3)
  d_is_word : Df K mg "is_word" st_is_word ["thing"] (ad 4) (fdv 4)
  d_is_atom : Df K mg "is_atom" st_is_atom ["thing"] (ad 5) (fdv 5)
  d_parts_of : Df K mg "parts_of" st_parts_of ["thing"] (ad 6) (fdv 6)
  d_is_kind : Df K mg "is_kind" st_is_kind ["thing"] (ad 7) (fdv 7)
  d_is_sign : Df K mg "is_sign" st_is_sign ["thing"] (ad 8) (fdv 8)
  d_size_within : Df K mg "size_within" st_size_within ["thing", "deep"] (ad 9) (fdv 9)
  d_size_of : Df K mg "size_of" st_size_of ["thing"] (ad 10) (fdv 10)
  d_is_expression : Df K mg "is_expression" st_is_expression ["thing"] (ad 11) (fdv 11)
  d_check_expression : Df K mg "check_expression" st_check_expression ["thing"] (ad 12) (fdv 12)
  d_size : Df K mg "size" st_size ["expression"] (ad 13) (fdv 13)
  d_turned_of : Df K mg "turned_of" st_turned_of ["thing"] (ad 14) (fdv 14)
  d_turned_expression : Df K mg "turned_expression" st_turned_expression ["expression"] (ad 15) (fdv 15)
  d__law_mixed : Df K mg "_law_mixed" st__law_mixed ["cell", "turn"] (ad 16) (fdv 16)
  d__law_hand : Df K mg "_law_hand" st__law_hand ["script"] (ad 17) (fdv 17)
  d__law_draw : Df K mg "_law_draw" st__law_draw ["hand", "many"] (ad 18) (fdv 18)
  d__law_letters : Df K mg "_law_letters" st__law_letters ["hand", "many"] (ad 19) (fdv 19)
  d__law_words : Df K mg "_law_words" st__law_words ["hand"] (ad 20) (fdv 20)
  d__law_worths : Df K mg "_law_worths" st__law_worths ["hand"] (ad 21) (fdv 21)
  d__law_atom : Df K mg "_law_atom" st__law_atom ["hand", "words", "worths"] (ad 22) (fdv 22)
  d__law_expression : Df K mg "_law_expression" st__law_expression ["hand", "words", "worths", "room", "deep"] (ad 23) (fdv 23)
  d__law_is : Df K mg "_law_is" st__law_is ["told", "due"] (ad 24) (fdv 24)
  d__law_parts : Df K mg "_law_parts" st__law_parts ["thing"] (ad 25) (fdv 25)
  d__law_is_whole : Df K mg "_law_is_whole" st__law_is_whole ["thing", "least", "most"] (ad 26) (fdv 26)
  d__law_is_word : Df K mg "_law_is_word" st__law_is_word ["thing"] (ad 27) (fdv 27)
  d__law_is_lone : Df K mg "_law_is_lone" st__law_is_lone ["thing"] (ad 28) (fdv 28)
  d__law_sizes : Df K mg "_law_sizes" st__law_sizes ["thing"] (ad 29) (fdv 29)
  d__law_tower : Df K mg "_law_tower" st__law_tower ["hand", "thing", "many"] (ad 30) (fdv 30)
  d__law_row : Df K mg "_law_row" st__law_row ["hand", "word", "atom", "many"] (ad 31) (fdv 31)
  d__law_at_bounds : Df K mg "_law_at_bounds" st__law_at_bounds ["hand", "atom"] (ad 32) (fdv 32)
  d__law_odd : Df K mg "_law_odd" st__law_odd ["hand", "thing"] (ad 33) (fdv 33)
  d__law_bent : Df K mg "_law_bent" st__law_bent ["hand", "thing", "deep"] (ad 34) (fdv 34)
  d__law_back : Df K mg "_law_back" st__law_back ["thing"] (ad 35) (fdv 35)
  d__law_told : Df K mg "_law_told" st__law_told ["which", "thing"] (ad 36) (fdv 36)
  d__law_is_right : Df K mg "_law_is_right" st__law_is_right ["thing"] (ad 37) (fdv 37)
  d_law : Df K mg "law" st_law ["script"] (ad 38) (fdv 38)
  n_abs : mg "abs" = none
  n_all : mg "all" = none
  n_bool : mg "bool" = none
  n_int : mg "int" = none
  n_isinstance : mg "isinstance" = none
  n_len : mg "len" = none
  n_list : mg "list" = none
  n_max : mg "max" = none
  n_min : mg "min" = none
  n_range : mg "range" = none
  n_repr : mg "repr" = none
  n_str : mg "str" = none
  n_sum : mg "sum" = none
  n_tuple : mg "tuple" = none
  c_LETTERS : mg "LETTERS" = some (.str "abcdefghijklmnopqrstuvwxyz" (tkC 0))
  c_MOST_WORTH : mg "MOST_WORTH" = some (.int 1000000000000000000 (tkC 1))
  c_WORD_LETTERS : mg "WORD_LETTERS" = some (.int 2 (tkC 2))
  c_MOST_DEEP : mg "MOST_DEEP" = some (.int 30 (tkC 3))
  c_MOST_SIZE : mg "MOST_SIZE" = some (.int 300 (tkC 4))
  c_MOST_TIMES : mg "MOST_TIMES" = some (.int 9 (tkC 5))
  c_SIGNS : mg "SIGNS" = some (.ref (ca 6))
  k_SIGNS : ∀ ι H, Dv K ι H (.ref (ca 6)) (.tuple [(.str "<"), (.str "="), (.str ">")])
  c_ALONE : mg "ALONE" = some (.ref (ca 7))
  k_ALONE : ∀ ι H, Dv K ι H (.ref (ca 7)) (.tuple [(.str "any"), (.str "here")])
  c_NAMED : mg "NAMED" = some (.ref (ca 8))
  k_NAMED : ∀ ι H, Dv K ι H (.ref (ca 8)) (.tuple [(.str "word"), (.str "back")])
  c_PAIRED : mg "PAIRED" = some (.ref (ca 9))
  k_PAIRED : ∀ ι H, Dv K ι H (.ref (ca 9)) (.tuple [(.str "then"), (.str "or")])
  c_LONE : mg "LONE" = some (.ref (ca 10))
  k_LONE : ∀ ι H, Dv K ι H (.ref (ca 10)) (.tuple [(.str "star"), (.str "plus"), (.str "maybe")])
end K63

set_option Elab.async false
set_option linter.all false
set_option maxRecDepth 100000
set_option maxHeartbeats 2000000
namespace K63
open PySem PySem.Spec PyProof.Rows L2 Sm
section
variable {P : Program} {w : World} {K : PySem.W.Frag} {mg : Str → Option Value} {base : Heap} {cl : Nat → Addr} {ad ca : Nat → Addr} {tkC : Nat → Tok} {fdv : Nat → FuncData}
theorem ok_is_integer (T : Txt K mg cl ad ca tkC fdv) : FnG P w K mg base 1 (ad 0) (fdv 0) ["thing"] (spM K cl 1 m_is_integer) :=
  fg_def (N := N_is_integer) (mb := mb_is_integer) T.d_is_integer.fn sc_is_integer fun cdv A outer s H E hG hr tk =>
    (b_sone (b_ret (b_and (b_is (by rfl) T.n_isinstance (b_var 0 (pv 0)) (pe_bltn (by rfl) T.n_int (by decide +kernel) rfl)) (b_one (b_not (b_is (by rfl) T.n_isinstance (b_var 0 (pv 0)) (pe_bltn (by rfl) T.n_bool (by decide +kernel) rfl)))))))
theorem ok_is_within (T : Txt K mg cl ad ca tkC fdv) : FnG P w K mg base 2 (ad 1) (fdv 1) ["thing", "least", "most"] (spM K cl 3 m_is_within) :=
  fg_def (N := N_is_within) (mb := mb_is_within) T.d_is_within.fn sc_is_within fun cdv A outer s H E hG hr tk =>
    (b_sone (b_ret (b_and (b_call (ok_is_integer T) hG (hr.mono (by decide)) tk (by rfl) T.d_is_integer.gl T.d_is_integer.fn.kp T.d_is_integer.bd (b_cons (b_var 0 (pv 0)) b_nil)) (b_one (b_chain op_leU op_leU so_le so_le (b_var 1 (pv 1)) (b_var 0 (pv 0)) (b_var 2 (pv 2)))))))
theorem ok_is_worth (T : Txt K mg cl ad ca tkC fdv) : FnG P w K mg base 3 (ad 2) (fdv 2) ["thing"] (spM K cl 1 m_is_worth) :=
  fg_def (N := N_is_worth) (mb := mb_is_worth) T.d_is_worth.fn sc_is_worth fun cdv A outer s H E hG hr tk =>
    (b_sone (b_ret (b_call (ok_is_within T) hG (hr.mono (by decide)) tk (by rfl) T.d_is_within.gl T.d_is_within.fn.kp T.d_is_within.bd (b_cons (b_var 0 (pv 0)) (b_cons (b_neg (b_gint (by rfl) T.c_MOST_WORTH)) (b_cons (b_gint (by rfl) T.c_MOST_WORTH) b_nil))))))
theorem ok_are_letters (T : Txt K mg cl ad ca tkC fdv) : FnG P w K mg base 1 (ad 3) (fdv 3) ["thing", "many"] (spM K cl 2 m_are_letters) :=
  fg_def (N := N_are_letters) (mb := mb_are_letters) T.d_are_letters.fn sc_are_letters fun cdv A outer s H E hG hr tk =>
    (b_sone (b_ret (b_and (b_is (by rfl) T.n_isinstance (b_var 0 (pv 0)) (pe_bltn (by rfl) T.n_str (by decide +kernel) rfl)) (b_and (b_cmp (op_eqU (hu_64 hr)) so_eq (b_calB call_len so_len (by rfl) T.n_len (by decide +kernel) (b_cons (b_var 0 (pv 0)) b_nil)) (b_var 1 (pv 1)) (nomark _)) (b_one (b_calB (cr_all rfl) so_all (by rfl) T.n_all (by decide +kernel) (b_cons (b_ofL (b_lc (own := [("sign", 2)]) rfl sc_are_letters.nd (b_iter (b_var 0 (pv 0))) (blkOk_by (own := [("sign", 2)]) (N := N_are_letters) (sc := defScope st_are_letters) (by decide +kernel)) (fun _ _ _ _ _ => pg_name (i := 2) sc_are_letters.nd rfl (.inl rfl)) (so_cN 2 (by simp)) (fun _ _ _ _ _ => (b_cmp op_inU so_in (b_var 2 (pv 2)) (b_gstr (by rfl) T.c_LETTERS) (by rfl))))) b_nil)))))))
theorem ok_is_word (T : Txt K mg cl ad ca tkC fdv) : FnG P w K mg base 2 (ad 4) (fdv 4) ["thing"] (spM K cl 1 m_is_word) :=
  fg_def (N := N_is_word) (mb := mb_is_word) T.d_is_word.fn sc_is_word fun cdv A outer s H E hG hr tk =>
    (b_sone (b_ret (b_call (ok_are_letters T) hG (hr.mono (by decide)) tk (by rfl) T.d_are_letters.gl T.d_are_letters.fn.kp T.d_are_letters.bd (b_cons (b_var 0 (pv 0)) (b_cons (b_gint (by rfl) T.c_WORD_LETTERS) b_nil)))))
theorem ok_is_atom (T : Txt K mg cl ad ca tkC fdv) : FnG P w K mg base 4 (ad 5) (fdv 5) ["thing"] (spM K cl 1 m_is_atom) :=
  fg_def (N := N_is_atom) (mb := mb_is_atom) T.d_is_atom.fn sc_is_atom fun cdv A outer s H E hG hr tk =>
    (b_sseq (b_ifS (b_tcmp op_inU so_in (b_ix ix_U so_ix (b_var 0 (pv 0)) b_int (fun _ _ => rfl)) (b_gref (by rfl) T.c_ALONE T.k_ALONE) (by rfl)) (b_sone (b_ret (b_cmp (op_eqU (hu_64 hr)) so_eq (b_calB call_len so_len (by rfl) T.n_len (by decide +kernel) (b_cons (b_var 0 (pv 0)) b_nil)) b_int (nomark _)))) b_snil) (b_sseq (b_ifS (b_tcmp op_inU so_in (b_ix ix_U so_ix (b_var 0 (pv 0)) b_int (fun _ _ => rfl)) (b_gref (by rfl) T.c_NAMED T.k_NAMED) (by rfl)) (b_sone (b_ret (b_and (b_cmp (op_eqU (hu_64 hr)) so_eq (b_calB call_len so_len (by rfl) T.n_len (by decide +kernel) (b_cons (b_var 0 (pv 0)) b_nil)) b_int (nomark _)) (b_one (b_call (ok_is_word T) hG (hr.mono (by decide)) tk (by rfl) T.d_is_word.gl T.d_is_word.fn.kp T.d_is_word.bd (b_cons (b_ix ix_U so_ix (b_var 0 (pv 0)) b_int (fun _ _ => rfl)) b_nil)))))) b_snil) (b_sone (b_ret (b_and (b_cmp (op_eqU (hu_64 hr)) so_eq (b_calB call_len so_len (by rfl) T.n_len (by decide +kernel) (b_cons (b_var 0 (pv 0)) b_nil)) b_int (nomark _)) (b_and (b_cmp (op_eqU (hu_64 hr)) so_eq (b_ix ix_U so_ix (b_var 0 (pv 0)) b_int (fun _ _ => rfl)) b_str (nomark _)) (b_and (b_cmp op_inU so_in (b_ix ix_U so_ix (b_var 0 (pv 0)) b_int (fun _ _ => rfl)) (b_gref (by rfl) T.c_SIGNS T.k_SIGNS) (by rfl)) (b_one (b_call (ok_is_worth T) hG (hr.mono (by decide)) tk (by rfl) T.d_is_worth.gl T.d_is_worth.fn.kp T.d_is_worth.bd (b_cons (b_ix ix_U so_ix (b_var 0 (pv 0)) b_int (fun _ _ => rfl)) b_nil))))))))))
theorem ok_parts_of (T : Txt K mg cl ad ca tkC fdv) : FnG P w K mg base 3 (ad 6) (fdv 6) ["thing"] (spM K cl 1 m_parts_of) :=
  fg_def (N := N_parts_of) (mb := mb_parts_of) T.d_parts_of.fn sc_parts_of fun cdv A outer s H E hG hr tk =>
    (b_sseq (b_ifS (PW.pt (b_tand (b_tcmp op_inU so_in (b_ix ix_U so_ix (b_var 0 (pv 0)) b_int (fun _ _ => rfl)) (b_gref (by rfl) T.c_PAIRED T.k_PAIRED) (by rfl)) (b_tand1 (b_tcmp (op_eqU (hu_64 hr)) so_eq (b_calB call_len so_len (by rfl) T.n_len (by decide +kernel) (b_cons (b_var 0 (pv 0)) b_nil)) b_int (nomark _))))) (b_sone (b_ret (b_ofL (b_lst (b_cons (b_ix ix_U so_ix (b_var 0 (pv 0)) b_int (fun _ _ => rfl)) (b_cons (b_ix ix_U so_ix (b_var 0 (pv 0)) b_int (fun _ _ => rfl)) b_nil)))))) b_snil) (b_sseq (b_ifS (PW.pt (b_tand (b_tcmp op_inU so_in (b_ix ix_U so_ix (b_var 0 (pv 0)) b_int (fun _ _ => rfl)) (b_gref (by rfl) T.c_LONE T.k_LONE) (by rfl)) (b_tand1 (b_tcmp (op_eqU (hu_64 hr)) so_eq (b_calB call_len so_len (by rfl) T.n_len (by decide +kernel) (b_cons (b_var 0 (pv 0)) b_nil)) b_int (nomark _))))) (b_sone (b_ret (b_ofL (b_lst (b_cons (b_ix ix_U so_ix (b_var 0 (pv 0)) b_int (fun _ _ => rfl)) b_nil))))) b_snil) (b_sseq (b_ifS (PW.pt (b_tand (b_tcmp (op_eqU (hu_64 hr)) so_eq (b_ix ix_U so_ix (b_var 0 (pv 0)) b_int (fun _ _ => rfl)) b_str (nomark _)) (b_tand (b_tcmp (op_eqU (hu_64 hr)) so_eq (b_calB call_len so_len (by rfl) T.n_len (by decide +kernel) (b_cons (b_var 0 (pv 0)) b_nil)) b_int (nomark _)) (b_tand1 (b_test (b_call (ok_is_within T) hG (hr.mono (by decide)) tk (by rfl) T.d_is_within.gl T.d_is_within.fn.kp T.d_is_within.bd (b_cons (b_ix ix_U so_ix (b_var 0 (pv 0)) b_int (fun _ _ => rfl)) (b_cons b_int (b_cons (b_gint (by rfl) T.c_MOST_TIMES) b_nil))))))))) (b_sone (b_ret (b_if (b_test (b_call (ok_is_within T) hG (hr.mono (by decide)) tk (by rfl) T.d_is_within.gl T.d_is_within.fn.kp T.d_is_within.bd (b_cons (b_ix ix_U so_ix (b_var 0 (pv 0)) b_int (fun _ _ => rfl)) (b_cons (b_calB (call_max2 rfl) so_max2 (by rfl) T.n_max (by decide +kernel) (b_cons b_int (b_cons (b_ix ix_U so_ix (b_var 0 (pv 0)) b_int (fun _ _ => rfl)) b_nil))) (b_cons (b_gint (by rfl) T.c_MOST_TIMES) b_nil))))) (b_ofL (b_lst (b_cons (b_ix ix_U so_ix (b_var 0 (pv 0)) b_int (fun _ _ => rfl)) b_nil))) b_non))) b_snil) (b_sone (b_ret b_non)))))
theorem ok_is_kind (T : Txt K mg cl ad ca tkC fdv) : FnG P w K mg base 1 (ad 7) (fdv 7) ["thing"] (spM K cl 1 m_is_kind) :=
  fg_def (N := N_is_kind) (mb := mb_is_kind) T.d_is_kind.fn sc_is_kind fun cdv A outer s H E hG hr tk =>
    (b_sone (b_ret (b_and (b_is (by rfl) T.n_isinstance (b_var 0 (pv 0)) (pe_bltn (by rfl) T.n_tuple (by decide +kernel) rfl)) (b_and (b_cmp op_gtU so_gt (b_calB call_len so_len (by rfl) T.n_len (by decide +kernel) (b_cons (b_var 0 (pv 0)) b_nil)) b_int (nomark _)) (b_one (b_is (by rfl) T.n_isinstance (b_ix ix_U so_ix (b_var 0 (pv 0)) b_int (fun _ _ => rfl)) (pe_bltn (by rfl) T.n_str (by decide +kernel) rfl)))))))
theorem ok_is_sign (T : Txt K mg cl ad ca tkC fdv) : FnG P w K mg base 1 (ad 8) (fdv 8) ["thing"] (spM K cl 1 m_is_sign) :=
  fg_def (N := N_is_sign) (mb := mb_is_sign) T.d_is_sign.fn sc_is_sign fun cdv A outer s H E hG hr tk =>
    (b_sone (b_ret (b_or (b_cmp (op_neU (hu_64 hr)) so_ne (b_ix ix_U so_ix (b_var 0 (pv 0)) b_int (fun _ _ => rfl)) b_str (nomark _)) (b_or (b_cmp (op_neU (hu_64 hr)) so_ne (b_calB call_len so_len (by rfl) T.n_len (by decide +kernel) (b_cons (b_var 0 (pv 0)) b_nil)) b_int (nomark _)) (b_one (b_is (by rfl) T.n_isinstance (b_ix ix_U so_ix (b_var 0 (pv 0)) b_int (fun _ _ => rfl)) (pe_bltn (by rfl) T.n_str (by decide +kernel) rfl)))))))
theorem okr_size_within (T : Txt K mg cl ad ca tkC fdv) : ∀ n : Nat, FnG P w K mg base (5 + n) (ad 9) (fdv 9) ["thing", "deep"] (spM K cl 2 (m_size_within n))
  | 0 => FnG.none fun _ _ _ _ h => spM_stuck h
  | n + 1 => fg_def (N := N_size_within) (mb := mb_size_within (m_size_within n)) T.d_size_within.fn sc_size_within fun cdv A outer s H E hG hr tk => by
    have IH : FnG P w K mg base (5 + n) (ad 9) (fdv 9) ["thing", "deep"] (spM K cl 2 (m_size_within n)) := okr_size_within T n
    have hr' := hr
    exact (b_sseq (b_ifS (PW.pt (b_tor (b_tcmp (op_eqU (hu_64 hr)) so_eq (b_var 1 (pv 1)) b_int (nomark _)) (b_tor (b_tnot (b_test (b_call (ok_is_kind T) hG (hr.mono (Nat.le_trans (by decide : 1 ≤ 5) (Nat.le_add_right 5 n))) tk (by rfl) T.d_is_kind.gl T.d_is_kind.fn.kp T.d_is_kind.bd (b_cons (b_var 0 (pv 0)) b_nil)))) (b_tor1 (b_tnot (b_test (b_call (ok_is_sign T) hG (hr.mono (Nat.le_trans (by decide : 1 ≤ 5) (Nat.le_add_right 5 n))) tk (by rfl) T.d_is_sign.gl T.d_is_sign.fn.kp T.d_is_sign.bd (b_cons (b_var 0 (pv 0)) b_nil)))))))) (b_sone (b_ret b_non)) b_snil) (b_sseq (b_ifS (b_test (b_call (ok_is_atom T) hG (hr.mono (Nat.le_trans (by decide : 4 ≤ 5) (Nat.le_add_right 5 n))) tk (by rfl) T.d_is_atom.gl T.d_is_atom.fn.kp T.d_is_atom.bd (b_cons (b_var 0 (pv 0)) b_nil))) (b_sone (b_ret b_int)) b_snil) (b_sseq (b_set (i := 2) sc_size_within.nd rfl (by first | exact .inl rfl | exact .inr rfl) (b_call (ok_parts_of T) hG (hr.mono (Nat.le_trans (by decide : 3 ≤ 5) (Nat.le_add_right 5 n))) tk (by rfl) T.d_parts_of.gl T.d_parts_of.fn.kp T.d_parts_of.bd (b_cons (b_var 0 (pv 0)) b_nil)) (fun _ _ _ => trivial)) (b_sseq (b_ifS (b_tisN (b_var 2 (pv 2))) (b_sone (b_ret b_non)) b_snil) (b_sseq (b_setLcD (i := 3) [("part", 4)] (fun _ _ _ => trivial) rfl sc_size_within.nd rfl rfl (sw_true rfl rfl rfl (by decide +kernel)) (b_iter (b_var 2 (pv 2))) (blkOk_by (own := [("part", 4)]) (N := N_size_within) (sc := defScope st_size_within) (by decide +kernel)) (fun _ _ _ _ _ => pg_name (i := 4) sc_size_within.nd rfl (.inl rfl)) (so_cN 4 (by simp)) (fun _ _ _ _ _ => (b_call IH hG hr' takes0 (by rfl) T.d_size_within.gl T.d_size_within.fn.kp T.d_size_within.bd (b_cons (b_var 4 (pv 4)) (b_cons (b_op op_subU so_sub (b_var 1 (pv 1)) b_int) b_nil))))) (b_sseq (b_ifS (b_tcmp op_inU so_in b_non (b_var 3 (pv 3)) (by rfl)) (b_sone (b_ret b_non)) b_snil) (b_sone (b_ret (b_op op_mulU so_mul (b_calB (cr_sum rfl) so_sum (by rfl) T.n_sum (by decide +kernel) (b_cons (b_var 3 (pv 3)) b_nil)) (b_if (b_tcmp (op_eqU (hu_64 hr)) so_eq (b_ix ix_U so_ix (b_var 0 (pv 0)) b_int (fun _ _ => rfl)) b_str (nomark _)) (b_ix ix_U so_ix (b_var 0 (pv 0)) b_int (fun _ _ => rfl)) b_int))))))))))
theorem ok_size_within (T : Txt K mg cl ad ca tkC fdv) : FnG P w K mg base 45 (ad 9) (fdv 9) ["thing", "deep"] (spM K cl 2 (m_size_within 40)) := okr_size_within T 40
theorem ok_size_of (T : Txt K mg cl ad ca tkC fdv) : FnG P w K mg base 46 (ad 10) (fdv 10) ["thing"] (spM K cl 1 m_size_of) :=
  fg_def (N := N_size_of) (mb := mb_size_of) T.d_size_of.fn sc_size_of fun cdv A outer s H E hG hr tk =>
    (b_sseq (b_set (i := 1) sc_size_of.nd rfl (by first | exact .inl rfl | exact .inr rfl) (b_call (ok_size_within T) hG (hr.mono (by decide)) tk (by rfl) T.d_size_within.gl T.d_size_within.fn.kp T.d_size_within.bd (b_cons (b_var 0 (pv 0)) (b_cons (b_gint (by rfl) T.c_MOST_DEEP) b_nil))) (fun _ _ _ => trivial)) (b_sone (b_ret (b_if (PW.pt (b_tor (b_tisN (b_var 1 (pv 1))) (b_tor1 (b_tcmp op_gtU so_gt (b_var 1 (pv 1)) (b_gint (by rfl) T.c_MOST_SIZE) (nomark _))))) b_non (b_var 1 (pv 1))))))
theorem ok_is_expression (T : Txt K mg cl ad ca tkC fdv) : FnG P w K mg base 47 (ad 11) (fdv 11) ["thing"] (spM K cl 1 m_is_expression) :=
  fg_def (N := N_is_expression) (mb := mb_is_expression) T.d_is_expression.fn sc_is_expression fun cdv A outer s H E hG hr tk =>
    (b_sone (b_ret (b_notN (b_call (ok_size_of T) hG (hr.mono (by decide)) tk (by rfl) T.d_size_of.gl T.d_size_of.fn.kp T.d_size_of.bd (b_cons (b_var 0 (pv 0)) b_nil)))))
theorem ok_check_expression (T : Txt K mg cl ad ca tkC fdv) : FnG P w K mg base 48 (ad 12) (fdv 12) ["thing"] (spM K cl 1 m_check_expression) :=
  fg_def (N := N_check_expression) (mb := mb_check_expression) T.d_check_expression.fn sc_check_expression fun cdv A outer s H E hG hr tk =>
    (b_sone (b_ifS (b_tnot (b_test (b_call (ok_is_expression T) hG (hr.mono (by decide)) tk (by rfl) T.d_is_expression.gl T.d_is_expression.fn.kp T.d_is_expression.bd (b_cons (b_var 0 (pv 0)) b_nil)))) (b_sone (b_raise (c := 0) rfl tk (mk0 PySem.F.excBase_ValueError T.e_NoExpression T.g_NoExpression T.kc_NoExpression (raises_own T.b_NoExpression T.t_NoExpression) (by rfl)))) b_snil))
theorem ok_size (T : Txt K mg cl ad ca tkC fdv) : FnG P w K mg base 49 (ad 13) (fdv 13) ["expression"] (spM K cl 1 m_size) :=
  fg_def (N := N_size) (mb := mb_size) T.d_size.fn sc_size fun cdv A outer s H E hG hr tk =>
    (b_sseq (b_drop (b_call (ok_check_expression T) hG (hr.mono (by decide)) tk (by rfl) T.d_check_expression.gl T.d_check_expression.fn.kp T.d_check_expression.bd (b_cons (b_var 0 (pv 0)) b_nil))) (b_sone (b_ret (b_call (ok_size_of T) hG (hr.mono (by decide)) tk (by rfl) T.d_size_of.gl T.d_size_of.fn.kp T.d_size_of.bd (b_cons (b_var 0 (pv 0)) b_nil)))))
theorem okr_turned_of (T : Txt K mg cl ad ca tkC fdv) : ∀ n : Nat, FnG P w K mg base (4 + n) (ad 14) (fdv 14) ["thing"] (spM K cl 1 (m_turned_of n))
  | 0 => FnG.none fun _ _ _ _ h => spM_stuck h
  | n + 1 => fg_def (N := N_turned_of) (mb := mb_turned_of (m_turned_of n)) T.d_turned_of.fn sc_turned_of fun cdv A outer s H E hG hr tk => by
    have IH : FnG P w K mg base (4 + n) (ad 14) (fdv 14) ["thing"] (spM K cl 1 (m_turned_of n)) := okr_turned_of T n
    have hr' := hr
    exact (b_sseq (b_ifS (b_tcmp op_inU so_in (b_ix ix_U so_ix (b_var 0 (pv 0)) b_int (fun _ _ => rfl)) (b_gref (by rfl) T.c_NAMED T.k_NAMED) (by rfl)) (b_sone (b_ret (b_tup (b_cons (b_if (b_tcmp (op_eqU (hu_64 hr)) so_eq (b_ix ix_U so_ix (b_var 0 (pv 0)) b_int (fun _ _ => rfl)) b_str (nomark _)) b_str b_str) (b_cons (b_ix ix_U so_ix (b_var 0 (pv 0)) b_int (fun _ _ => rfl)) b_nil))))) b_snil) (b_sseq (b_ifS (b_tcmp op_inU so_in (b_ix ix_U so_ix (b_var 0 (pv 0)) b_int (fun _ _ => rfl)) (b_tup (b_cons b_str (b_cons b_str (b_cons b_str b_nil)))) (by rfl)) (b_sone (b_ret (b_var 0 (pv 0)))) b_snil) (b_sseq (b_setLcD (i := 1) [("part", 2)] (fun _ _ _ => trivial) rfl sc_turned_of.nd rfl rfl (sw_true rfl rfl rfl (by decide +kernel)) (b_iter (b_call (ok_parts_of T) hG (hr.mono (Nat.le_trans (by decide : 3 ≤ 4) (Nat.le_add_right 4 n))) tk (by rfl) T.d_parts_of.gl T.d_parts_of.fn.kp T.d_parts_of.bd (b_cons (b_var 0 (pv 0)) b_nil))) (blkOk_by (own := [("part", 2)]) (N := N_turned_of) (sc := defScope st_turned_of) (by decide +kernel)) (fun _ _ _ _ _ => pg_name (i := 2) sc_turned_of.nd rfl (.inl rfl)) (so_cN 2 (by simp)) (fun _ _ _ _ _ => (b_call IH hG hr' takes0 (by rfl) T.d_turned_of.gl T.d_turned_of.fn.kp T.d_turned_of.bd (b_cons (b_var 2 (pv 2)) b_nil)))) (b_sseq (b_ifS (b_tcmp (op_eqU (hu_64 hr)) so_eq (b_ix ix_U so_ix (b_var 0 (pv 0)) b_int (fun _ _ => rfl)) b_str (nomark _)) (b_sone (b_ret (b_tup (b_cons b_str (b_cons (b_ix ix_U so_ix (b_var 1 (pv 1)) b_int (fun _ _ => rfl)) (b_cons (b_ix ix_U so_ix (b_var 1 (pv 1)) b_int (fun _ _ => rfl)) b_nil)))))) b_snil) (b_sone (b_ret (b_op op_addU so_add (b_sl (b_var 0 (pv 0)) b_noP (b_part (b_op op_subU so_sub (b_calB call_len so_len (by rfl) T.n_len (by decide +kernel) (b_cons (b_var 0 (pv 0)) b_nil)) (b_calB call_len so_len (by rfl) T.n_len (by decide +kernel) (b_cons (b_var 1 (pv 1)) b_nil))))) (b_calT call_tuple_of so_tuple (by rfl) T.n_tuple (by decide +kernel) (b_cons (b_var 1 (pv 1)) b_nil)))))))))
theorem ok_turned_of (T : Txt K mg cl ad ca tkC fdv) : FnG P w K mg base 44 (ad 14) (fdv 14) ["thing"] (spM K cl 1 (m_turned_of 40)) := okr_turned_of T 40
theorem ok_turned_expression (T : Txt K mg cl ad ca tkC fdv) : FnG P w K mg base 49 (ad 15) (fdv 15) ["expression"] (spM K cl 1 m_turned_expression) :=
  fg_def (N := N_turned_expression) (mb := mb_turned_expression) T.d_turned_expression.fn sc_turned_expression fun cdv A outer s H E hG hr tk =>
    (b_sseq (b_drop (b_call (ok_check_expression T) hG (hr.mono (by decide)) tk (by rfl) T.d_check_expression.gl T.d_check_expression.fn.kp T.d_check_expression.bd (b_cons (b_var 0 (pv 0)) b_nil))) (b_sone (b_ret (b_call (ok_turned_of T) hG (hr.mono (by decide)) tk (by rfl) T.d_turned_of.gl T.d_turned_of.fn.kp T.d_turned_of.bd (b_cons (b_var 0 (pv 0)) b_nil)))))
theorem ok__law_mixed (T : Txt K mg cl ad ca tkC fdv) : FnG P w K mg base 1 (ad 16) (fdv 16) ["cell", "turn"] (spM K cl 2 m__law_mixed) :=
  fg_def (N := N__law_mixed) (mb := mb__law_mixed) T.d__law_mixed.fn sc__law_mixed fun cdv A outer s H E hG hr tk =>
    (b_sseq (b_set (i := 2) sc__law_mixed.nd rfl (by first | exact .inl rfl | exact .inr rfl) (b_op op_modU so_mod (b_calT call_int1 so_int (by rfl) T.n_int (by decide +kernel) (b_cons (b_op op_mulU so_mul (b_op op_addU so_add (b_op op_addU so_add (b_op op_modU so_mod (b_calT call_int1 so_int (by rfl) T.n_int (by decide +kernel) (b_cons (b_var 0 (pv 0)) b_nil)) b_int) (b_op op_mulU so_mul b_int (b_var 1 (pv 1)))) b_int) b_int) b_nil)) b_int) (fun _ _ _ => trivial)) (b_sseq (b_set (i := 2) sc__law_mixed.nd rfl (by first | exact .inl rfl | exact .inr rfl) (b_op op_modU so_mod (b_calT call_int1 so_int (by rfl) T.n_int (by decide +kernel) (b_cons (b_op op_mulU so_mul (b_var 2 (pv 2)) (b_op op_addU so_add (b_op op_fdivU so_fdiv (b_var 2 (pv 2)) b_int) b_int)) b_nil)) b_int) (fun _ _ _ => trivial)) (b_sone (b_ret (b_op op_fdivU so_fdiv (b_op op_modU so_mod (b_calT call_int1 so_int (by rfl) T.n_int (by decide +kernel) (b_cons (b_op op_mulU so_mul (b_var 2 (pv 2)) (b_op op_addU so_add (b_op op_fdivU so_fdiv (b_var 2 (pv 2)) b_int) b_int)) b_nil)) b_int) b_int)))))
theorem ok__law_hand (T : Txt K mg cl ad ca tkC fdv) : FnG P w K mg base 1 (ad 17) (fdv 17) ["script"] (spM K cl 1 m__law_hand) :=
  fg_def (N := N__law_hand) (mb := mb__law_hand) T.d__law_hand.fn sc__law_hand fun cdv A outer s H E hG hr tk =>
    (b_sone (b_ret (b_new (b_lst (b_cons (b_ofL (b_lc (own := [("cell", 1)]) rfl sc__law_hand.nd (b_iter (b_sl (b_var 0 (pv 0)) b_noP (b_part b_int))) (blkOk_by (own := [("cell", 1)]) (N := N__law_hand) (sc := defScope st__law_hand) (by decide +kernel)) (fun _ _ _ _ _ => pg_name (i := 1) sc__law_hand.nd rfl (.inl rfl)) (so_cN 1 (by simp)) (fun _ _ _ _ _ => (b_calT call_int1 so_int (by rfl) T.n_int (by decide +kernel) (b_cons (b_var 1 (pv 1)) b_nil))))) (b_cons b_int (b_cons b_int (b_cons b_int b_nil))))))))
theorem ok__law_draw (T : Txt K mg cl ad ca tkC fdv) : FnG P w K mg base 2 (ad 18) (fdv 18) ["hand", "many"] (spM K cl 2 m__law_draw) :=
  fg_def (N := N__law_draw) (mb := mb__law_draw) T.d__law_draw.fn sc__law_draw fun cdv A outer s H E hG hr tk =>
    (b_sseq (b_setI (b_op op_addU so_add (b_ix ix_U so_ix (b_var 0 (pv 0)) b_int (fun _ _ => rfl)) b_int) (pg_sub (b_var 0 (pv 0)) b_int set_list)) (b_sseq (b_ifS (b_tcmp op_gtU so_gt (b_ix ix_U so_ix (b_var 0 (pv 0)) b_int (fun _ _ => rfl)) b_int (nomark _)) (b_sseq (b_set (i := 3) sc__law_draw.nd rfl (by first | exact .inl rfl | exact .inr rfl) (b_op op_modU so_mod (b_calT call_int1 so_int (by rfl) T.n_int (by decide +kernel) (b_cons (b_ix ix_U so_ix (b_var 0 (pv 0)) b_int (fun _ _ => rfl)) b_nil)) (b_var 1 (pv 1))) (fun _ _ _ => trivial)) (b_sseq (b_setI (b_op op_fdivU so_fdiv (b_ix ix_U so_ix (b_var 0 (pv 0)) b_int (fun _ _ => rfl)) (b_var 1 (pv 1))) (pg_sub (b_var 0 (pv 0)) b_int set_list)) (b_sone (b_ret (b_var 3 (pv 3)))))) b_snil) (b_sseq (b_par (i := 4) (j := 5) rfl sc__law_draw.nd rfl rfl (by decide) rfl rfl (b_cons (b_ix ix_U so_ix (b_var 0 (pv 0)) b_int (fun _ _ => rfl)) (b_cons (b_ix ix_U so_ix (b_var 0 (pv 0)) b_int (fun _ _ => rfl)) b_nil)) (fun _ _ _ => trivial) (fun _ _ _ => trivial) (by rfl)) (b_sseq (b_setI (b_op op_addU so_add (b_var 5 (pv 5)) b_int) (pg_sub (b_var 0 (pv 0)) b_int set_list)) (b_sseq (b_ifS (b_tcmp (op_eqU (hu_64 hr)) so_eq (b_calB call_len so_len (by rfl) T.n_len (by decide +kernel) (b_cons (b_var 4 (pv 4)) b_nil)) b_int (nomark _)) (b_sone (b_ret (b_op op_modU so_mod (b_calT call_int1 so_int (by rfl) T.n_int (by decide +kernel) (b_cons (b_call (ok__law_mixed T) hG (hr.mono (by decide)) tk (by rfl) T.d__law_mixed.gl T.d__law_mixed.fn.kp T.d__law_mixed.bd (b_cons b_int (b_cons (b_ix ix_U so_ix (b_var 0 (pv 0)) b_int (fun _ _ => rfl)) b_nil))) b_nil)) (b_var 1 (pv 1))))) b_snil) (b_sseq (b_set (i := 2) sc__law_draw.nd rfl (by first | exact .inl rfl | exact .inr rfl) (b_ix ix_U so_ix (b_var 4 (pv 4)) (b_op op_modU so_mod (b_calT call_int1 so_int (by rfl) T.n_int (by decide +kernel) (b_cons (b_var 5 (pv 5)) b_nil)) (b_calB call_len so_len (by rfl) T.n_len (by decide +kernel) (b_cons (b_var 4 (pv 4)) b_nil))) (fun _ _ => rfl)) (fun _ _ _ => trivial)) (b_sseq (b_ifS (PW.pt (b_tand (b_tcmp op_ltU so_lt (b_var 5 (pv 5)) (b_calB call_len so_len (by rfl) T.n_len (by decide +kernel) (b_cons (b_var 4 (pv 4)) b_nil)) (nomark _)) (b_tand1 (b_tcmp op_geU so_ge (b_calB call_abs so_abs (by rfl) T.n_abs (by decide +kernel) (b_cons (b_var 2 (pv 2)) b_nil)) (b_op op_powU so_pow b_int b_int) (nomark _))))) (b_sseq (b_setI (b_op op_fdivU so_fdiv (b_calB call_abs so_abs (by rfl) T.n_abs (by decide +kernel) (b_cons (b_var 2 (pv 2)) b_nil)) (b_var 1 (pv 1))) (pg_sub (b_var 0 (pv 0)) b_int set_list)) (b_sone (b_ret (b_op op_modU so_mod (b_calT call_int1 so_int (by rfl) T.n_int (by decide +kernel) (b_cons (b_calB call_abs so_abs (by rfl) T.n_abs (by decide +kernel) (b_cons (b_var 2 (pv 2)) b_nil)) b_nil)) (b_var 1 (pv 1)))))) b_snil) (b_sone (b_ret (b_op op_modU so_mod (b_calT call_int1 so_int (by rfl) T.n_int (by decide +kernel) (b_cons (b_call (ok__law_mixed T) hG (hr.mono (by decide)) tk (by rfl) T.d__law_mixed.gl T.d__law_mixed.fn.kp T.d__law_mixed.bd (b_cons (b_var 2 (pv 2)) (b_cons (b_ix ix_U so_ix (b_var 0 (pv 0)) b_int (fun _ _ => rfl)) b_nil))) b_nil)) (b_var 1 (pv 1))))))))))))
theorem ok__law_letters (T : Txt K mg cl ad ca tkC fdv) : FnG P w K mg base 3 (ad 19) (fdv 19) ["hand", "many"] (spM K cl 2 m__law_letters) :=
  fg_def (N := N__law_letters) (mb := mb__law_letters) T.d__law_letters.fn sc__law_letters fun cdv A outer s H E hG hr tk =>
    (b_sseq (b_set (i := 2) sc__law_letters.nd rfl (by first | exact .inl rfl | exact .inr rfl) b_str (fun _ _ _ => trivial)) (b_sseq (b_set (i := 3) sc__law_letters.nd rfl (by first | exact .inl rfl | exact .inr rfl) b_str (fun _ _ _ => trivial)) (b_sseq (b_for (passes_of rfl) rfl (b_rng1 (by rfl) T.n_range (b_cons (b_var 1 (pv 1)) b_nil)) (pg_name (i := 4) sc__law_letters.nd rfl (by first | exact .inl rfl | exact .inr rfl)) (so_gN 4 (fun _ _ _ => trivial)) (b_sone (b_set (i := 3) sc__law_letters.nd rfl (by first | exact .inl rfl | exact .inr rfl) (b_op op_addU so_add (b_var 3 (pv 3)) (b_ix ix_U so_ix (b_var 2 (pv 2)) (b_call (ok__law_draw T) hG (hr.mono (by decide)) tk (by rfl) T.d__law_draw.gl T.d__law_draw.fn.kp T.d__law_draw.bd (b_cons (b_var 0 (pv 0)) (b_cons b_int b_nil))) (fun _ _ => rfl))) (fun _ _ _ => trivial)))) (b_sone (b_ret (b_var 3 (pv 3)))))))
theorem ok__law_words (T : Txt K mg cl ad ca tkC fdv) : FnG P w K mg base 4 (ad 20) (fdv 20) ["hand"] (spM K cl 1 m__law_words) :=
  fg_def (N := N__law_words) (mb := mb__law_words) T.d__law_words.fn sc__law_words fun cdv A outer s H E hG hr tk =>
    (b_sseq (b_set (i := 1) sc__law_words.nd rfl (by first | exact .inl rfl | exact .inr rfl) (b_new (b_lst (b_cons (b_call (ok__law_letters T) hG (hr.mono (by decide)) tk (by rfl) T.d__law_letters.gl T.d__law_letters.fn.kp T.d__law_letters.bd (b_cons (b_var 0 (pv 0)) (b_cons b_int b_nil))) b_nil))) (fun _ _ _ => trivial)) (b_sseq (b_for (passes_of rfl) rfl (b_rng1 (by rfl) T.n_range (b_cons (b_op op_addU so_add b_int (b_call (ok__law_draw T) hG (hr.mono (by decide)) tk (by rfl) T.d__law_draw.gl T.d__law_draw.fn.kp T.d__law_draw.bd (b_cons (b_var 0 (pv 0)) (b_cons b_int b_nil)))) b_nil)) (pg_name (i := 2) sc__law_words.nd rfl (by first | exact .inl rfl | exact .inr rfl)) (so_gN 2 (fun _ _ _ => trivial)) (b_sseq (b_set (i := 3) sc__law_words.nd rfl (by first | exact .inl rfl | exact .inr rfl) (b_call (ok__law_letters T) hG (hr.mono (by decide)) tk (by rfl) T.d__law_letters.gl T.d__law_letters.fn.kp T.d__law_letters.bd (b_cons (b_var 0 (pv 0)) (b_cons b_int b_nil))) (fun _ _ _ => trivial)) (b_sseq (b_ifS (b_tcmp (op_eqU (hu_64 hr)) so_eq (b_call (ok__law_draw T) hG (hr.mono (by decide)) tk (by rfl) T.d__law_draw.gl T.d__law_draw.fn.kp T.d__law_draw.bd (b_cons (b_var 0 (pv 0)) (b_cons b_int b_nil))) b_int (nomark _)) (b_sone (b_set (i := 3) sc__law_words.nd rfl (by first | exact .inl rfl | exact .inr rfl) (b_op op_addU so_add (b_sl (b_ix ix_U so_ix (b_var 1 (pv 1)) b_int (fun _ _ => rfl)) b_noP (b_part b_int)) (b_sl (b_var 3 (pv 3)) (b_part b_int) b_noP)) (fun _ _ _ => trivial))) b_snil) (b_sone (b_ifS (b_tcmp op_notInU so_notIn (b_var 3 (pv 3)) (b_var 1 (pv 1)) (by rfl)) (b_sone (b_app (b_var 1 (pv 1)) (b_var 3 (pv 3)) (pe_bm PySem.F.plainAttrs_list PySem.F.slot_list_append PySem.F.type_list_append mt_append (b_var 1 (pv 1)) (pa_cons (b_var 3 (pv 3)) pa_nil)))) b_snil))))) (b_sone (b_ret (b_frz (b_var 1 (pv 1)))))))
theorem ok__law_worths (T : Txt K mg cl ad ca tkC fdv) : FnG P w K mg base 3 (ad 21) (fdv 21) ["hand"] (spM K cl 1 m__law_worths) :=
  fg_def (N := N__law_worths) (mb := mb__law_worths) T.d__law_worths.fn sc__law_worths fun cdv A outer s H E hG hr tk =>
    (b_sseq (b_set (i := 1) sc__law_worths.nd rfl (by first | exact .inl rfl | exact .inr rfl) (b_ofL (b_lst (b_cons b_int (b_cons b_int (b_cons b_int (b_cons (b_neg b_int) (b_cons (b_op op_powU so_pow b_int b_int) (b_cons (b_neg (b_op op_powU so_pow b_int b_int)) (b_cons (b_call (ok__law_draw T) hG (hr.mono (by decide)) tk (by rfl) T.d__law_draw.gl T.d__law_draw.fn.kp T.d__law_draw.bd (b_cons (b_var 0 (pv 0)) (b_cons (b_op op_powU so_pow b_int b_int) b_nil))) (b_cons (b_op op_subU so_sub (b_neg b_int) (b_call (ok__law_draw T) hG (hr.mono (by decide)) tk (by rfl) T.d__law_draw.gl T.d__law_draw.fn.kp T.d__law_draw.bd (b_cons (b_var 0 (pv 0)) (b_cons (b_op op_powU so_pow b_int b_int) b_nil)))) b_nil)))))))))) (fun _ _ _ => trivial)) (b_sseq (b_set (i := 2) sc__law_worths.nd rfl (by first | exact .inl rfl | exact .inr rfl) (b_ix ix_U so_ix (b_var 1 (pv 1)) (b_call (ok__law_draw T) hG (hr.mono (by decide)) tk (by rfl) T.d__law_draw.gl T.d__law_draw.fn.kp T.d__law_draw.bd (b_cons (b_var 0 (pv 0)) (b_cons b_int b_nil))) (fun _ _ => rfl)) (fun _ _ _ => trivial)) (b_sseq (b_set (i := 3) sc__law_worths.nd rfl (by first | exact .inl rfl | exact .inr rfl) (b_new (b_lst (b_cons (b_var 2 (pv 2)) b_nil))) (fun _ _ _ => trivial)) (b_sseq (b_for (passes_of rfl) rfl (b_rng1 (by rfl) T.n_range (b_cons (b_call (ok__law_draw T) hG (hr.mono (by decide)) tk (by rfl) T.d__law_draw.gl T.d__law_draw.fn.kp T.d__law_draw.bd (b_cons (b_var 0 (pv 0)) (b_cons b_int b_nil))) b_nil)) (pg_name (i := 4) sc__law_worths.nd rfl (by first | exact .inl rfl | exact .inr rfl)) (so_gN 4 (fun _ _ _ => trivial)) (b_sseq (b_set (i := 5) sc__law_worths.nd rfl (by first | exact .inl rfl | exact .inr rfl) (b_calB (call_min2 rfl) so_min2 (by rfl) T.n_min (by decide +kernel) (b_cons (b_op op_powU so_pow b_int b_int) (b_cons (b_calB (call_max2 rfl) so_max2 (by rfl) T.n_max (by decide +kernel) (b_cons (b_neg (b_op op_powU so_pow b_int b_int)) (b_cons (b_op op_subU so_sub (b_op op_addU so_add (b_var 2 (pv 2)) (b_call (ok__law_draw T) hG (hr.mono (by decide)) tk (by rfl) T.d__law_draw.gl T.d__law_draw.fn.kp T.d__law_draw.bd (b_cons (b_var 0 (pv 0)) (b_cons b_int b_nil)))) b_int) b_nil))) b_nil))) (fun _ _ _ => trivial)) (b_sseq (b_ifS (b_tcmp (op_eqU (hu_64 hr)) so_eq (b_call (ok__law_draw T) hG (hr.mono (by decide)) tk (by rfl) T.d__law_draw.gl T.d__law_draw.fn.kp T.d__law_draw.bd (b_cons (b_var 0 (pv 0)) (b_cons b_int b_nil))) b_int (nomark _)) (b_sone (b_set (i := 5) sc__law_worths.nd rfl (by first | exact .inl rfl | exact .inr rfl) (b_ix ix_U so_ix (b_ofL (b_lst (b_cons (b_op op_powU so_pow b_int b_int) (b_cons (b_neg (b_op op_powU so_pow b_int b_int)) (b_cons (b_op op_subU so_sub (b_op op_powU so_pow b_int b_int) b_int) (b_cons (b_op op_subU so_sub b_int (b_op op_powU so_pow b_int b_int)) b_nil)))))) (b_call (ok__law_draw T) hG (hr.mono (by decide)) tk (by rfl) T.d__law_draw.gl T.d__law_draw.fn.kp T.d__law_draw.bd (b_cons (b_var 0 (pv 0)) (b_cons b_int b_nil))) (fun _ _ => rfl)) (fun _ _ _ => trivial))) b_snil) (b_sone (b_ifS (b_tcmp op_notInU so_notIn (b_var 5 (pv 5)) (b_var 3 (pv 3)) (by rfl)) (b_sone (b_app (b_var 3 (pv 3)) (b_var 5 (pv 5)) (pe_bm PySem.F.plainAttrs_list PySem.F.slot_list_append PySem.F.type_list_append mt_append (b_var 3 (pv 3)) (pa_cons (b_var 5 (pv 5)) pa_nil)))) b_snil))))) (b_sone (b_ret (b_frz (b_var 3 (pv 3)))))))))
theorem ok__law_atom (T : Txt K mg cl ad ca tkC fdv) : FnG P w K mg base 3 (ad 22) (fdv 22) ["hand", "words", "worths"] (spM K cl 3 m__law_atom) :=
  fg_def (N := N__law_atom) (mb := mb__law_atom) T.d__law_atom.fn sc__law_atom fun cdv A outer s H E hG hr tk =>
    (b_sseq (b_set (i := 3) sc__law_atom.nd rfl (by first | exact .inl rfl | exact .inr rfl) (b_call (ok__law_draw T) hG (hr.mono (by decide)) tk (by rfl) T.d__law_draw.gl T.d__law_draw.fn.kp T.d__law_draw.bd (b_cons (b_var 0 (pv 0)) (b_cons b_int b_nil))) (fun _ _ _ => trivial)) (b_sseq (b_ifS (b_tcmp op_ltU so_lt (b_var 3 (pv 3)) b_int (nomark _)) (b_sone (b_ret (b_tup (b_cons b_str (b_cons (b_ix ix_U so_ix (b_var 1 (pv 1)) (b_call (ok__law_draw T) hG (hr.mono (by decide)) tk (by rfl) T.d__law_draw.gl T.d__law_draw.fn.kp T.d__law_draw.bd (b_cons (b_var 0 (pv 0)) (b_cons (b_calB call_len so_len (by rfl) T.n_len (by decide +kernel) (b_cons (b_var 1 (pv 1)) b_nil)) b_nil))) (fun _ _ => rfl)) b_nil))))) b_snil) (b_sseq (b_ifS (b_tcmp op_ltU so_lt (b_var 3 (pv 3)) b_int (nomark _)) (b_sone (b_ret (b_tup (b_cons b_str (b_cons (b_ix ix_U so_ix (b_var 1 (pv 1)) (b_call (ok__law_draw T) hG (hr.mono (by decide)) tk (by rfl) T.d__law_draw.gl T.d__law_draw.fn.kp T.d__law_draw.bd (b_cons (b_var 0 (pv 0)) (b_cons (b_calB call_len so_len (by rfl) T.n_len (by decide +kernel) (b_cons (b_var 1 (pv 1)) b_nil)) b_nil))) (fun _ _ => rfl)) b_nil))))) b_snil) (b_sseq (b_ifS (b_tcmp op_ltU so_lt (b_var 3 (pv 3)) b_int (nomark _)) (b_sone (b_ret (b_tup (b_cons b_str (b_cons (b_ix ix_U so_ix b_str (b_call (ok__law_draw T) hG (hr.mono (by decide)) tk (by rfl) T.d__law_draw.gl T.d__law_draw.fn.kp T.d__law_draw.bd (b_cons (b_var 0 (pv 0)) (b_cons b_int b_nil))) (fun _ _ => rfl)) (b_cons (b_ix ix_U so_ix (b_var 2 (pv 2)) (b_call (ok__law_draw T) hG (hr.mono (by decide)) tk (by rfl) T.d__law_draw.gl T.d__law_draw.fn.kp T.d__law_draw.bd (b_cons (b_var 0 (pv 0)) (b_cons (b_calB call_len so_len (by rfl) T.n_len (by decide +kernel) (b_cons (b_var 2 (pv 2)) b_nil)) b_nil))) (fun _ _ => rfl)) b_nil)))))) b_snil) (b_sone (b_ret (b_ix ix_U so_ix (b_ofL (b_lst (b_cons (b_tup (b_cons b_str b_nil)) (b_cons (b_tup (b_cons b_str b_nil)) b_nil)))) (b_op op_subU so_sub (b_var 3 (pv 3)) b_int) (fun _ _ => rfl))))))))
theorem okr__law_expression (T : Txt K mg cl ad ca tkC fdv) : ∀ n : Nat, FnG P w K mg base (4 + n) (ad 23) (fdv 23) ["hand", "words", "worths", "room", "deep"] (spM K cl 5 (m__law_expression n))
  | 0 => FnG.none fun _ _ _ _ h => spM_stuck h
  | n + 1 => fg_def (N := N__law_expression) (mb := mb__law_expression (m__law_expression n)) T.d__law_expression.fn sc__law_expression fun cdv A outer s H E hG hr tk => by
    have IH : FnG P w K mg base (4 + n) (ad 23) (fdv 23) ["hand", "words", "worths", "room", "deep"] (spM K cl 5 (m__law_expression n)) := okr__law_expression T n
    have hr' := hr
    exact (b_sseq (b_ifS (PW.pt (b_tor (b_tcmp op_leU so_le (b_var 4 (pv 4)) b_int (nomark _)) (b_tor1 (PW.pt (b_tand (b_tcmp op_leU so_le (b_var 3 (pv 3)) b_int (nomark _)) (b_tand1 (b_tcmp op_gtU so_gt (b_call (ok__law_draw T) hG (hr.mono (Nat.le_trans (by decide : 2 ≤ 4) (Nat.le_add_right 4 n))) tk (by rfl) T.d__law_draw.gl T.d__law_draw.fn.kp T.d__law_draw.bd (b_cons (b_var 0 (pv 0)) (b_cons b_int b_nil))) b_int (nomark _)))))))) (b_sone (b_ret (b_call (ok__law_atom T) hG (hr.mono (Nat.le_trans (by decide : 3 ≤ 4) (Nat.le_add_right 4 n))) tk (by rfl) T.d__law_atom.gl T.d__law_atom.fn.kp T.d__law_atom.bd (b_cons (b_var 0 (pv 0)) (b_cons (b_var 1 (pv 1)) (b_cons (b_var 2 (pv 2)) b_nil)))))) b_snil) (b_sseq (b_set (i := 5) sc__law_expression.nd rfl (by first | exact .inl rfl | exact .inr rfl) (b_call (ok__law_draw T) hG (hr.mono (Nat.le_trans (by decide : 2 ≤ 4) (Nat.le_add_right 4 n))) tk (by rfl) T.d__law_draw.gl T.d__law_draw.fn.kp T.d__law_draw.bd (b_cons (b_var 0 (pv 0)) (b_cons b_int b_nil))) (fun _ _ _ => trivial)) (b_sseq (b_ifS (PW.pt (b_tand (b_tcmp op_gtU so_gt (b_var 3 (pv 3)) b_int (nomark _)) (b_tand1 (b_tcmp op_ltU so_lt (b_var 5 (pv 5)) b_int (nomark _))))) (b_sseq (b_set (i := 8) sc__law_expression.nd rfl (by first | exact .inl rfl | exact .inr rfl) (b_op op_addU so_add b_int (b_call (ok__law_draw T) hG (hr.mono (Nat.le_trans (by decide : 2 ≤ 4) (Nat.le_add_right 4 n))) tk (by rfl) T.d__law_draw.gl T.d__law_draw.fn.kp T.d__law_draw.bd (b_cons (b_var 0 (pv 0)) (b_cons (b_op op_subU so_sub (b_var 3 (pv 3)) b_int) b_nil)))) (fun _ _ _ => trivial)) (b_sseq (b_set (i := 9) sc__law_expression.nd rfl (by first | exact .inl rfl | exact .inr rfl) (b_call IH hG hr' tk (by rfl) T.d__law_expression.gl T.d__law_expression.fn.kp T.d__law_expression.bd (b_cons (b_var 0 (pv 0)) (b_cons (b_var 1 (pv 1)) (b_cons (b_var 2 (pv 2)) (b_cons (b_var 8 (pv 8)) (b_cons (b_op op_subU so_sub (b_var 4 (pv 4)) b_int) b_nil)))))) (fun _ _ _ => trivial)) (b_sseq (b_set (i := 10) sc__law_expression.nd rfl (by first | exact .inl rfl | exact .inr rfl) (b_call IH hG hr' tk (by rfl) T.d__law_expression.gl T.d__law_expression.fn.kp T.d__law_expression.bd (b_cons (b_var 0 (pv 0)) (b_cons (b_var 1 (pv 1)) (b_cons (b_var 2 (pv 2)) (b_cons (b_op op_subU so_sub (b_var 3 (pv 3)) (b_var 8 (pv 8))) (b_cons (b_op op_subU so_sub (b_var 4 (pv 4)) b_int) b_nil)))))) (fun _ _ _ => trivial)) (b_sone (b_ret (b_tup (b_cons (b_ix ix_U so_ix (b_ofL (b_lst (b_cons b_str (b_cons b_str b_nil)))) (b_calT call_int1 so_int (by rfl) T.n_int (by decide +kernel) (b_cons (b_cmp op_gtU so_gt (b_var 5 (pv 5)) b_int (nomark _)) b_nil)) (fun _ _ => rfl)) (b_cons (b_var 9 (pv 9)) (b_cons (b_var 10 (pv 10)) b_nil))))))))) b_snil) (b_sseq (b_ifS (b_tcmp op_ltU so_lt (b_var 5 (pv 5)) b_int (nomark _)) (b_sseq (b_set (i := 11) sc__law_expression.nd rfl (by first | exact .inl rfl | exact .inr rfl) (b_ix ix_U so_ix (b_ofL (b_lst (b_cons b_str (b_cons b_str (b_cons b_str b_nil))))) (b_call (ok__law_draw T) hG (hr.mono (Nat.le_trans (by decide : 2 ≤ 4) (Nat.le_add_right 4 n))) tk (by rfl) T.d__law_draw.gl T.d__law_draw.fn.kp T.d__law_draw.bd (b_cons (b_var 0 (pv 0)) (b_cons b_int b_nil))) (fun _ _ => rfl)) (fun _ _ _ => trivial)) (b_sone (b_ret (b_tup (b_cons (b_var 11 (pv 11)) (b_cons (b_call IH hG hr' tk (by rfl) T.d__law_expression.gl T.d__law_expression.fn.kp T.d__law_expression.bd (b_cons (b_var 0 (pv 0)) (b_cons (b_var 1 (pv 1)) (b_cons (b_var 2 (pv 2)) (b_cons (b_var 3 (pv 3)) (b_cons (b_op op_subU so_sub (b_var 4 (pv 4)) b_int) b_nil)))))) b_nil)))))) b_snil) (b_sseq (b_set (i := 6) sc__law_expression.nd rfl (by first | exact .inl rfl | exact .inr rfl) (b_op op_addU so_add b_int (b_call (ok__law_draw T) hG (hr.mono (Nat.le_trans (by decide : 2 ≤ 4) (Nat.le_add_right 4 n))) tk (by rfl) T.d__law_draw.gl T.d__law_draw.fn.kp T.d__law_draw.bd (b_cons (b_var 0 (pv 0)) (b_cons (b_calB (call_min2 rfl) so_min2 (by rfl) T.n_min (by decide +kernel) (b_cons b_int (b_cons (b_var 3 (pv 3)) b_nil))) b_nil)))) (fun _ _ _ => trivial)) (b_sseq (b_set (i := 7) sc__law_expression.nd rfl (by first | exact .inl rfl | exact .inr rfl) (b_call (ok__law_draw T) hG (hr.mono (Nat.le_trans (by decide : 2 ≤ 4) (Nat.le_add_right 4 n))) tk (by rfl) T.d__law_draw.gl T.d__law_draw.fn.kp T.d__law_draw.bd (b_cons (b_var 0 (pv 0)) (b_cons (b_op op_addU so_add (b_var 6 (pv 6)) b_int) b_nil))) (fun _ _ _ => trivial)) (b_sone (b_ret (b_tup (b_cons b_str (b_cons (b_var 7 (pv 7)) (b_cons (b_var 6 (pv 6)) (b_cons (b_call IH hG hr' tk (by rfl) T.d__law_expression.gl T.d__law_expression.fn.kp T.d__law_expression.bd (b_cons (b_var 0 (pv 0)) (b_cons (b_var 1 (pv 1)) (b_cons (b_var 2 (pv 2)) (b_cons (b_op op_fdivU so_fdiv (b_var 3 (pv 3)) (b_var 6 (pv 6))) (b_cons (b_op op_subU so_sub (b_var 4 (pv 4)) b_int) b_nil)))))) b_nil)))))))))))))
theorem ok__law_expression (T : Txt K mg cl ad ca tkC fdv) : FnG P w K mg base 20 (ad 23) (fdv 23) ["hand", "words", "worths", "room", "deep"] (spM K cl 5 (m__law_expression 16)) := okr__law_expression T 16
theorem ok__law_is (T : Txt K mg cl ad ca tkC fdv) : FnG P w K mg base 1 (ad 24) (fdv 24) ["told", "due"] (spM K cl 2 m__law_is) :=
  fg_def (N := N__law_is) (mb := mb__law_is) T.d__law_is.fn sc__law_is fun cdv A outer s H E hG hr tk =>
    (b_sone (b_ret (b_and (b_is (by rfl) T.n_isinstance (b_var 0 (pv 0)) (pe_bltn (by rfl) T.n_bool (by decide +kernel) rfl)) (b_one (b_cmp (op_eqU (hu_64 hr)) so_eq (b_var 0 (pv 0)) (b_var 1 (pv 1)) (nomark _))))))
theorem ok__law_parts (T : Txt K mg cl ad ca tkC fdv) : FnG P w K mg base 1 (ad 25) (fdv 25) ["thing"] (spM K cl 1 m__law_parts) :=
  fg_def (N := N__law_parts) (mb := mb__law_parts) T.d__law_parts.fn sc__law_parts fun cdv A outer s H E hG hr tk =>
    (b_sseq (b_ifS (b_tcmp op_inU so_in (b_ix ix_U so_ix (b_var 0 (pv 0)) b_int (fun _ _ => rfl)) (b_ofL (b_lst (b_cons b_str (b_cons b_str b_nil)))) (by rfl)) (b_sone (b_ret (b_ofL (b_lst (b_cons b_int (b_cons b_int b_nil)))))) b_snil) (b_sseq (b_ifS (b_tcmp op_inU so_in (b_ix ix_U so_ix (b_var 0 (pv 0)) b_int (fun _ _ => rfl)) (b_ofL (b_lst (b_cons b_str (b_cons b_str (b_cons b_str b_nil))))) (by rfl)) (b_sone (b_ret (b_ofL (b_lst (b_cons b_int b_nil))))) b_snil) (b_sone (b_ret (b_if (b_tcmp (op_eqU (hu_64 hr)) so_eq (b_ix ix_U so_ix (b_var 0 (pv 0)) b_int (fun _ _ => rfl)) b_str (nomark _)) (b_ofL (b_lst (b_cons b_int b_nil))) (b_ofL (b_lst b_nil)))))))
theorem ok__law_is_whole (T : Txt K mg cl ad ca tkC fdv) : FnG P w K mg base 1 (ad 26) (fdv 26) ["thing", "least", "most"] (spM K cl 3 m__law_is_whole) :=
  fg_def (N := N__law_is_whole) (mb := mb__law_is_whole) T.d__law_is_whole.fn sc__law_is_whole fun cdv A outer s H E hG hr tk =>
    (b_sone (b_ret (b_and (b_is (by rfl) T.n_isinstance (b_var 0 (pv 0)) (pe_bltn (by rfl) T.n_int (by decide +kernel) rfl)) (b_and (b_not (b_is (by rfl) T.n_isinstance (b_var 0 (pv 0)) (pe_bltn (by rfl) T.n_bool (by decide +kernel) rfl))) (b_one (b_chain op_leU op_leU so_le so_le (b_var 1 (pv 1)) (b_var 0 (pv 0)) (b_var 2 (pv 2))))))))
theorem ok__law_is_word (T : Txt K mg cl ad ca tkC fdv) : FnG P w K mg base 1 (ad 27) (fdv 27) ["thing"] (spM K cl 1 m__law_is_word) :=
  fg_def (N := N__law_is_word) (mb := mb__law_is_word) T.d__law_is_word.fn sc__law_is_word fun cdv A outer s H E hG hr tk =>
    (b_sseq (b_ifS (PW.pt (b_tor (b_tnot (b_test (b_is (by rfl) T.n_isinstance (b_var 0 (pv 0)) (pe_bltn (by rfl) T.n_str (by decide +kernel) rfl)))) (b_tor1 (b_tcmp (op_neU (hu_64 hr)) so_ne (b_calB call_len so_len (by rfl) T.n_len (by decide +kernel) (b_cons (b_var 0 (pv 0)) b_nil)) b_int (nomark _))))) (b_sone (b_ret b_bl)) b_snil) (b_sone (b_ret (b_calB (cr_all rfl) so_all (by rfl) T.n_all (by decide +kernel) (b_cons (b_ofL (b_lc (own := [("sign", 1)]) rfl sc__law_is_word.nd (b_iter (b_var 0 (pv 0))) (blkOk_by (own := [("sign", 1)]) (N := N__law_is_word) (sc := defScope st__law_is_word) (by decide +kernel)) (fun _ _ _ _ _ => pg_name (i := 1) sc__law_is_word.nd rfl (.inl rfl)) (so_cN 1 (by simp)) (fun _ _ _ _ _ => (b_cmp op_inU so_in (b_var 1 (pv 1)) b_str (by rfl))))) b_nil)))))
theorem ok__law_is_lone (T : Txt K mg cl ad ca tkC fdv) : FnG P w K mg base 2 (ad 28) (fdv 28) ["thing"] (spM K cl 1 m__law_is_lone) :=
  fg_def (N := N__law_is_lone) (mb := mb__law_is_lone) T.d__law_is_lone.fn sc__law_is_lone fun cdv A outer s H E hG hr tk =>
    (b_sseq (b_par (i := 1) (j := 2) rfl sc__law_is_lone.nd rfl rfl (by decide) rfl rfl (b_cons (b_ix ix_U so_ix (b_var 0 (pv 0)) b_int (fun _ _ => rfl)) (b_cons (b_calB call_len so_len (by rfl) T.n_len (by decide +kernel) (b_cons (b_var 0 (pv 0)) b_nil)) b_nil)) (fun _ _ _ => trivial) (fun _ _ _ => trivial) (by rfl)) (b_sseq (b_ifS (b_tcmp op_inU so_in (b_var 1 (pv 1)) (b_ofL (b_lst (b_cons b_str (b_cons b_str b_nil)))) (by rfl)) (b_sone (b_ret (b_cmp (op_eqU (hu_64 hr)) so_eq (b_var 2 (pv 2)) b_int (nomark _)))) b_snil) (b_sseq (b_ifS (b_tcmp op_inU so_in (b_var 1 (pv 1)) (b_ofL (b_lst (b_cons b_str (b_cons b_str b_nil)))) (by rfl)) (b_sone (b_ret (b_and (b_cmp (op_eqU (hu_64 hr)) so_eq (b_var 2 (pv 2)) b_int (nomark _)) (b_one (b_call (ok__law_is_word T) hG (hr.mono (by decide)) tk (by rfl) T.d__law_is_word.gl T.d__law_is_word.fn.kp T.d__law_is_word.bd (b_cons (b_ix ix_U so_ix (b_var 0 (pv 0)) b_int (fun _ _ => rfl)) b_nil)))))) b_snil) (b_sseq (b_ifS (b_tcmp (op_eqU (hu_64 hr)) so_eq (b_var 1 (pv 1)) b_str (nomark _)) (b_sseq (b_ifS (PW.pt (b_tor (b_tcmp (op_neU (hu_64 hr)) so_ne (b_var 2 (pv 2)) b_int (nomark _)) (b_tor (b_tnot (b_test (b_is (by rfl) T.n_isinstance (b_ix ix_U so_ix (b_var 0 (pv 0)) b_int (fun _ _ => rfl)) (pe_bltn (by rfl) T.n_str (by decide +kernel) rfl)))) (b_tor1 (b_tcmp op_notInU so_notIn (b_ix ix_U so_ix (b_var 0 (pv 0)) b_int (fun _ _ => rfl)) (b_ofL (b_lst (b_cons b_str (b_cons b_str (b_cons b_str b_nil))))) (by rfl)))))) (b_sone (b_ret b_bl)) b_snil) (b_sone (b_ret (b_call (ok__law_is_whole T) hG (hr.mono (by decide)) tk (by rfl) T.d__law_is_whole.gl T.d__law_is_whole.fn.kp T.d__law_is_whole.bd (b_cons (b_ix ix_U so_ix (b_var 0 (pv 0)) b_int (fun _ _ => rfl)) (b_cons (b_neg (b_op op_powU so_pow b_int b_int)) (b_cons (b_op op_powU so_pow b_int b_int) b_nil))))))) b_snil) (b_sseq (b_ifS (b_tcmp (op_eqU (hu_64 hr)) so_eq (b_var 1 (pv 1)) b_str (nomark _)) (b_sone (b_ret (b_and (b_cmp (op_eqU (hu_64 hr)) so_eq (b_var 2 (pv 2)) b_int (nomark _)) (b_and (b_call (ok__law_is_whole T) hG (hr.mono (by decide)) tk (by rfl) T.d__law_is_whole.gl T.d__law_is_whole.fn.kp T.d__law_is_whole.bd (b_cons (b_ix ix_U so_ix (b_var 0 (pv 0)) b_int (fun _ _ => rfl)) (b_cons b_int (b_cons b_int b_nil)))) (b_one (b_call (ok__law_is_whole T) hG (hr.mono (by decide)) tk (by rfl) T.d__law_is_whole.gl T.d__law_is_whole.fn.kp T.d__law_is_whole.bd (b_cons (b_ix ix_U so_ix (b_var 0 (pv 0)) b_int (fun _ _ => rfl)) (b_cons (b_calB (call_max2 rfl) so_max2 (by rfl) T.n_max (by decide +kernel) (b_cons b_int (b_cons (b_ix ix_U so_ix (b_var 0 (pv 0)) b_int (fun _ _ => rfl)) b_nil))) (b_cons b_int b_nil))))))))) b_snil) (b_sone (b_ret (b_or (b_and (b_cmp op_inU so_in (b_var 1 (pv 1)) (b_ofL (b_lst (b_cons b_str (b_cons b_str b_nil)))) (by rfl)) (b_one (b_cmp (op_eqU (hu_64 hr)) so_eq (b_var 2 (pv 2)) b_int (nomark _)))) (b_one (b_and (b_cmp op_inU so_in (b_var 1 (pv 1)) (b_ofL (b_lst (b_cons b_str (b_cons b_str (b_cons b_str b_nil))))) (by rfl)) (b_one (b_cmp (op_eqU (hu_64 hr)) so_eq (b_var 2 (pv 2)) b_int (nomark _)))))))))))))
theorem okr__law_sizes (T : Txt K mg cl ad ca tkC fdv) : ∀ n : Nat, FnG P w K mg base (3 + n) (ad 29) (fdv 29) ["thing"] (spM K cl 1 (m__law_sizes n))
  | 0 => FnG.none fun _ _ _ _ h => spM_stuck h
  | n + 1 => fg_def (N := N__law_sizes) (mb := mb__law_sizes (m__law_sizes n)) T.d__law_sizes.fn sc__law_sizes fun cdv A outer s H E hG hr tk => by
    have IH : FnG P w K mg base (3 + n) (ad 29) (fdv 29) ["thing"] (spM K cl 1 (m__law_sizes n)) := okr__law_sizes T n
    have hr' := hr
    exact (b_sseq (b_ifS (PW.pt (b_tor (b_tnot (b_test (b_is (by rfl) T.n_isinstance (b_var 0 (pv 0)) (pe_bltn (by rfl) T.n_tuple (by decide +kernel) rfl)))) (b_tor (b_tcmp (op_eqU (hu_64 hr)) so_eq (b_calB call_len so_len (by rfl) T.n_len (by decide +kernel) (b_cons (b_var 0 (pv 0)) b_nil)) b_int (nomark _)) (b_tor (b_tnot (b_test (b_is (by rfl) T.n_isinstance (b_ix ix_U so_ix (b_var 0 (pv 0)) b_int (fun _ _ => rfl)) (pe_bltn (by rfl) T.n_str (by decide +kernel) rfl)))) (b_tor1 (b_tnot (b_test (b_call (ok__law_is_lone T) hG (hr.mono (Nat.le_trans (by decide : 2 ≤ 3) (Nat.le_add_right 3 n))) tk (by rfl) T.d__law_is_lone.gl T.d__law_is_lone.fn.kp T.d__law_is_lone.bd (b_cons (b_var 0 (pv 0)) b_nil))))))))) (b_sone (b_ret b_non)) b_snil) (b_sseq (b_asg (b_tup (b_cons b_int (b_cons b_int b_nil))) (pg_tup rfl (pgs_cons (pg_name (i := 3) sc__law_sizes.nd rfl (by first | exact .inl rfl | exact .inr rfl)) (pgs_cons (pg_name (i := 4) sc__law_sizes.nd rfl (by first | exact .inl rfl | exact .inr rfl)) (pgs_nil)))) (so_gT [3, 4] (fun _ _ _ _ _ => trivial))) (b_sseq (b_set (i := 1) sc__law_sizes.nd rfl (by first | exact .inl rfl | exact .inr rfl) (b_call (ok__law_parts T) hG (hr.mono (Nat.le_trans (by decide : 1 ≤ 3) (Nat.le_add_right 3 n))) tk (by rfl) T.d__law_parts.gl T.d__law_parts.fn.kp T.d__law_parts.bd (b_cons (b_var 0 (pv 0)) b_nil)) (fun _ _ _ => trivial)) (b_sseq (b_for (passes_of rfl) rfl (b_iter (b_var 1 (pv 1))) (pg_name (i := 2) sc__law_sizes.nd rfl (by first | exact .inl rfl | exact .inr rfl)) (so_gN 2 (fun _ _ _ => trivial)) (b_sseq (b_set (i := 5) sc__law_sizes.nd rfl (by first | exact .inl rfl | exact .inr rfl) (b_call IH hG hr' tk (by rfl) T.d__law_sizes.gl T.d__law_sizes.fn.kp T.d__law_sizes.bd (b_cons (b_ix ix_U so_ix (b_var 0 (pv 0)) (b_var 2 (pv 2)) (fun _ _ => rfl)) b_nil)) (fun _ _ _ => trivial)) (b_sseq (b_ifS (b_tisN (b_var 5 (pv 5))) (b_sone (b_ret b_non)) b_snil) (b_sone (b_par (i := 3) (j := 4) rfl sc__law_sizes.nd rfl rfl (by decide) rfl rfl (b_cons (b_calB (call_max2 rfl) so_max2 (by rfl) T.n_max (by decide +kernel) (b_cons (b_var 3 (pv 3)) (b_cons (b_ix ix_U so_ix (b_var 5 (pv 5)) b_int (fun _ _ => rfl)) b_nil))) (b_cons (b_op op_addU so_add (b_var 4 (pv 4)) (b_ix ix_U so_ix (b_var 5 (pv 5)) b_int (fun _ _ => rfl))) b_nil)) (fun _ _ _ => trivial) (fun _ _ _ => trivial) (by rfl)))))) (b_sseq (b_ifS (b_tcmp (op_eqU (hu_64 hr)) so_eq (b_ix ix_U so_ix (b_var 0 (pv 0)) b_int (fun _ _ => rfl)) b_str (nomark _)) (b_sone (b_set (i := 4) sc__law_sizes.nd rfl (by first | exact .inl rfl | exact .inr rfl) (b_op op_mulU so_mul (b_var 4 (pv 4)) (b_ix ix_U so_ix (b_var 0 (pv 0)) b_int (fun _ _ => rfl))) (fun _ _ _ => trivial))) b_snil) (b_sone (b_ret (b_tup (b_cons (b_op op_addU so_add (b_var 3 (pv 3)) b_int) (b_cons (b_op op_addU so_add (b_var 4 (pv 4)) (b_calT call_int1 so_int (by rfl) T.n_int (by decide +kernel) (b_cons (b_cmp (op_eqU (hu_64 hr)) so_eq (b_calB call_len so_len (by rfl) T.n_len (by decide +kernel) (b_cons (b_var 1 (pv 1)) b_nil)) b_int (nomark _)) b_nil))) b_nil))))))))))
theorem ok__law_sizes (T : Txt K mg cl ad ca tkC fdv) : FnG P w K mg base 53 (ad 29) (fdv 29) ["thing"] (spM K cl 1 (m__law_sizes 50)) := okr__law_sizes T 50
theorem ok__law_tower (T : Txt K mg cl ad ca tkC fdv) : FnG P w K mg base 3 (ad 30) (fdv 30) ["hand", "thing", "many"] (spM K cl 3 m__law_tower) :=
  fg_def (N := N__law_tower) (mb := mb__law_tower) T.d__law_tower.fn sc__law_tower fun cdv A outer s H E hG hr tk =>
    (b_sseq (b_for (passes_of rfl) rfl (b_rng1 (by rfl) T.n_range (b_cons (b_var 2 (pv 2)) b_nil)) (pg_name (i := 3) sc__law_tower.nd rfl (by first | exact .inl rfl | exact .inr rfl)) (so_gN 3 (fun _ _ _ => trivial)) (b_sseq (b_set (i := 4) sc__law_tower.nd rfl (by first | exact .inl rfl | exact .inr rfl) (b_call (ok__law_draw T) hG (hr.mono (by decide)) tk (by rfl) T.d__law_draw.gl T.d__law_draw.fn.kp T.d__law_draw.bd (b_cons (b_var 0 (pv 0)) (b_cons b_int b_nil))) (fun _ _ _ => trivial)) (b_sone (b_ifS (b_tcmp op_ltU so_lt (b_var 4 (pv 4)) b_int (nomark _)) (b_sone (b_set (i := 1) sc__law_tower.nd rfl (by first | exact .inl rfl | exact .inr rfl) (b_tup (b_cons (b_ix ix_U so_ix (b_ofL (b_lst (b_cons b_str (b_cons b_str (b_cons b_str b_nil))))) (b_var 4 (pv 4)) (fun _ _ => rfl)) (b_cons (b_var 1 (pv 1)) b_nil))) (fun _ _ _ => trivial))) (b_sone (b_ifS (b_tcmp (op_eqU (hu_64 hr)) so_eq (b_var 4 (pv 4)) b_int (nomark _)) (b_sone (b_set (i := 1) sc__law_tower.nd rfl (by first | exact .inl rfl | exact .inr rfl) (b_tup (b_cons b_str (b_cons (b_call (ok__law_draw T) hG (hr.mono (by decide)) tk (by rfl) T.d__law_draw.gl T.d__law_draw.fn.kp T.d__law_draw.bd (b_cons (b_var 0 (pv 0)) (b_cons b_int b_nil))) (b_cons b_int (b_cons (b_var 1 (pv 1)) b_nil))))) (fun _ _ _ => trivial))) (b_sone (b_set (i := 1) sc__law_tower.nd rfl (by first | exact .inl rfl | exact .inr rfl) (b_tup (b_cons (b_ix ix_U so_ix (b_ofL (b_lst (b_cons b_str (b_cons b_str b_nil)))) (b_op op_subU so_sub (b_var 4 (pv 4)) b_int) (fun _ _ => rfl)) (b_cons (b_var 1 (pv 1)) (b_cons (b_tup (b_cons b_str b_nil)) b_nil)))) (fun _ _ _ => trivial))))))))) (b_sone (b_ret (b_var 1 (pv 1)))))
theorem ok__law_row (T : Txt K mg cl ad ca tkC fdv) : FnG P w K mg base 1 (ad 31) (fdv 31) ["hand", "word", "atom", "many"] (spM K cl 4 m__law_row) :=
  fg_def (N := N__law_row) (mb := mb__law_row) T.d__law_row.fn sc__law_row fun cdv A outer s H E hG hr tk =>
    (b_sseq (b_set (i := 4) sc__law_row.nd rfl (by first | exact .inl rfl | exact .inr rfl) (b_ofL (b_lc (own := [("k", 7)]) rfl sc__law_row.nd (b_rng1 (by rfl) T.n_range (b_cons (b_var 3 (pv 3)) b_nil)) (blkOk_by (own := [("k", 7)]) (N := N__law_row) (sc := defScope st__law_row) (by decide +kernel)) (fun _ _ _ _ _ => pg_name (i := 7) sc__law_row.nd rfl (.inl rfl)) (so_cN 7 (by simp)) (fun _ _ _ _ _ => (b_var 2 (pv 2))))) (fun _ _ _ => trivial)) (b_sseq (b_for (passes_of rfl) rfl (b_rng1 (by rfl) T.n_range (b_cons b_int b_nil)) (pg_name (i := 5) sc__law_row.nd rfl (by first | exact .inl rfl | exact .inr rfl)) (so_gN 5 (fun _ _ _ => trivial)) (b_sseq (b_setLcN (i := 6) [("k", 7)] (fun _ _ _ => trivial) rfl sc__law_row.nd rfl rfl (sw_true rfl rfl rfl (by decide +kernel)) (b_rng3 (by rfl) T.n_range (b_cons b_int (b_cons (b_op op_subU so_sub (b_calB call_len so_len (by rfl) T.n_len (by decide +kernel) (b_cons (b_var 4 (pv 4)) b_nil)) b_int) (b_cons b_int b_nil)))) (blkOk_by (own := [("k", 7)]) (N := N__law_row) (sc := defScope st__law_row) (by decide +kernel)) (fun _ _ _ _ _ => pg_name (i := 7) sc__law_row.nd rfl (.inl rfl)) (so_cN 7 (by simp)) (fun _ _ _ _ _ => (b_tup (b_cons (b_var 1 (pv 1)) (b_cons (b_ix ix_U so_ix (b_var 4 (pv 4)) (b_var 7 (pv 7)) (fun _ _ => rfl)) (b_cons (b_ix ix_U so_ix (b_var 4 (pv 4)) (b_op op_addU so_add (b_var 7 (pv 7)) b_int) (fun _ _ => rfl)) b_nil)))))) (b_sseq (b_ifS (b_tcmp (op_eqU (hu_64 hr)) so_eq (b_op op_modU so_mod (b_calT call_int1 so_int (by rfl) T.n_int (by decide +kernel) (b_cons (b_calB call_len so_len (by rfl) T.n_len (by decide +kernel) (b_cons (b_var 4 (pv 4)) b_nil)) b_nil)) b_int) b_int (nomark _)) (b_sone (b_app (b_var 6 (pv 6)) (b_ix ix_U so_ix (b_var 4 (pv 4)) (b_neg b_int) (fun _ _ => rfl)) (pe_bm PySem.F.plainAttrs_list PySem.F.slot_list_append PySem.F.type_list_append mt_append (b_var 6 (pv 6)) (pa_cons (b_ix ix_U so_ix (b_var 4 (pv 4)) (b_neg b_int) (fun _ _ => rfl)) pa_nil)))) b_snil) (b_sone (b_set (i := 4) sc__law_row.nd rfl (by first | exact .inl rfl | exact .inr rfl) (b_frz (b_var 6 (pv 6))) (fun _ _ _ => trivial)))))) (b_sone (b_ret (b_ix ix_U so_ix (b_var 4 (pv 4)) b_int (fun _ _ => rfl))))))
theorem ok__law_at_bounds (T : Txt K mg cl ad ca tkC fdv) : FnG P w K mg base 4 (ad 32) (fdv 32) ["hand", "atom"] (spM K cl 2 m__law_at_bounds) :=
  fg_def (N := N__law_at_bounds) (mb := mb__law_at_bounds) T.d__law_at_bounds.fn sc__law_at_bounds fun cdv A outer s H E hG hr tk =>
    (b_sseq (b_set (i := 2) sc__law_at_bounds.nd rfl (by first | exact .inl rfl | exact .inr rfl) (b_call (ok__law_draw T) hG (hr.mono (by decide)) tk (by rfl) T.d__law_draw.gl T.d__law_draw.fn.kp T.d__law_draw.bd (b_cons (b_var 0 (pv 0)) (b_cons b_int b_nil))) (fun _ _ _ => trivial)) (b_sseq (b_set (i := 3) sc__law_at_bounds.nd rfl (by first | exact .inl rfl | exact .inr rfl) (b_ix ix_U so_ix (b_ofL (b_lst (b_cons b_str (b_cons b_str b_nil)))) (b_call (ok__law_draw T) hG (hr.mono (by decide)) tk (by rfl) T.d__law_draw.gl T.d__law_draw.fn.kp T.d__law_draw.bd (b_cons (b_var 0 (pv 0)) (b_cons b_int b_nil))) (fun _ _ => rfl)) (fun _ _ _ => trivial)) (b_sseq (b_ifS (b_tcmp (op_eqU (hu_64 hr)) so_eq (b_var 2 (pv 2)) b_int (nomark _)) (b_sone (b_ret (b_call (ok__law_tower T) hG (hr.mono (by decide)) tk (by rfl) T.d__law_tower.gl T.d__law_tower.fn.kp T.d__law_tower.bd (b_cons (b_var 0 (pv 0)) (b_cons (b_var 1 (pv 1)) (b_cons (b_op op_addU so_add b_int (b_call (ok__law_draw T) hG (hr.mono (by decide)) tk (by rfl) T.d__law_draw.gl T.d__law_draw.fn.kp T.d__law_draw.bd (b_cons (b_var 0 (pv 0)) (b_cons b_int b_nil)))) b_nil)))))) b_snil) (b_sseq (b_ifS (b_tcmp (op_eqU (hu_64 hr)) so_eq (b_var 2 (pv 2)) b_int (nomark _)) (b_sone (b_ret (b_call (ok__law_row T) hG (hr.mono (by decide)) tk (by rfl) T.d__law_row.gl T.d__law_row.fn.kp T.d__law_row.bd (b_cons (b_var 0 (pv 0)) (b_cons (b_var 3 (pv 3)) (b_cons (b_var 1 (pv 1)) (b_cons (b_op op_addU so_add b_int (b_call (ok__law_draw T) hG (hr.mono (by decide)) tk (by rfl) T.d__law_draw.gl T.d__law_draw.fn.kp T.d__law_draw.bd (b_cons (b_var 0 (pv 0)) (b_cons b_int b_nil)))) b_nil))))))) b_snil) (b_sseq (b_ifS (b_tcmp (op_eqU (hu_64 hr)) so_eq (b_var 2 (pv 2)) b_int (nomark _)) (b_sseq (b_set (i := 5) sc__law_at_bounds.nd rfl (by first | exact .inl rfl | exact .inr rfl) (b_op op_addU so_add b_int (b_call (ok__law_draw T) hG (hr.mono (by decide)) tk (by rfl) T.d__law_draw.gl T.d__law_draw.fn.kp T.d__law_draw.bd (b_cons (b_var 0 (pv 0)) (b_cons b_int b_nil)))) (fun _ _ _ => trivial)) (b_sseq (b_set (i := 4) sc__law_at_bounds.nd rfl (by first | exact .inl rfl | exact .inr rfl) (b_call (ok__law_row T) hG (hr.mono (by decide)) tk (by rfl) T.d__law_row.gl T.d__law_row.fn.kp T.d__law_row.bd (b_cons (b_var 0 (pv 0)) (b_cons (b_var 3 (pv 3)) (b_cons (b_var 1 (pv 1)) (b_cons (b_op op_addU so_add (b_op op_fdivU so_fdiv b_int (b_var 5 (pv 5))) (b_call (ok__law_draw T) hG (hr.mono (by decide)) tk (by rfl) T.d__law_draw.gl T.d__law_draw.fn.kp T.d__law_draw.bd (b_cons (b_var 0 (pv 0)) (b_cons b_int b_nil)))) b_nil))))) (fun _ _ _ => trivial)) (b_sone (b_ret (b_tup (b_cons b_str (b_cons (b_call (ok__law_draw T) hG (hr.mono (by decide)) tk (by rfl) T.d__law_draw.gl T.d__law_draw.fn.kp T.d__law_draw.bd (b_cons (b_var 0 (pv 0)) (b_cons (b_op op_addU so_add (b_var 5 (pv 5)) b_int) b_nil))) (b_cons (b_var 5 (pv 5)) (b_cons (b_var 4 (pv 4)) b_nil))))))))) b_snil) (b_sseq (b_set (i := 4) sc__law_at_bounds.nd rfl (by first | exact .inl rfl | exact .inr rfl) (b_call (ok__law_row T) hG (hr.mono (by decide)) tk (by rfl) T.d__law_row.gl T.d__law_row.fn.kp T.d__law_row.bd (b_cons (b_var 0 (pv 0)) (b_cons (b_var 3 (pv 3)) (b_cons (b_var 1 (pv 1)) (b_cons (b_op op_addU so_add b_int (b_call (ok__law_draw T) hG (hr.mono (by decide)) tk (by rfl) T.d__law_draw.gl T.d__law_draw.fn.kp T.d__law_draw.bd (b_cons (b_var 0 (pv 0)) (b_cons b_int b_nil)))) b_nil))))) (fun _ _ _ => trivial)) (b_sone (b_ret (b_tup (b_cons b_str (b_cons b_int (b_cons b_int (b_cons (b_tup (b_cons b_str (b_cons (b_tup (b_cons b_str (b_cons b_int (b_cons (b_op op_addU so_add b_int (b_call (ok__law_draw T) hG (hr.mono (by decide)) tk (by rfl) T.d__law_draw.gl T.d__law_draw.fn.kp T.d__law_draw.bd (b_cons (b_var 0 (pv 0)) (b_cons b_int b_nil)))) (b_cons (b_tup (b_cons (b_var 3 (pv 3)) (b_cons (b_var 4 (pv 4)) (b_cons (b_tup (b_cons b_str (b_cons b_int (b_cons b_int (b_cons (b_tup (b_cons b_str b_nil)) b_nil))))) b_nil)))) b_nil))))) b_nil))) b_nil)))))))))))))
theorem ok__law_odd (T : Txt K mg cl ad ca tkC fdv) : FnG P w K mg base 3 (ad 33) (fdv 33) ["hand", "thing"] (spM K cl 2 m__law_odd) :=
  fg_def (N := N__law_odd) (mb := mb__law_odd) T.d__law_odd.fn sc__law_odd fun cdv A outer s H E hG hr tk =>
    (b_sseq (b_par (i := 2) (j := 3) rfl sc__law_odd.nd rfl rfl (by decide) rfl rfl (b_cons (b_call (ok__law_draw T) hG (hr.mono (by decide)) tk (by rfl) T.d__law_draw.gl T.d__law_draw.fn.kp T.d__law_draw.bd (b_cons (b_var 0 (pv 0)) (b_cons b_int b_nil))) (b_cons (b_op op_subU so_sub (b_call (ok__law_draw T) hG (hr.mono (by decide)) tk (by rfl) T.d__law_draw.gl T.d__law_draw.fn.kp T.d__law_draw.bd (b_cons (b_var 0 (pv 0)) (b_cons b_int b_nil))) b_int) b_nil)) (fun _ _ _ => trivial) (fun _ _ _ => trivial) (by rfl)) (b_sseq (b_ifS (b_tcmp (op_eqU (hu_64 hr)) so_eq (b_var 2 (pv 2)) b_int (nomark _)) (b_sseq (b_set (i := 4) sc__law_odd.nd rfl (by first | exact .inl rfl | exact .inr rfl) (b_ofL (b_lst (b_cons (b_ofL (b_calTL call_list_of so_list (by rfl) T.n_list (by decide +kernel) (b_cons (b_var 1 (pv 1)) b_nil))) (b_cons (b_sl (b_var 1 (pv 1)) b_noP (b_part (b_neg b_int))) (b_cons (b_op op_addU so_add (b_var 1 (pv 1)) (b_tup (b_cons (b_tup (b_cons b_str b_nil)) b_nil))) (b_cons (b_tup (b_cons (b_var 1 (pv 1)) b_nil)) (b_cons (b_slS (st := -1) (by decide) (by decide) (b_var 1 (pv 1)) b_noP b_noP po_neg1) (b_cons (b_op op_mulU so_mul (b_sl (b_var 1 (pv 1)) b_noP (b_part b_int)) b_int) (b_cons (b_ofL (b_lst (b_cons b_str b_nil))) b_nil))))))))) (fun _ _ _ => trivial)) (b_sone (b_set (i := 4) sc__law_odd.nd rfl (by first | exact .inl rfl | exact .inr rfl) (b_op op_addU so_add (b_var 4 (pv 4)) (b_ofL (b_lst (b_cons (b_tup (b_cons b_str (b_cons b_str b_nil))) b_nil)))) (fun _ _ _ => trivial)))) (b_sone (b_ifS (b_tcmp (op_eqU (hu_64 hr)) so_eq (b_var 2 (pv 2)) b_int (nomark _)) (b_sone (b_set (i := 4) sc__law_odd.nd rfl (by first | exact .inl rfl | exact .inr rfl) (b_ofL (b_lst (b_cons b_non (b_cons b_str (b_cons b_str (b_cons b_int (b_cons b_bl (b_cons (b_tup b_nil) (b_cons (b_ofL (b_lst b_nil)) (b_cons b_dic0 b_nil)))))))))) (fun _ _ _ => trivial))) (b_sone (b_ifS (b_tcmp (op_eqU (hu_64 hr)) so_eq (b_var 2 (pv 2)) b_int (nomark _)) (b_sseq (b_set (i := 4) sc__law_odd.nd rfl (by first | exact .inl rfl | exact .inr rfl) (b_ofL (b_lst (b_cons (b_tup (b_cons b_str (b_cons b_str b_nil))) (b_cons (b_tup (b_cons b_str (b_cons b_str b_nil))) (b_cons (b_tup (b_cons b_str (b_cons b_str b_nil))) (b_cons (b_tup (b_cons b_str (b_cons b_str b_nil))) (b_cons (b_tup (b_cons b_str (b_cons b_int b_nil))) (b_cons (b_tup (b_cons b_str (b_cons b_non b_nil))) b_nil)))))))) (fun _ _ _ => trivial)) (b_sone (b_set (i := 4) sc__law_odd.nd rfl (by first | exact .inl rfl | exact .inr rfl) (b_op op_addU so_add (b_var 4 (pv 4)) (b_ofL (b_lst (b_cons (b_tup (b_cons b_str b_nil)) (b_cons (b_tup (b_cons b_str (b_cons b_str b_nil))) b_nil))))) (fun _ _ _ => trivial)))) (b_sone (b_ifS (b_tcmp (op_eqU (hu_64 hr)) so_eq (b_var 2 (pv 2)) b_int (nomark _)) (b_sseq (b_set (i := 4) sc__law_odd.nd rfl (by first | exact .inl rfl | exact .inr rfl) (b_ofL (b_lst (b_cons (b_tup (b_cons b_str (b_cons b_str (b_cons (b_op op_addU so_add (b_op op_powU so_pow b_int b_int) b_int) b_nil)))) (b_cons (b_tup (b_cons b_str (b_cons b_str (b_cons b_int b_nil)))) (b_cons (b_tup (b_cons b_str (b_cons b_str (b_cons b_bl b_nil)))) (b_cons (b_tup (b_cons b_str (b_cons b_str (b_cons b_str b_nil)))) b_nil)))))) (fun _ _ _ => trivial)) (b_sone (b_set (i := 4) sc__law_odd.nd rfl (by first | exact .inl rfl | exact .inr rfl) (b_op op_addU so_add (b_var 4 (pv 4)) (b_ofL (b_lst (b_cons (b_tup (b_cons b_str (b_cons b_int (b_cons b_str b_nil)))) (b_cons (b_tup (b_cons b_str (b_cons b_str (b_cons b_int b_nil)))) (b_cons (b_tup (b_cons b_str (b_cons b_str (b_cons (b_op op_subU so_sub (b_neg (b_op op_powU so_pow b_int b_int)) b_int) b_nil)))) (b_cons (b_tup (b_cons b_str (b_cons b_str (b_cons b_int b_nil)))) b_nil))))))) (fun _ _ _ => trivial)))) (b_sone (b_ifS (b_tcmp (op_eqU (hu_64 hr)) so_eq (b_var 2 (pv 2)) b_int (nomark _)) (b_sseq (b_set (i := 4) sc__law_odd.nd rfl (by first | exact .inl rfl | exact .inr rfl) (b_ofL (b_lst (b_cons (b_tup (b_cons b_str (b_cons (b_var 3 (pv 3)) (b_cons b_int (b_cons (b_var 1 (pv 1)) b_nil))))) (b_cons (b_tup (b_cons b_str (b_cons b_int (b_cons (b_var 3 (pv 3)) (b_cons (b_var 1 (pv 1)) b_nil))))) (b_cons (b_tup (b_cons b_str (b_cons b_int (b_cons (b_var 3 (pv 3)) (b_cons (b_var 1 (pv 1)) b_nil))))) b_nil))))) (fun _ _ _ => trivial)) (b_sseq (b_set (i := 4) sc__law_odd.nd rfl (by first | exact .inl rfl | exact .inr rfl) (b_op op_addU so_add (b_var 4 (pv 4)) (b_ofL (b_lst (b_cons (b_tup (b_cons b_str (b_cons b_bl (b_cons b_int (b_cons (b_var 1 (pv 1)) b_nil))))) (b_cons (b_tup (b_cons b_str (b_cons b_int (b_cons b_bl (b_cons (b_var 1 (pv 1)) b_nil))))) (b_cons (b_tup (b_cons b_str (b_cons b_int (b_cons (b_var 1 (pv 1)) b_nil)))) b_nil)))))) (fun _ _ _ => trivial)) (b_sone (b_set (i := 4) sc__law_odd.nd rfl (by first | exact .inl rfl | exact .inr rfl) (b_op op_addU so_add (b_var 4 (pv 4)) (b_ofL (b_lst (b_cons (b_tup (b_cons b_str (b_cons b_int (b_cons b_non (b_cons (b_var 1 (pv 1)) b_nil))))) (b_cons (b_tup (b_cons b_str (b_cons b_str (b_cons b_int (b_cons (b_var 1 (pv 1)) b_nil))))) b_nil))))) (fun _ _ _ => trivial))))) (b_sseq (b_set (i := 4) sc__law_odd.nd rfl (by first | exact .inl rfl | exact .inr rfl) (b_ofL (b_lst (b_cons (b_tup (b_cons b_str (b_cons (b_var 1 (pv 1)) b_nil))) (b_cons (b_tup (b_cons b_str (b_cons (b_var 1 (pv 1)) (b_cons (b_var 1 (pv 1)) (b_cons (b_var 1 (pv 1)) b_nil))))) (b_cons (b_tup (b_cons b_str (b_cons (b_var 1 (pv 1)) (b_cons (b_var 1 (pv 1)) b_nil)))) (b_cons (b_tup (b_cons b_str b_nil)) (b_cons (b_tup (b_cons b_str (b_cons (b_ofL (b_lst (b_cons (b_var 1 (pv 1)) b_nil))) b_nil))) b_nil))))))) (fun _ _ _ => trivial)) (b_sone (b_set (i := 4) sc__law_odd.nd rfl (by first | exact .inl rfl | exact .inr rfl) (b_op op_addU so_add (b_var 4 (pv 4)) (b_ofL (b_lst (b_cons (b_tup (b_cons b_str (b_cons (b_var 1 (pv 1)) (b_cons b_non b_nil)))) (b_cons (b_tup (b_cons (b_tup (b_cons b_str b_nil)) (b_cons (b_var 1 (pv 1)) b_nil))) (b_cons (b_tup (b_cons b_str (b_cons (b_var 1 (pv 1)) b_nil))) b_nil)))))) (fun _ _ _ => trivial))))))))))))) (b_sone (b_ret (b_ix ix_U so_ix (b_var 4 (pv 4)) (b_call (ok__law_draw T) hG (hr.mono (by decide)) tk (by rfl) T.d__law_draw.gl T.d__law_draw.fn.kp T.d__law_draw.bd (b_cons (b_var 0 (pv 0)) (b_cons b_int b_nil))) (fun _ _ => rfl))))))
theorem okr__law_bent (T : Txt K mg cl ad ca tkC fdv) : ∀ n : Nat, FnG P w K mg base (4 + n) (ad 34) (fdv 34) ["hand", "thing", "deep"] (spM K cl 3 (m__law_bent n))
  | 0 => FnG.none fun _ _ _ _ h => spM_stuck h
  | n + 1 => fg_def (N := N__law_bent) (mb := mb__law_bent (m__law_bent n)) T.d__law_bent.fn sc__law_bent fun cdv A outer s H E hG hr tk => by
    have IH : FnG P w K mg base (4 + n) (ad 34) (fdv 34) ["hand", "thing", "deep"] (spM K cl 3 (m__law_bent n)) := okr__law_bent T n
    have hr' := hr
    exact (b_sseq (b_set (i := 3) sc__law_bent.nd rfl (by first | exact .inl rfl | exact .inr rfl) (b_call (ok__law_parts T) hG (hr.mono (Nat.le_trans (by decide : 1 ≤ 4) (Nat.le_add_right 4 n))) tk (by rfl) T.d__law_parts.gl T.d__law_parts.fn.kp T.d__law_parts.bd (b_cons (b_var 1 (pv 1)) b_nil)) (fun _ _ _ => trivial)) (b_sseq (b_ifS (PW.pt (b_tor (b_tcmp (op_eqU (hu_64 hr)) so_eq (b_var 2 (pv 2)) b_int (nomark _)) (b_tor (b_tcmp (op_eqU (hu_64 hr)) so_eq (b_calB call_len so_len (by rfl) T.n_len (by decide +kernel) (b_cons (b_var 3 (pv 3)) b_nil)) b_int (nomark _)) (b_tor1 (b_tcmp (op_eqU (hu_64 hr)) so_eq (b_call (ok__law_draw T) hG (hr.mono (Nat.le_trans (by decide : 2 ≤ 4) (Nat.le_add_right 4 n))) tk (by rfl) T.d__law_draw.gl T.d__law_draw.fn.kp T.d__law_draw.bd (b_cons (b_var 0 (pv 0)) (b_cons b_int b_nil))) b_int (nomark _)))))) (b_sone (b_ret (b_call (ok__law_odd T) hG (hr.mono (Nat.le_trans (by decide : 3 ≤ 4) (Nat.le_add_right 4 n))) tk (by rfl) T.d__law_odd.gl T.d__law_odd.fn.kp T.d__law_odd.bd (b_cons (b_var 0 (pv 0)) (b_cons (b_var 1 (pv 1)) b_nil))))) b_snil) (b_sseq (b_set (i := 4) sc__law_bent.nd rfl (by first | exact .inl rfl | exact .inr rfl) (b_ix ix_U so_ix (b_var 3 (pv 3)) (b_call (ok__law_draw T) hG (hr.mono (Nat.le_trans (by decide : 2 ≤ 4) (Nat.le_add_right 4 n))) tk (by rfl) T.d__law_draw.gl T.d__law_draw.fn.kp T.d__law_draw.bd (b_cons (b_var 0 (pv 0)) (b_cons (b_calB call_len so_len (by rfl) T.n_len (by decide +kernel) (b_cons (b_var 3 (pv 3)) b_nil)) b_nil))) (fun _ _ => rfl)) (fun _ _ _ => trivial)) (b_sone (b_ret (b_op op_addU so_add (b_op op_addU so_add (b_sl (b_var 1 (pv 1)) b_noP (b_part (b_var 4 (pv 4)))) (b_tup (b_cons (b_call IH hG hr' tk (by rfl) T.d__law_bent.gl T.d__law_bent.fn.kp T.d__law_bent.bd (b_cons (b_var 0 (pv 0)) (b_cons (b_ix ix_U so_ix (b_var 1 (pv 1)) (b_var 4 (pv 4)) (fun _ _ => rfl)) (b_cons (b_op op_subU so_sub (b_var 2 (pv 2)) b_int) b_nil)))) b_nil))) (b_sl (b_var 1 (pv 1)) (b_part (b_op op_addU so_add (b_var 4 (pv 4)) b_int)) b_noP)))))))
theorem ok__law_bent (T : Txt K mg cl ad ca tkC fdv) : FnG P w K mg base 44 (ad 34) (fdv 34) ["hand", "thing", "deep"] (spM K cl 3 (m__law_bent 40)) := okr__law_bent T 40
theorem okr__law_back (T : Txt K mg cl ad ca tkC fdv) : ∀ n : Nat, FnG P w K mg base (2 + n) (ad 35) (fdv 35) ["thing"] (spM K cl 1 (m__law_back n))
  | 0 => FnG.none fun _ _ _ _ h => spM_stuck h
  | n + 1 => fg_def (N := N__law_back) (mb := mb__law_back (m__law_back n)) T.d__law_back.fn sc__law_back fun cdv A outer s H E hG hr tk => by
    have IH : FnG P w K mg base (2 + n) (ad 35) (fdv 35) ["thing"] (spM K cl 1 (m__law_back n)) := okr__law_back T n
    have hr' := hr
    exact (b_sseq (b_ifS (b_tcmp (op_eqU (hu_64 hr)) so_eq (b_ix ix_U so_ix (b_var 0 (pv 0)) b_int (fun _ _ => rfl)) b_str (nomark _)) (b_sone (b_ret (b_tup (b_cons b_str (b_cons (b_call IH hG hr' tk (by rfl) T.d__law_back.gl T.d__law_back.fn.kp T.d__law_back.bd (b_cons (b_ix ix_U so_ix (b_var 0 (pv 0)) b_int (fun _ _ => rfl)) b_nil)) (b_cons (b_call IH hG hr' tk (by rfl) T.d__law_back.gl T.d__law_back.fn.kp T.d__law_back.bd (b_cons (b_ix ix_U so_ix (b_var 0 (pv 0)) b_int (fun _ _ => rfl)) b_nil)) b_nil)))))) b_snil) (b_sseq (b_ifS (b_tcmp op_inU so_in (b_ix ix_U so_ix (b_var 0 (pv 0)) b_int (fun _ _ => rfl)) (b_ofL (b_lst (b_cons b_str (b_cons b_str b_nil)))) (by rfl)) (b_sone (b_ret (b_tup (b_cons (b_ix ix_U so_ix (b_ofL (b_lst (b_cons b_str (b_cons b_str b_nil)))) (b_calT call_int1 so_int (by rfl) T.n_int (by decide +kernel) (b_cons (b_cmp (op_eqU (hu_64 hr)) so_eq (b_ix ix_U so_ix (b_var 0 (pv 0)) b_int (fun _ _ => rfl)) b_str (nomark _)) b_nil)) (fun _ _ => rfl)) (b_cons (b_ix ix_U so_ix (b_var 0 (pv 0)) b_int (fun _ _ => rfl)) b_nil))))) b_snil) (b_sseq (b_for (passes_of rfl) rfl (b_iter (b_call (ok__law_parts T) hG (hr.mono (Nat.le_trans (by decide : 1 ≤ 2) (Nat.le_add_right 2 n))) tk (by rfl) T.d__law_parts.gl T.d__law_parts.fn.kp T.d__law_parts.bd (b_cons (b_var 0 (pv 0)) b_nil))) (pg_name (i := 1) sc__law_back.nd rfl (by first | exact .inl rfl | exact .inr rfl)) (so_gN 1 (fun _ _ _ => trivial)) (b_sone (b_set (i := 0) sc__law_back.nd rfl (by first | exact .inl rfl | exact .inr rfl) (b_op op_addU so_add (b_op op_addU so_add (b_sl (b_var 0 (pv 0)) b_noP (b_part (b_var 1 (pv 1)))) (b_tup (b_cons (b_call IH hG hr' tk (by rfl) T.d__law_back.gl T.d__law_back.fn.kp T.d__law_back.bd (b_cons (b_ix ix_U so_ix (b_var 0 (pv 0)) (b_var 1 (pv 1)) (fun _ _ => rfl)) b_nil)) b_nil))) (b_sl (b_var 0 (pv 0)) (b_part (b_op op_addU so_add (b_var 1 (pv 1)) b_int)) b_noP)) (fun _ _ _ => trivial)))) (b_sone (b_ret (b_var 0 (pv 0)))))))
theorem ok__law_back (T : Txt K mg cl ad ca tkC fdv) : FnG P w K mg base 42 (ad 35) (fdv 35) ["thing"] (spM K cl 1 (m__law_back 40)) := okr__law_back T 40
theorem ok__law_told (T : Txt K mg cl ad ca tkC fdv) : FnG P w K mg base 50 (ad 36) (fdv 36) ["which", "thing"] (spM K cl 2 m__law_told) :=
  fg_def (N := N__law_told) (mb := mb__law_told) T.d__law_told.fn sc__law_told fun cdv A outer s H E hG hr tk =>
    (b_sseq (b_try (i := 2) (sub := fun k => if k = 0 then some true else none) rfl rfl sc__law_told.nd rfl rfl ⟨rfl, by decide, .inl T.g_NoExpression⟩ tk (fun _ => trivial) (fun k b h => by by_cases z : k = 0 <;> simp only [z, if_true, if_false, ite_true, ite_false, reduceCtorEq, Option.some.injEq] at h; subst z; subst h; exact T.m_NoExpression_NoExpression) (fun W pn xe tk' hpo => (b_sone (b_ifS (b_tcmp (op_eqU (hu_64 hr)) so_eq (b_var 0 (pv 0)) b_int (nomark _)) (b_sone (b_set (i := 3) sc__law_told.nd rfl (by first | exact .inl rfl | exact .inr rfl) (b_tup (b_cons b_str (b_cons (b_call (ok_size T) hG (hr.mono (by decide)) tk' (by rfl) T.d_size.gl T.d_size.fn.kp T.d_size.bd (b_cons (b_var 1 (pv 1)) b_nil)) b_nil))) (fun _ _ _ => trivial))) (b_sone (b_set (i := 3) sc__law_told.nd rfl (by first | exact .inl rfl | exact .inr rfl) (b_tup (b_cons b_str (b_cons (b_call (ok_turned_expression T) hG (hr.mono (by decide)) tk' (by rfl) T.d_turned_expression.gl T.d_turned_expression.fn.kp T.d_turned_expression.bd (b_cons (b_var 1 (pv 1)) b_nil)) b_nil))) (fun _ _ _ => trivial)))))) (fun k h a oe pn hz hv => by by_cases z : k = 0 <;> simp only [z, if_true, if_false, ite_true, ite_false, reduceCtorEq] at h; subst z; exact b_sone (b_set (i := 3) sc__law_told.nd rfl (by first | exact .inl rfl | exact .inr rfl) (b_tup (b_cons b_str (b_cons (b_and (b_isE T.x_NoExpression hz hv (i := 2) rfl (by rfl) T.n_isinstance (pv 2) (pe_glob rfl T.g_StoreError rfl) T.s_NoExpression_StoreError) (b_one (b_not (b_isET T.x_NoExpression hz hv (i := 2) rfl (by rfl) T.n_isinstance (pv 2) (pe_glob rfl T.g_NoPath rfl) (pe_glob rfl T.g_BadSigns rfl) (kitAny_cons T.s_NoExpression_NoPath (fun _ => kitAny_cons T.s_NoExpression_BadSigns (fun _ => kitAny_nil) (fun z => by cases z)) (fun z => by cases z)))))) b_nil))) (pok_ws (by decide))))) (b_sone (b_ret (b_var 3 (pv 3)))))
theorem ok__law_is_right (T : Txt K mg cl ad ca tkC fdv) : FnG P w K mg base 54 (ad 37) (fdv 37) ["thing"] (spM K cl 1 m__law_is_right) :=
  fg_def (N := N__law_is_right) (mb := mb__law_is_right) T.d__law_is_right.fn sc__law_is_right fun cdv A outer s H E hG hr tk =>
    (b_sseq (b_set (i := 1) sc__law_is_right.nd rfl (by first | exact .inl rfl | exact .inr rfl) (b_call (ok__law_sizes T) hG (hr.mono (by decide)) tk (by rfl) T.d__law_sizes.gl T.d__law_sizes.fn.kp T.d__law_sizes.bd (b_cons (b_var 0 (pv 0)) b_nil)) (fun _ _ _ => trivial)) (b_sseq (b_set (i := 2) sc__law_is_right.nd rfl (by first | exact .inl rfl | exact .inr rfl) (b_calB (call_reprD hG (hu_200 hr)) so_repr (by rfl) T.n_repr (by decide +kernel) (b_cons (b_var 0 (pv 0)) b_nil)) (fun _ _ _ => trivial)) (b_sseq (b_set (i := 3) sc__law_is_right.nd rfl (by first | exact .inl rfl | exact .inr rfl) (b_and (b_notN (b_var 1 (pv 1))) (b_and (b_cmp op_leU so_le (b_ix ix_U so_ix (b_var 1 (pv 1)) b_int (fun _ _ => rfl)) b_int (nomark _)) (b_one (b_cmp op_leU so_le (b_ix ix_U so_ix (b_var 1 (pv 1)) b_int (fun _ _ => rfl)) b_int (nomark _))))) (fun _ _ _ => trivial)) (b_sseq (b_ifS (PW.pt (b_tor (b_tnot (b_test (b_call (ok__law_is T) hG (hr.mono (by decide)) tk (by rfl) T.d__law_is.gl T.d__law_is.fn.kp T.d__law_is.bd (b_cons (b_call (ok_is_expression T) hG (hr.mono (by decide)) tk (by rfl) T.d_is_expression.gl T.d_is_expression.fn.kp T.d_is_expression.bd (b_cons (b_var 0 (pv 0)) b_nil)) (b_cons (b_var 3 (pv 3)) b_nil))))) (b_tor1 (b_tcmp (op_neU (hu_64 hr)) so_ne (b_calB (call_reprD hG (hu_200 hr)) so_repr (by rfl) T.n_repr (by decide +kernel) (b_cons (b_var 0 (pv 0)) b_nil)) (b_var 2 (pv 2)) (nomark _))))) (b_sone (b_ret b_bl)) b_snil) (b_sseq (b_ifS (b_tnot (b_test (b_var 3 (pv 3)))) (b_sone (b_ret (b_and (b_cmp (op_eqU (hu_64 hr)) so_eq (b_call (ok__law_told T) hG (hr.mono (by decide)) tk (by rfl) T.d__law_told.gl T.d__law_told.fn.kp T.d__law_told.bd (b_cons b_int (b_cons (b_var 0 (pv 0)) b_nil))) (b_tup (b_cons b_str (b_cons b_bl b_nil))) (nomark _)) (b_one (b_cmp (op_eqU (hu_64 hr)) so_eq (b_call (ok__law_told T) hG (hr.mono (by decide)) tk (by rfl) T.d__law_told.gl T.d__law_told.fn.kp T.d__law_told.bd (b_cons b_int (b_cons (b_var 0 (pv 0)) b_nil))) (b_tup (b_cons b_str (b_cons b_bl b_nil))) (nomark _)))))) b_snil) (b_sseq (b_set (i := 4) sc__law_is_right.nd rfl (by first | exact .inl rfl | exact .inr rfl) (b_call (ok__law_told T) hG (hr.mono (by decide)) tk (by rfl) T.d__law_told.gl T.d__law_told.fn.kp T.d__law_told.bd (b_cons b_int (b_cons (b_var 0 (pv 0)) b_nil))) (fun _ _ _ => trivial)) (b_sseq (b_ifS (PW.pt (b_tor (b_tcmp (op_neU (hu_64 hr)) so_ne (b_var 4 (pv 4)) (b_tup (b_cons b_str (b_cons (b_ix ix_U so_ix (b_var 1 (pv 1)) b_int (fun _ _ => rfl)) b_nil))) (nomark _)) (b_tor1 (b_test (b_is (by rfl) T.n_isinstance (b_ix ix_U so_ix (b_var 4 (pv 4)) b_int (fun _ _ => rfl)) (pe_bltn (by rfl) T.n_bool (by decide +kernel) rfl)))))) (b_sone (b_ret b_bl)) b_snil) (b_sseq (b_set (i := 5) sc__law_is_right.nd rfl (by first | exact .inl rfl | exact .inr rfl) (b_call (ok__law_told T) hG (hr.mono (by decide)) tk (by rfl) T.d__law_told.gl T.d__law_told.fn.kp T.d__law_told.bd (b_cons b_int (b_cons (b_var 0 (pv 0)) b_nil))) (fun _ _ _ => trivial)) (b_sseq (b_ifS (PW.pt (b_tor (b_tcmp (op_neU (hu_64 hr)) so_ne (b_var 5 (pv 5)) (b_tup (b_cons b_str (b_cons (b_call (ok__law_back T) hG (hr.mono (by decide)) tk (by rfl) T.d__law_back.gl T.d__law_back.fn.kp T.d__law_back.bd (b_cons (b_var 0 (pv 0)) b_nil)) b_nil))) (nomark _)) (b_tor1 (b_tcmp (op_neU (hu_64 hr)) so_ne (b_calB (call_reprD hG (hu_200 hr)) so_repr (by rfl) T.n_repr (by decide +kernel) (b_cons (b_ix ix_U so_ix (b_var 5 (pv 5)) b_int (fun _ _ => rfl)) b_nil)) (b_calB (call_reprD hG (hu_200 hr)) so_repr (by rfl) T.n_repr (by decide +kernel) (b_cons (b_call (ok__law_back T) hG (hr.mono (by decide)) tk (by rfl) T.d__law_back.gl T.d__law_back.fn.kp T.d__law_back.bd (b_cons (b_var 0 (pv 0)) b_nil)) b_nil)) (nomark _))))) (b_sone (b_ret b_bl)) b_snil) (b_sone (b_ret (b_and (b_cmp (op_eqU (hu_64 hr)) so_eq (b_call (ok__law_told T) hG (hr.mono (by decide)) tk (by rfl) T.d__law_told.gl T.d__law_told.fn.kp T.d__law_told.bd (b_cons b_int (b_cons (b_ix ix_U so_ix (b_var 5 (pv 5)) b_int (fun _ _ => rfl)) b_nil))) (b_tup (b_cons b_str (b_cons (b_var 0 (pv 0)) b_nil))) (nomark _)) (b_one (b_cmp (op_eqU (hu_64 hr)) so_eq (b_calB (call_reprD hG (hu_200 hr)) so_repr (by rfl) T.n_repr (by decide +kernel) (b_cons (b_var 0 (pv 0)) b_nil)) (b_var 2 (pv 2)) (nomark _)))))))))))))))
theorem ok_law (T : Txt K mg cl ad ca tkC fdv) : FnG P w K mg base 55 (ad 38) (fdv 38) ["script"] (spM K cl 1 m_law) :=
  fg_def (N := N_law) (mb := mb_law) T.d_law.fn sc_law fun cdv A outer s H E hG hr tk =>
    (b_sseq (b_set (i := 1) sc_law.nd rfl (by first | exact .inl rfl | exact .inr rfl) (b_call (ok__law_hand T) hG (hr.mono (by decide)) tk (by rfl) T.d__law_hand.gl T.d__law_hand.fn.kp T.d__law_hand.bd (b_cons (b_var 0 (pv 0)) b_nil)) (fun _ _ _ => trivial)) (b_sseq (b_par (i := 3) (j := 4) rfl sc_law.nd rfl rfl (by decide) rfl rfl (b_cons (b_call (ok__law_words T) hG (hr.mono (by decide)) tk (by rfl) T.d__law_words.gl T.d__law_words.fn.kp T.d__law_words.bd (b_cons (b_var 1 (pv 1)) b_nil)) (b_cons (b_call (ok__law_worths T) hG (hr.mono (by decide)) tk (by rfl) T.d__law_worths.gl T.d__law_worths.fn.kp T.d__law_worths.bd (b_cons (b_var 1 (pv 1)) b_nil)) b_nil)) (fun _ _ _ => trivial) (fun _ _ _ => trivial) (by rfl)) (b_sseq (b_for (passes_of rfl) rfl (b_rng1 (by rfl) T.n_range (b_cons b_int b_nil)) (pg_name (i := 2) sc_law.nd rfl (by first | exact .inl rfl | exact .inr rfl)) (so_gN 2 (fun _ _ _ => trivial)) (b_sseq (b_set (i := 5) sc_law.nd rfl (by first | exact .inl rfl | exact .inr rfl) (b_call (ok__law_expression T) hG (hr.mono (by decide)) tk (by rfl) T.d__law_expression.gl T.d__law_expression.fn.kp T.d__law_expression.bd (b_cons (b_var 1 (pv 1)) (b_cons (b_var 3 (pv 3)) (b_cons (b_var 4 (pv 4)) (b_cons (b_ix ix_U so_ix (b_ofL (b_lst (b_cons b_int (b_cons b_int (b_cons b_int (b_cons b_int (b_cons b_int b_nil))))))) (b_call (ok__law_draw T) hG (hr.mono (by decide)) tk (by rfl) T.d__law_draw.gl T.d__law_draw.fn.kp T.d__law_draw.bd (b_cons (b_var 1 (pv 1)) (b_cons b_int b_nil))) (fun _ _ => rfl)) (b_cons (b_op op_addU so_add b_int (b_call (ok__law_draw T) hG (hr.mono (by decide)) tk (by rfl) T.d__law_draw.gl T.d__law_draw.fn.kp T.d__law_draw.bd (b_cons (b_var 1 (pv 1)) (b_cons b_int b_nil)))) b_nil)))))) (fun _ _ _ => trivial)) (b_sseq (b_ifS (b_tcmp (op_eqU (hu_64 hr)) so_eq (b_call (ok__law_draw T) hG (hr.mono (by decide)) tk (by rfl) T.d__law_draw.gl T.d__law_draw.fn.kp T.d__law_draw.bd (b_cons (b_var 1 (pv 1)) (b_cons b_int b_nil))) b_int (nomark _)) (b_sone (b_set (i := 5) sc_law.nd rfl (by first | exact .inl rfl | exact .inr rfl) (b_call (ok__law_at_bounds T) hG (hr.mono (by decide)) tk (by rfl) T.d__law_at_bounds.gl T.d__law_at_bounds.fn.kp T.d__law_at_bounds.bd (b_cons (b_var 1 (pv 1)) (b_cons (b_call (ok__law_atom T) hG (hr.mono (by decide)) tk (by rfl) T.d__law_atom.gl T.d__law_atom.fn.kp T.d__law_atom.bd (b_cons (b_var 1 (pv 1)) (b_cons (b_var 3 (pv 3)) (b_cons (b_var 4 (pv 4)) b_nil)))) b_nil))) (fun _ _ _ => trivial))) b_snil) (b_sseq (b_ifS (b_tnot (b_test (b_call (ok__law_is_right T) hG (hr.mono (by decide)) tk (by rfl) T.d__law_is_right.gl T.d__law_is_right.fn.kp T.d__law_is_right.bd (b_cons (b_var 5 (pv 5)) b_nil)))) (b_sone (b_ret b_bl)) b_snil) (b_sone (b_for (passes_of rfl) rfl (b_rng1 (by rfl) T.n_range (b_cons b_int b_nil)) (pg_name (i := 6) sc_law.nd rfl (by first | exact .inl rfl | exact .inr rfl)) (so_gN 6 (fun _ _ _ => trivial)) (b_sone (b_ifS (b_tnot (b_test (b_call (ok__law_is_right T) hG (hr.mono (by decide)) tk (by rfl) T.d__law_is_right.gl T.d__law_is_right.fn.kp T.d__law_is_right.bd (b_cons (b_call (ok__law_bent T) hG (hr.mono (by decide)) tk (by rfl) T.d__law_bent.gl T.d__law_bent.fn.kp T.d__law_bent.bd (b_cons (b_var 1 (pv 1)) (b_cons (b_var 5 (pv 5)) (b_cons (b_call (ok__law_draw T) hG (hr.mono (by decide)) tk (by rfl) T.d__law_draw.gl T.d__law_draw.fn.kp T.d__law_draw.bd (b_cons (b_var 1 (pv 1)) (b_cons b_int b_nil))) b_nil)))) b_nil)))) (b_sone (b_ret b_bl)) b_snil)))))))) (b_sone (b_ret b_bl)))))
end
end K63

set_option Elab.async false
set_option linter.all false
set_option maxRecDepth 100000
set_option maxHeartbeats 2000000
namespace K63
open PySem L2 Sm
local macro_rules | `(tactic| walk_at "sm") => `(tactic| simp only [mDef, outF, mRet, mRetN, rF_ok, rF, mSeq, mIfS, mVar, mC, mOp2, dat2, tst2, rdt2, rd2, not2, getW, bind_ok, mAnd, mOr, mNot, mT, tAndM, tOrM, tNotM, mIf, mChain, mUn, mCal, mCons, mNil, mIs,
  mIsNo, isNoW, mTup, mLst, mOfL, datsW, fLen, fAll, lenD, ofO_some, lenW1, lenW2, lenW3, lenW4, lenW5, negD, mSet, mPass, mPart, mNoP, mSl, slW, slD, mIter, itW, itemsI, id_eq,
  List.length_cons, List.length_nil, List.map_cons, List.map_nil, List.cons_append, List.nil_append, List.getElem?_cons_zero, List.getElem?_cons_succ, List.replicate, Nat.sub_self, List.append_nil, List.set_cons_zero, List.set_cons_succ,
  if_true, if_false, ite_true, ite_false, Bool.false_eq_true, reduceCtorEq, Option.map_some, is_int, is_bool, is_str, is_tuple, Nat.zero_add, Nat.reduceAdd, Nat.reduceSub])
/-- an int that is no bool -/
def intD : PyData → Bool
  | .int _ => true
  | _ => false
theorem ev_is_integer (d : PyData) (S : SS) : m_is_integer [.dat d] S = .ok (.dat (.bool (intD d))) S := by
  unfold m_is_integer mb_is_integer
  cases d <;> walk_at "sm" <;> simp [isT, intD]
def withinD (d : PyData) (a b : Int) : Bool := match d with
  | .int i => decide (a ≤ i) && decide (i ≤ b)
  | _ => false
theorem ev_is_within (d : PyData) (a b : Int) (S : SS) : m_is_within [.dat d, .dat (.int a), .dat (.int b)] S = .ok (.dat (.bool (withinD d a b))) S := by
  unfold m_is_within mb_is_within
  walk_at "sm"
  rw [ev_is_integer]
  cases d <;> simp only [bind_ok, intD, withinD]
  rename_i i
  simp only [leD, ofO_some, bind_ok]
  by_cases h : a ≤ i <;> simp [h, outF]
theorem ev_is_worth (d : PyData) (S : SS) : m_is_worth [.dat d] S = .ok (.dat (.bool (withinD d (-1000000000000000000) 1000000000000000000))) S := by
  unfold m_is_worth mb_is_worth
  walk_at "sm"
  rw [ev_is_within]
/-- a letter from a to z -/
def lowC (c : Nat) : Bool := decide (c ∈ ("abcdefghijklmnopqrstuvwxyz" : Str).cps.toList)
def lettersD (d : PyData) (n : Int) : Bool := match d with
  | .str x => ((x.length : Int) == n) && x.cps.toList.all lowC
  | _ => false
/-- strings are short -/
def shortD (d : PyData) : Prop := match d with
  | .str x => x.length ≤ 1000
  | _ => True
theorem len_cps (x : Str) : x.cps.toList.length = x.length := by
  show x.cps.toList.length = x.cps.size
  rw [Array.length_toList]
theorem sz_of {n : Nat} (h : n ≤ 100000) : n ≤ sizeLine := Nat.le_trans h (by decide)
theorem in_low (c : Nat) : inD (.str ⟨#[c]⟩) (.str "abcdefghijklmnopqrstuvwxyz") = some (lowC c) := rfl
theorem lc_letters {x : Str} (h : x.length ≤ 1000) (ρ : En) (i : Nat) (mi : MI) (S : SS) (hi : mi ρ S = .ok (signsD x) S) (hl : i < ρ.length) :
    mLc mi (gN i) mYes (mOp2 (rdt2 inD) (mVar i) (mC (.str "abcdefghijklmnopqrstuvwxyz"))) [i] ρ S = .ok (x.cps.toList.map fun c => .bool (lowC c)) S := by
  have e : (signsD x).map (fun d => match d with | .str y => PyData.bool (lowC (y.cps.toList.headD 0)) | _ => .none) = x.cps.toList.map fun c => .bool (lowC c) := by
    unfold signsD
    rw [List.map_map]
    rfl
  rw [← e]
  refine lc_map _ hi (fun d hd => ?_) (sz_of (by unfold signsD; rw [List.length_map, len_cps]; omega))
  obtain ⟨c, _, rfl⟩ := List.mem_map.mp hd
  refine turn_one (ρ' := (wipeE ρ [i]).set i (some (.dat (.str ⟨#[c]⟩)))) rfl ?_
  have hv : mVar i ((wipeE ρ [i]).set i (some (.dat (.str ⟨#[c]⟩)))) S = .ok (.dat (.str ⟨#[c]⟩)) S := by
    unfold mVar
    rw [List.getElem?_set_self (by simp [wipeE, hl])]
  unfold mOp2
  rw [hv]
  simp only [bind_ok, mC, rdt2, getW, in_low, ofO_some]
  rfl
theorem all_low (x : Str) : boolsD (x.cps.toList.map fun c => .bool (lowC c)) = some (x.cps.toList.map lowC) := by
  generalize x.cps.toList = l
  induction l with
  | nil => rfl
  | cons c l ih =>
    show (boolsD (l.map fun c => .bool (lowC c))).map (lowC c :: ·) = _
    rw [ih]
    rfl
theorem all_id (l : List Nat) : (l.map lowC).all id = l.all lowC := by
  induction l with
  | nil => rfl
  | cons c l ih => rw [List.map_cons, List.all_cons, List.all_cons, ih]; rfl
theorem ev_are_letters (d : PyData) (n : Int) (S : SS) (h : shortD d) : m_are_letters [.dat d, .dat (.int n)] S = .ok (.dat (.bool (lettersD d n))) S := by
  unfold m_are_letters mb_are_letters
  cases d with
  | str x =>
    have hx : x.length ≤ 1000 := h
    have e := lc_letters hx [some (.dat (.str x)), some (.dat (.int n)), none] 2 (mIter (mVar 0)) S rfl (by simp)
    walk_at "sm"
    simp only [isT, beq_self_eq_true, sz_of (Nat.le_trans hx (by decide : (1000 : Nat) ≤ 100000)), if_true, ofO_some, bind_ok, eqD, scalD, PyData.eqv]
    cases hb : ((x.length : Int) == n) with
    | false => simp only [outF, lettersD, hb, Bool.false_and]
    | true =>
      dsimp only
      rw [e]
      simp only [bind_ok, fAll, all_low, ofO_some, all_id, outF, lettersD, hb, Bool.true_and]
  | _ => walk_at "sm" <;> simp [isT, lettersD]
theorem ev_is_word (d : PyData) (S : SS) (h : shortD d) : m_is_word [.dat d] S = .ok (.dat (.bool (lettersD d 2))) S := by
  unfold m_is_word mb_is_word
  walk_at "sm"
  rw [ev_are_letters _ _ _ h]
theorem ev_law_is_whole (d : PyData) (a b : Int) (S : SS) : m__law_is_whole [.dat d, .dat (.int a), .dat (.int b)] S = .ok (.dat (.bool (withinD d a b))) S := by
  unfold m__law_is_whole mb__law_is_whole
  walk_at "sm"
  cases d <;> simp only [isT, leD, ofO_some, bind_ok, outF, withinD, beq_self_eq_true, Bool.or_true, Bool.not_true, Bool.not_false, Bool.or_false, String.reduceBEq, Bool.false_or]
  rename_i i
  by_cases h : a ≤ i <;> simp [h, outF]
theorem ev_law_is_word (d : PyData) (S : SS) (h : shortD d) : m__law_is_word [.dat d] S = .ok (.dat (.bool (lettersD d 2))) S := by
  unfold m__law_is_word mb__law_is_word
  cases d with
  | str x =>
    have hx : x.length ≤ 1000 := h
    have e := lc_letters hx [some (.dat (.str x)), none] 1 (mIter (mVar 0)) S rfl (by simp)
    walk_at "sm"
    simp only [isT, beq_self_eq_true, sz_of (Nat.le_trans hx (by decide : (1000 : Nat) ≤ 100000)), if_true, ofO_some, bind_ok, eqD, scalD, PyData.eqv, Bool.not_true, rF_ok, Bool.false_eq_true, if_false]
    cases hb : ((x.length : Int) == 2) with
    | false => simp [outF, lettersD, hb, rF_ok]
    | true =>
      simp only [Bool.not_true, rF_ok, Bool.false_eq_true, if_false]
      rw [e]
      simp only [bind_ok, fAll, all_low, ofO_some, all_id, outF, lettersD, hb, Bool.true_and]
  | _ => walk_at "sm" <;> simp [isT, lettersD, rF_ok, outF]
/-! ### heads -/
theorem atI_cast {α : Type} (xs : List α) (n : Nat) : L2.atI xs (n : Int) = xs[n]? := by
  unfold L2.atI ixN
  rw [if_pos (Int.natCast_nonneg n)]
  by_cases h : n < xs.length
  · rw [if_pos (by omega)]
    show xs[(n : Int).toNat]? = _
    rw [Int.toNat_natCast]
  · rw [if_neg (by omega), List.getElem?_eq_none (Nat.not_lt.mp h)]
    rfl
theorem ixt0 (xs : List PyData) : ixD (.tuple xs) (.int 0) = xs[0]? := atI_cast xs 0
theorem ixt1 (xs : List PyData) : ixD (.tuple xs) (.int 1) = xs[1]? := atI_cast xs 1
theorem ixt2 (xs : List PyData) : ixD (.tuple xs) (.int 2) = xs[2]? := atI_cast xs 2
theorem ixt3 (xs : List PyData) : ixD (.tuple xs) (.int 3) = xs[3]? := atI_cast xs 3
theorem ixl0 (xs : List PyData) : ixD (.list xs) (.int 0) = xs[0]? := atI_cast xs 0
theorem ixl1 (xs : List PyData) : ixD (.list xs) (.int 1) = xs[1]? := atI_cast xs 1
theorem in2 (w a b : Str) : inD (.str w) (.tuple [.str a, .str b]) = some (a == w || b == w) := by simp [inD, flatD, PyData.eqv]
theorem in3 (w a b c : Str) : inD (.str w) (.tuple [.str a, .str b, .str c]) = some (a == w || (b == w || c == w)) := by simp [inD, flatD, PyData.eqv]
theorem in2L (w a b : Str) : inD (.str w) (.list [.str a, .str b]) = some (a == w || b == w) := by simp [inD, flatD, PyData.eqv]
theorem in3L (w a b c : Str) : inD (.str w) (.list [.str a, .str b, .str c]) = some (a == w || (b == w || c == w)) := by simp [inD, flatD, PyData.eqv]
theorem eqss (a b : Str) : eqD (.str a) (.str b) = some (a == b) := by simp [eqD, scalD, PyData.eqv]
theorem eqii (a b : Int) : eqD (.int a) (.int b) = some (a == b) := by simp [eqD, scalD, PyData.eqv]
theorem big {α : Type} (a b c d : α) (t : List α) (k : Int) (h : k ≤ 4) : ((((a :: b :: c :: d :: t).length + 1 : Nat) : Int) == k) = false := by
  rw [beq_eq_false_iff_ne]
  intro e
  simp only [List.length_cons] at e
  omega
/-- the shapes of the rest of a tuple -/
inductive Shp : List PyData → Prop
  | z : Shp []
  | a (a) : Shp [a]
  | b (a b) : Shp [a, b]
  | c (a b c) : Shp [a, b, c]
  | d (a b c d t) : Shp (a :: b :: c :: d :: t)
theorem shp : ∀ r : List PyData, Shp r
  | [] => .z
  | [a] => .a a
  | [a, b] => .b a b
  | [a, b, c] => .c a b c
  | a :: b :: c :: d :: t => .d a b c d t
def r0 (r : List PyData) : PyData := r.getD 0 .none
def r1 (r : List PyData) : PyData := r.getD 1 .none
def r2 (r : List PyData) : PyData := r.getD 2 .none
def signB (d : PyData) : Bool := match d with
  | .str s => "<" == s || ("=" == s || ">" == s)
  | _ => false
def worthB (d : PyData) : Bool := withinD d (-1000000000000000000) 1000000000000000000
def strB (d : PyData) : Bool := match d with
  | .str _ => true
  | _ => false
def intOf (d : PyData) : Int := match d with
  | .int i => i
  | _ => 0
def kAH (w : Str) : Bool := "any" == w || "here" == w
def kWB (w : Str) : Bool := "word" == w || "back" == w
def kTO (w : Str) : Bool := "then" == w || "or" == w
def kSPM (w : Str) : Bool := "star" == w || ("plus" == w || "maybe" == w)
def kN (w : Str) : Bool := w == "node"
def kT (w : Str) : Bool := w == "times"
def atomB (w : Str) (r : List PyData) : Bool :=
  if kAH w then r.length == 0
  else if kWB w then r.length == 1 && lettersD (r0 r) 2
  else r.length == 2 && (kN w && (signB (r0 r) && worthB (r1 r)))
theorem bigt {α : Type} (t : List α) (k : Int) (h : k ≤ 4) : (((t.length + 1 + 1 + 1 + 1 + 1 : Nat) : Int) == k) = false := by
  rw [beq_eq_false_iff_ne]
  omega
theorem bigc {α : Type} (t : List α) (k : Int) (h : k ≤ 4) : (((t.length : Int) + 1 + 1 + 1 + 1 + 1) == k) = false := by
  rw [beq_eq_false_iff_ne]
  omega
theorem gtii (a b : Int) : gtD (.int a) (.int b) = some (decide (b < a)) := rfl
local macro_rules | `(tactic| walk_at "ev") => `(tactic| simp only [mDef, outF, mRet, mRetN, rF_ok, rF, mSeq, mIfS, mVar, mC, mOp2, dat2, tst2, rdt2, rd2, not2, getW, bind_ok, mAnd, mOr, mNot, mT, tAndM, tOrM, tNotM, mIf, mChain, mUn, mCal, mCons, mNil, mIs,
  mIsNo, isNoW, mTup, mLst, mOfL, datsW, fLen, fAll, lenD, ofO_some, lenW1, lenW2, lenW3, lenW4, lenW5, negD, mSet, mPass, mPart, mNoP, mSl, slW, slD, mIter, itW, itemsI, id_eq,
  List.length_cons, List.length_nil, List.map_cons, List.map_nil, List.cons_append, List.nil_append, List.getElem?_cons_zero, List.getElem?_cons_succ, List.replicate, Nat.sub_self, List.append_nil, List.set_cons_zero, List.set_cons_succ,
  if_true, if_false, ite_true, ite_false, Bool.false_eq_true, reduceCtorEq, Option.map_some, is_int, is_bool, is_str, is_tuple, Nat.zero_add, Nat.reduceAdd, Nat.reduceSub,
  isT, gtii, eqss, eqii, ixt0, ixt1, ixt2, ixt3, ixl0, ixl1, in2, in3, in2L, in3L, beq_self_eq_true, Bool.not_true, Bool.not_false, Bool.or_true, Bool.or_false, Bool.true_or, Bool.false_or, Bool.and_true, Bool.and_false, Bool.true_and, Bool.false_and, *])
local macro_rules | `(tactic| walk_at "fin") => `(tactic| simp [bind_ok, rF_ok, ofO_some, outF, isT, gtii, is_str, eqss, eqii, ixt0, ixt1, ixt2, ixt3, kN, kT, kAH, kWB, kTO, kSPM, r0, r1, r2, strB, bigt, bigc, rF, bind_exc, lenW1, lenW2, lenW3, mSeq, mOfL, mLst, mCal, mCons, mNil, mVar, mC, mOp2, rd2, getW, datsW, fMax2, fLen, lenD, mIf, mT, mRet, sizeLine, *])
theorem ev_is_kind (d : PyData) (S : SS) : m_is_kind [.dat d] S = .ok (.dat (.bool (match d with | .tuple (.str _ :: _) => true | _ => false))) S := by
  unfold m_is_kind mb_is_kind
  cases d with
  | tuple xs =>
    cases xs with
    | nil => walk_at "sm"; walk_at "fin"
    | cons a r =>
      walk_at "sm"
      simp only [isT, beq_self_eq_true, gtii, ofO_some, bind_ok, ixt0, List.getElem?_cons_zero, is_str]
      rw [show decide ((0 : Int) < ((r.length + 1 : Nat) : Int)) = true from decide_eq_true (by omega)]
      cases a <;> walk_at "fin"
  | _ => walk_at "sm" <;> walk_at "fin"
theorem ev_is_sign (w : Str) (r : List PyData) (S : SS) : m_is_sign [.dat (.tuple (.str w :: r))] S = .ok (.dat (.bool (!kN w || (!(r.length == 2) || strB (r0 r))))) S := by
  unfold m_is_sign mb_is_sign
  walk_at "sm"
  simp only [ixt0, ixt1, List.getElem?_cons_zero, List.getElem?_cons_succ, ofO_some, bind_ok, eqss, eqii]
  cases hk : (w == "node") with
  | false => walk_at "fin"
  | true =>
    cases shp r with
    | b a b => cases a <;> walk_at "fin"
    | _ => walk_at "fin"
/-- what an expression's node needs to be read without harm -/
def plainR (r : List PyData) : Prop := ∀ d ∈ r, shortD d
theorem sh0 {a : PyData} {r : List PyData} (h : plainR (a :: r)) : shortD a := h a List.mem_cons_self
theorem signs {a : PyData} (h : strB a = true) : inD a (.tuple [.str "<", .str "=", .str ">"]) = some (signB a) := by
  cases a <;> first | exact absurd h Bool.false_ne_true | skip
  rw [in3]
  rfl
theorem ev_is_atom (w : Str) (r : List PyData) (S : SS) (h : plainR r) (hs : kN w = true → r.length = 2 → strB (r0 r) = true) : m_is_atom [.dat (.tuple (.str w :: r))] S = .ok (.dat (.bool (atomB w r))) S := by
  unfold m_is_atom mb_is_atom atomB
  cases h1 : kAH w with
  | true =>
    have h1' : ("any" == w || "here" == w) = true := h1
    walk_at "ev"
    cases shp r <;> walk_at "fin"
  | false =>
    have h1' : ("any" == w || "here" == w) = false := h1
    cases h2 : kWB w with
    | true =>
      have h2' : ("word" == w || "back" == w) = true := h2
      walk_at "ev"
      cases shp r with
      | a a => have := ev_is_word a S (sh0 h); walk_at "fin"
      | _ => walk_at "fin"
    | false =>
      have h2' : ("word" == w || "back" == w) = false := h2
      cases h3 : (w == "node") with
      | false => walk_at "ev"; cases shp r <;> walk_at "fin"
      | true =>
        cases shp r with
        | b a b =>
          have e' : inD a (.tuple [.str "<", .str "=", .str ">"]) = some (signB a) := signs (hs h3 rfl)
          have e2 := ev_is_worth b S
          walk_at "ev"
          cases hq : signB a <;> walk_at "fin"
          rfl
        | _ => walk_at "ev"; walk_at "fin"
end K63

set_option Elab.async false
set_option linter.all false
set_option maxRecDepth 100000
set_option maxHeartbeats 2000000
namespace K63
open PySem L2 Sm
theorem bg1 {α : Type} (t : List α) : (((t.length + 1 + 1 + 1 + 1 + 1 : Nat) : Int) == 1) = false := bigt t _ (by decide)
theorem bg2 {α : Type} (t : List α) : (((t.length + 1 + 1 + 1 + 1 + 1 : Nat) : Int) == 2) = false := bigt t _ (by decide)
theorem bg3 {α : Type} (t : List α) : (((t.length + 1 + 1 + 1 + 1 + 1 : Nat) : Int) == 3) = false := bigt t _ (by decide)
theorem bg4 {α : Type} (t : List α) : (((t.length + 1 + 1 + 1 + 1 + 1 : Nat) : Int) == 4) = false := bigt t _ (by decide)
theorem nI1 : inD .none (.list [.none]) = some true := by simp [inD, flatD, PyData.eqv]
theorem nI2 (a : Int) : inD .none (.list [.int a]) = some false := by simp [inD, flatD, PyData.eqv]
theorem nI3 (a b : Int) : inD .none (.list [.int a, .int b]) = some false := by simp [inD, flatD, PyData.eqv]
theorem nI4 (a : Int) : inD .none (.list [.int a, .none]) = some true := by simp [inD, flatD, PyData.eqv]
theorem nI5 (a : Int) : inD .none (.list [.none, .int a]) = some true := by simp [inD, flatD, PyData.eqv]
theorem nI6 : inD .none (.list [.none, .none]) = some true := by simp [inD, flatD, PyData.eqv]
theorem powE : powD (.int 10) (.int 18) = some (.int 1000000000000000000) := rfl
theorem powE8 : powD (.int 10) (.int 8) = some (.int 100000000) := rfl
local macro_rules | `(tactic| walk_at "go") => `(tactic| simp only [n_op2, n_op2a, n_dat2, n_tst2, n_rd2, n_rd2s, n_rdt2, n_rdt2s, n_getd, n_getr, n_getl, n_not2, n_no, n_and, n_andt, n_andf, n_or, n_ort, n_orf, n_not, n_T, n_t, n_tand, n_tandt, n_tandf, n_tor, n_tort, n_torf, n_tnot, n_tn, n_if, n_ift, n_iff, n_ch, n_ch1, n_ch2, n_ch3t, n_ch3f, n_un, n_und, n_nil, n_cons, n_cons1, n_cons2, n_tup, n_tu, n_tus, n_lst, n_ls, n_lss, n_dn, n_dc, n_ofl, n_ofl2, n_new, n_new2, n_is, n_is2, n_is3, n_cal, n_calL, n_nop, n_part, n_pt, n_sl, n_sl1, n_sl2, n_sl3, n_slw, n_isno, n_isnot, n_isnoi, n_isnol, n_isnou, n_iter, n_itl, n_itu, n_its, n_c, n_var, n_va, n_seq, n_sqn, n_sqr, n_sqe, n_pass, n_set, n_se, n_ret, n_re, n_retn, n_drop, n_dr, n_ifs, n_ifst, n_ifsf, n_raise, n_par, n_pa, n_asg, n_as, n_aso, n_gT2, n_gN, n_for, n_fo, n_lo0, n_lo, n_lon, n_lor, n_step, n_st, n_try, n_catn, n_catr, n_def, n_outn, n_outr, n_oute, n_len, n_lend, n_lenl, n_lenu, n_max, n_min, n_inti, n_intb, n_tupl, n_addi, n_subi, n_lei, n_lti, n_gti, n_negi, n_lc, n_lcs, n_lp0, n_lp1, n_lps, n_lpn, n_turn, n_tc, n_yes, n_nox, n_tct, n_tcf, n_one, n_w0, n_w1, n_sum, n_sums, n_in0, n_in1, bind_ok, bind_exc, rF_ok, rF_exc, ofO_some, lenW1, lenW2, lenW3, lenW4, lenW5, id_eq, List.length_cons, List.length_nil, List.map_cons, List.map_nil, List.cons_append, List.nil_append, List.getElem?_cons_zero, List.getElem?_cons_succ, List.replicate, Nat.sub_self, List.append_nil, List.set_cons_zero, List.set_cons_succ, if_true, if_false, ite_true, ite_false, Bool.false_eq_true, reduceCtorEq, Option.map_some, is_int, is_bool, is_str, is_tuple, Nat.zero_add, Nat.reduceAdd, Nat.reduceSub, Nat.reduceLeDiff, isT, ixt0, ixt1, ixt2, ixt3, ixl0, ixl1, in2, in3, in2L, in3L, eqss, eqii, beq_self_eq_true, Bool.not_true, Bool.not_false, Bool.or_true, Bool.or_false, Bool.true_or, Bool.false_or, Bool.and_true, Bool.and_false, Bool.true_and, Bool.false_and, Int.reduceLE, Int.reduceLT, Int.reduceNeg, decide_true, decide_false, Int.reduceSub, Int.reduceAdd, sizeLine, Nat.reducePow, Int.cast_ofNat_Int, Int.reduceBEq, bg1, bg2, bg3, bg4, powE, powE8, String.reduceBEq, Nat.reduceLT, nI1, nI2, nI3, nI4, nI5, nI6, Int.add_zero, Int.mul_one, List.isEmpty_cons, List.isEmpty_nil, List.sum_cons, List.sum_nil, *])
structure Kw (w : Str) (b0 b1 b2 b3 b4 b5 b6 b7 b8 b9 b10 : Bool) : Prop where
  l0 : ("any" == w) = b0
  r0 : (w == "any") = b0
  l1 : ("here" == w) = b1
  r1 : (w == "here") = b1
  l2 : ("word" == w) = b2
  r2 : (w == "word") = b2
  l3 : ("back" == w) = b3
  r3 : (w == "back") = b3
  l4 : ("node" == w) = b4
  r4 : (w == "node") = b4
  l5 : ("times" == w) = b5
  r5 : (w == "times") = b5
  l6 : ("then" == w) = b6
  r6 : (w == "then") = b6
  l7 : ("or" == w) = b7
  r7 : (w == "or") = b7
  l8 : ("star" == w) = b8
  r8 : (w == "star") = b8
  l9 : ("plus" == w) = b9
  r9 : (w == "plus") = b9
  l10 : ("maybe" == w) = b10
  r10 : (w == "maybe") = b10
theorem kw (w : Str) : Kw w true false false false false false false false false false false ∨ Kw w false true false false false false false false false false false ∨ Kw w false false true false false false false false false false false ∨ Kw w false false false true false false false false false false false ∨ Kw w false false false false true false false false false false false ∨ Kw w false false false false false true false false false false false ∨ Kw w false false false false false false true false false false false ∨ Kw w false false false false false false false true false false false ∨ Kw w false false false false false false false false true false false ∨ Kw w false false false false false false false false false true false ∨ Kw w false false false false false false false false false false true ∨ Kw w false false false false false false false false false false false := by
  by_cases h0 : w = "any"
  · subst h0; exact .inl (by constructor <;> decide +kernel)
  by_cases h1 : w = "here"
  · subst h1; exact .inr (.inl (by constructor <;> decide +kernel))
  by_cases h2 : w = "word"
  · subst h2; exact .inr (.inr (.inl (by constructor <;> decide +kernel)))
  by_cases h3 : w = "back"
  · subst h3; exact .inr (.inr (.inr (.inl (by constructor <;> decide +kernel))))
  by_cases h4 : w = "node"
  · subst h4; exact .inr (.inr (.inr (.inr (.inl (by constructor <;> decide +kernel)))))
  by_cases h5 : w = "times"
  · subst h5; exact .inr (.inr (.inr (.inr (.inr (.inl (by constructor <;> decide +kernel))))))
  by_cases h6 : w = "then"
  · subst h6; exact .inr (.inr (.inr (.inr (.inr (.inr (.inl (by constructor <;> decide +kernel)))))))
  by_cases h7 : w = "or"
  · subst h7; exact .inr (.inr (.inr (.inr (.inr (.inr (.inr (.inl (by constructor <;> decide +kernel))))))))
  by_cases h8 : w = "star"
  · subst h8; exact .inr (.inr (.inr (.inr (.inr (.inr (.inr (.inr (.inl (by constructor <;> decide +kernel)))))))))
  by_cases h9 : w = "plus"
  · subst h9; exact .inr (.inr (.inr (.inr (.inr (.inr (.inr (.inr (.inr (.inl (by constructor <;> decide +kernel))))))))))
  by_cases h10 : w = "maybe"
  · subst h10; exact .inr (.inr (.inr (.inr (.inr (.inr (.inr (.inr (.inr (.inr (.inl (by constructor <;> decide +kernel)))))))))))
  exact .inr (.inr (.inr (.inr (.inr (.inr (.inr (.inr (.inr (.inr (.inr (⟨by rw [beq_eq_false_iff_ne]; exact fun z => h0 z.symm, by rw [beq_eq_false_iff_ne]; exact h0, by rw [beq_eq_false_iff_ne]; exact fun z => h1 z.symm, by rw [beq_eq_false_iff_ne]; exact h1, by rw [beq_eq_false_iff_ne]; exact fun z => h2 z.symm, by rw [beq_eq_false_iff_ne]; exact h2, by rw [beq_eq_false_iff_ne]; exact fun z => h3 z.symm, by rw [beq_eq_false_iff_ne]; exact h3, by rw [beq_eq_false_iff_ne]; exact fun z => h4 z.symm, by rw [beq_eq_false_iff_ne]; exact h4, by rw [beq_eq_false_iff_ne]; exact fun z => h5 z.symm, by rw [beq_eq_false_iff_ne]; exact h5, by rw [beq_eq_false_iff_ne]; exact fun z => h6 z.symm, by rw [beq_eq_false_iff_ne]; exact h6, by rw [beq_eq_false_iff_ne]; exact fun z => h7 z.symm, by rw [beq_eq_false_iff_ne]; exact h7, by rw [beq_eq_false_iff_ne]; exact fun z => h8 z.symm, by rw [beq_eq_false_iff_ne]; exact h8, by rw [beq_eq_false_iff_ne]; exact fun z => h9 z.symm, by rw [beq_eq_false_iff_ne]; exact h9, by rw [beq_eq_false_iff_ne]; exact fun z => h10 z.symm, by rw [beq_eq_false_iff_ne]; exact h10⟩)))))))))))
def max1 (a : Int) : Int := if a > 1 then a else 1
def okW (w : Str) (r : List PyData) : Bool :=
  if kAH w then r.length == 0
  else if kWB w then r.length == 1 && lettersD (r0 r) 2
  else if kN w then r.length == 2 && (signB (r0 r) && worthB (r1 r))
  else if kT w then r.length == 3 && (withinD (r0 r) 0 9 && withinD (r1 r) (max1 (intOf (r0 r))) 9)
  else (kTO w && r.length == 2) || (kSPM w && r.length == 1)
def plc (w : Str) (r : List PyData) : List PyData := if kTO w then [r0 r, r1 r] else if kSPM w then [r0 r] else if kT w then [r2 r] else []
def plcN (w : Str) : List PyData := if kTO w then [.int 1, .int 2] else if kSPM w then [.int 1] else if kT w then [.int 3] else []
local macro_rules | `(tactic| walk_at "end") => `(tactic| simp [kAH, kWB, kN, kT, kTO, kSPM, sizeLine, r0, r1, r2, n_outn, n_outr, n_oute, bigt, bigc, n_ifst, n_ifsf, n_ift, n_iff, n_sqn, n_sqr, n_re, n_pass, *])
theorem atom_ok (w : Str) (r : List PyData) : atomB w r = (okW w r && (plc w r).isEmpty) := by
  unfold atomB okW plc
  rcases kw w with k | k | k | k | k | k | k | k | k | k | k | k <;> (obtain ⟨a0, c0, a1, c1, a2, c2, a3, c3, a4, c4, a5, c5, a6, c6, a7, c7, a8, c8, a9, c9, a10, c10⟩ := k; simp [kAH, kWB, kN, kT, kTO, kSPM, *])
theorem ev_law_parts (w : Str) (r : List PyData) (S : SS) : m__law_parts [.dat (.tuple (.str w :: r))] S = .ok (.dat (.list (plcN w))) S := by
  unfold m__law_parts mb__law_parts plcN
  rcases kw w with k | k | k | k | k | k | k | k | k | k | k | k <;> (obtain ⟨a0, c0, a1, c1, a2, c2, a3, c3, a4, c4, a5, c5, a6, c6, a7, c7, a8, c8, a9, c9, a10, c10⟩ := k; walk_at "go"; walk_at "end")
end K63

set_option Elab.async false
set_option linter.all false
set_option maxRecDepth 100000
set_option maxHeartbeats 2000000
namespace K63
open PySem L2 Sm
local macro_rules | `(tactic| walk_at "go") => `(tactic| simp only [n_op2, n_op2a, n_dat2, n_tst2, n_rd2, n_rd2s, n_rdt2, n_rdt2s, n_getd, n_getr, n_getl, n_not2, n_no, n_and, n_andt, n_andf, n_or, n_ort, n_orf, n_not, n_T, n_t, n_tand, n_tandt, n_tandf, n_tor, n_tort, n_torf, n_tnot, n_tn, n_if, n_ift, n_iff, n_ch, n_ch1, n_ch2, n_ch3t, n_ch3f, n_un, n_und, n_nil, n_cons, n_cons1, n_cons2, n_tup, n_tu, n_tus, n_lst, n_ls, n_lss, n_dn, n_dc, n_ofl, n_ofl2, n_new, n_new2, n_is, n_is2, n_is3, n_cal, n_calL, n_nop, n_part, n_pt, n_sl, n_sl1, n_sl2, n_sl3, n_slw, n_isno, n_isnot, n_isnoi, n_isnol, n_isnou, n_iter, n_itl, n_itu, n_its, n_c, n_var, n_va, n_seq, n_sqn, n_sqr, n_sqe, n_pass, n_set, n_se, n_ret, n_re, n_retn, n_drop, n_dr, n_ifs, n_ifst, n_ifsf, n_raise, n_par, n_pa, n_asg, n_as, n_aso, n_gT2, n_gN, n_for, n_fo, n_lo0, n_lo, n_lon, n_lor, n_step, n_st, n_try, n_catn, n_catr, n_def, n_outn, n_outr, n_oute, n_len, n_lend, n_lenl, n_lenu, n_max, n_min, n_inti, n_intb, n_tupl, n_addi, n_subi, n_lei, n_lti, n_gti, n_negi, n_lc, n_lcs, n_lp0, n_lp1, n_lps, n_lpn, n_turn, n_tc, n_yes, n_nox, n_tct, n_tcf, n_one, n_w0, n_w1, n_sum, n_sums, n_in0, n_in1, bind_ok, bind_exc, rF_ok, rF_exc, ofO_some, lenW1, lenW2, lenW3, lenW4, lenW5, id_eq, List.length_cons, List.length_nil, List.map_cons, List.map_nil, List.cons_append, List.nil_append, List.getElem?_cons_zero, List.getElem?_cons_succ, List.replicate, Nat.sub_self, List.append_nil, List.set_cons_zero, List.set_cons_succ, if_true, if_false, ite_true, ite_false, Bool.false_eq_true, reduceCtorEq, Option.map_some, is_int, is_bool, is_str, is_tuple, Nat.zero_add, Nat.reduceAdd, Nat.reduceSub, Nat.reduceLeDiff, isT, ixt0, ixt1, ixt2, ixt3, ixl0, ixl1, in2, in3, in2L, in3L, eqss, eqii, beq_self_eq_true, Bool.not_true, Bool.not_false, Bool.or_true, Bool.or_false, Bool.true_or, Bool.false_or, Bool.and_true, Bool.and_false, Bool.true_and, Bool.false_and, Int.reduceLE, Int.reduceLT, Int.reduceNeg, decide_true, decide_false, Int.reduceSub, Int.reduceAdd, sizeLine, Nat.reducePow, Int.cast_ofNat_Int, Int.reduceBEq, bg1, bg2, bg3, bg4, powE, powE8, String.reduceBEq, Nat.reduceLT, nI1, nI2, nI3, nI4, nI5, nI6, Int.add_zero, Int.mul_one, List.isEmpty_cons, List.isEmpty_nil, List.sum_cons, List.sum_nil, *])
local macro_rules | `(tactic| walk_at "end") => `(tactic| simp [kAH, kWB, kN, kT, kTO, kSPM, sizeLine, r0, r1, r2, n_outn, n_outr, n_oute, bigt, bigc, n_ifst, n_ifsf, n_ift, n_iff, n_sqn, n_sqr, n_re, n_pass, *])
theorem ev_parts_of (w : Str) (r : List PyData) (S : SS) : m_parts_of [.dat (.tuple (.str w :: r))] S = .ok (.dat (if okW w r && !(plc w r).isEmpty then .list (plc w r) else .none)) S := by
  unfold m_parts_of mb_parts_of okW plc
  rcases kw w with k | k | k | k | k | k | k | k | k | k | k | k <;> obtain ⟨a0, c0, a1, c1, a2, c2, a3, c3, a4, c4, a5, c5, a6, c6, a7, c7, a8, c8, a9, c9, a10, c10⟩ := k
  case inr.inr.inr.inr.inr.inl =>
    cases shp r with
    | c a b c =>
      have e := ev_is_within a 0 9 S
      cases h : withinD a 0 9 with
      | false => walk_at "go" <;> walk_at "end"
      | true =>
        cases a <;> first | exact absurd h Bool.false_ne_true | skip
        rename_i i
        have e2 := ev_is_within b (max1 i) 9 S
        unfold max1 at e2
        cases h3 : withinD b (if i > 1 then i else 1) 9 <;> walk_at "go" <;> walk_at "end"
        all_goals (unfold max1 intOf; dsimp only; rw [h3])
    | _ => walk_at "go" <;> walk_at "end"
  all_goals
    cases shp r <;> walk_at "go" <;> walk_at "end"
theorem ev_law_is_lone (w : Str) (r : List PyData) (S : SS) (pr : plainR r) : m__law_is_lone [.dat (.tuple (.str w :: r))] S = .ok (.dat (.bool (okW w r))) S := by
  unfold m__law_is_lone mb__law_is_lone okW
  rcases kw w with k | k | k | k | k | k | k | k | k | k | k | k <;> obtain ⟨a0, c0, a1, c1, a2, c2, a3, c3, a4, c4, a5, c5, a6, c6, a7, c7, a8, c8, a9, c9, a10, c10⟩ := k
  case inr.inr.inl =>
    cases shp r with
    | a a => have e := ev_law_is_word a S (sh0 pr); walk_at "go" <;> walk_at "end"
    | _ => walk_at "go" <;> walk_at "end"
  case inr.inr.inr.inl =>
    cases shp r with
    | a a => have e := ev_law_is_word a S (sh0 pr); walk_at "go" <;> walk_at "end"
    | _ => walk_at "go" <;> walk_at "end"
  case inr.inr.inr.inr.inl =>
    cases shp r with
    | b a b =>
      have e := ev_law_is_whole b (-1000000000000000000) 1000000000000000000 S
      cases a with
      | str x =>
        have q : signB (.str x) = ("<" == x || ("=" == x || ">" == x)) := rfl
        have q2 : worthB b = withinD b (-1000000000000000000) 1000000000000000000 := rfl
        cases hq : ("<" == x || ("=" == x || ">" == x)) <;> walk_at "go" <;> walk_at "end"
      | _ => walk_at "go" <;> (walk_at "end"; exact fun z => absurd z Bool.false_ne_true)
    | _ => walk_at "go" <;> walk_at "end"
  case inr.inr.inr.inr.inr.inl =>
    cases shp r with
    | c a b c =>
      have e := ev_law_is_whole a 0 9 S
      cases h : withinD a 0 9 with
      | false => walk_at "go" <;> walk_at "end"
      | true =>
        obtain ⟨i, rfl⟩ : ∃ i, a = .int i := by cases a <;> first | exact ⟨_, rfl⟩ | exact absurd h Bool.false_ne_true
        have e2 := ev_law_is_whole b (max1 i) 9 S
        unfold max1 at e2
        cases h3 : withinD b (if i > 1 then i else 1) 9 <;> walk_at "go" <;> walk_at "end"
        all_goals (unfold max1 intOf; dsimp only; rw [h3])
    | _ => walk_at "go" <;> walk_at "end"
  all_goals
    cases shp r <;> walk_at "go" <;> walk_at "end"
end K63

set_option Elab.async false
set_option linter.all false
set_option maxRecDepth 100000
set_option maxHeartbeats 2000000
namespace K63
open PySem L2 Sm
local macro_rules | `(tactic| walk_at "go") => `(tactic| simp only [n_op2, n_op2a, n_dat2, n_tst2, n_rd2, n_rd2s, n_rdt2, n_rdt2s, n_getd, n_getr, n_getl, n_not2, n_no, n_and, n_andt, n_andf, n_or, n_ort, n_orf, n_not, n_T, n_t, n_tand, n_tandt, n_tandf, n_tor, n_tort, n_torf, n_tnot, n_tn, n_if, n_ift, n_iff, n_ch, n_ch1, n_ch2, n_ch3t, n_ch3f, n_un, n_und, n_nil, n_cons, n_cons1, n_cons2, n_tup, n_tu, n_tus, n_lst, n_ls, n_lss, n_dn, n_dc, n_ofl, n_ofl2, n_new, n_new2, n_is, n_is2, n_is3, n_cal, n_calL, n_nop, n_part, n_pt, n_sl, n_sl1, n_sl2, n_sl3, n_slw, n_isno, n_isnot, n_isnoi, n_isnol, n_isnou, n_iter, n_itl, n_itu, n_its, n_c, n_var, n_va, n_seq, n_sqn, n_sqr, n_sqe, n_pass, n_set, n_se, n_ret, n_re, n_retn, n_drop, n_dr, n_ifs, n_ifst, n_ifsf, n_raise, n_par, n_pa, n_asg, n_as, n_aso, n_gT2, n_gN, n_for, n_fo, n_lo0, n_lo, n_lon, n_lor, n_step, n_st, n_try, n_catn, n_catr, n_def, n_outn, n_outr, n_oute, n_len, n_lend, n_lenl, n_lenu, n_max, n_min, n_inti, n_intb, n_tupl, n_addi, n_subi, n_lei, n_lti, n_gti, n_negi, n_lc, n_lcs, n_lp0, n_lp1, n_lps, n_lpn, n_turn, n_tc, n_yes, n_nox, n_tct, n_tcf, n_one, n_w0, n_w1, n_sum, n_sums, n_in0, n_in1, bind_ok, bind_exc, rF_ok, rF_exc, ofO_some, lenW1, lenW2, lenW3, lenW4, lenW5, id_eq, List.length_cons, List.length_nil, List.map_cons, List.map_nil, List.cons_append, List.nil_append, List.getElem?_cons_zero, List.getElem?_cons_succ, List.replicate, Nat.sub_self, List.append_nil, List.set_cons_zero, List.set_cons_succ, if_true, if_false, ite_true, ite_false, Bool.false_eq_true, reduceCtorEq, Option.map_some, is_int, is_bool, is_str, is_tuple, Nat.zero_add, Nat.reduceAdd, Nat.reduceSub, Nat.reduceLeDiff, isT, ixt0, ixt1, ixt2, ixt3, ixl0, ixl1, in2, in3, in2L, in3L, eqss, eqii, beq_self_eq_true, Bool.not_true, Bool.not_false, Bool.or_true, Bool.or_false, Bool.true_or, Bool.false_or, Bool.and_true, Bool.and_false, Bool.true_and, Bool.false_and, Int.reduceLE, Int.reduceLT, Int.reduceNeg, decide_true, decide_false, Int.reduceSub, Int.reduceAdd, sizeLine, Nat.reducePow, Int.cast_ofNat_Int, Int.reduceBEq, bg1, bg2, bg3, bg4, powE, powE8, String.reduceBEq, Nat.reduceLT, nI1, nI2, nI3, nI4, nI5, nI6, Int.add_zero, Int.mul_one, List.isEmpty_cons, List.isEmpty_nil, List.sum_cons, List.sum_nil, *])
local macro_rules | `(tactic| walk_at "end") => `(tactic| simp [kAH, kWB, kN, kT, kTO, kSPM, sizeLine, r0, r1, r2, n_outn, n_outr, n_oute, bigt, bigc, n_ifst, n_ifsf, n_ift, n_iff, n_sqn, n_sqr, n_re, n_pass, *])
def kindD (d : PyData) : Bool := match d with
  | .tuple (.str _ :: _) => true
  | _ => false
theorem kind_of {d : PyData} (h : kindD d = true) : ∃ w r, d = .tuple (.str w :: r) := by
  unfold kindD at h
  split at h
  · exact ⟨_, _, rfl⟩
  · cases h
theorem ev_kind (d : PyData) (S : SS) : m_is_kind [.dat d] S = .ok (.dat (.bool (kindD d))) S := by
  rw [ev_is_kind]
  cases d with
  | tuple xs => cases xs with
    | nil => rfl
    | cons a r => cases a <;> rfl
  | _ => rfl
/-- strings short, tuples less than k deep -/
def Pl : Nat → PyData → Prop
  | 0, _ => False
  | k + 1, d => shortD d ∧ ∀ r, d = .tuple r → ∀ x ∈ r, Pl k x
theorem Pl.short {k : Nat} {d : PyData} (h : Pl k d) : shortD d := by
  cases k with
  | zero => exact h.elim
  | succ k => exact h.1
theorem Pl.plain {k : Nat} {w : Str} {r : List PyData} (h : Pl k (.tuple (.str w :: r))) : plainR r := by
  cases k with
  | zero => exact h.elim
  | succ k => exact fun d hd => (h.2 _ rfl d (List.mem_cons_of_mem _ hd)).short
def numD (o : Option Int) : PyData := match o with
  | some i => .int i
  | none => .none
def mulW (w : Str) (r : List PyData) : Int := if kT w then intOf (r1 r) else 1
def sumO : List (Option Int) → Option Int
  | [] => some 0
  | none :: _ => none
  | some a :: t => (sumO t).map (a + ·)
def sw : Nat → PyData → Option Int
  | 0, _ => none
  | n + 1, .tuple (.str w :: r) => if okW w r then (if (plc w r).isEmpty then some 1 else (sumO ((plc w r).map (sw n))).map (· * mulW w r)) else none
  | _ + 1, _ => none
theorem sw_not {n : Nat} {d : PyData} (h : kindD d = false) : sw (n + 1) d = none := by
  cases d with
  | tuple xs => cases xs with
    | nil => rfl
    | cons a r => cases a <;> first | rfl | cases h
  | _ => rfl
theorem ok_node {w : Str} {r : List PyData} (h : okW w r = true) (hk : kN w = true) (hl : r.length = 2) : strB (r0 r) = true := by
  unfold okW at h
  rcases kw w with k | k | k | k | k | k | k | k | k | k | k | k <;> obtain ⟨a0, c0, a1, c1, a2, c2, a3, c3, a4, c4, a5, c5, a6, c6, a7, c7, a8, c8, a9, c9, a10, c10⟩ := k
  all_goals first | (exfalso; have : kN w = false := by simp [kN, *]
                     rw [hk] at this; cases this) | skip
  simp [kAH, kWB, kN, *] at h
  cases hr : r0 r <;> rw [hr] at h <;> first | rfl | exact absurd h.1 Bool.false_ne_true
theorem ok_mul {w : Str} {r : List PyData} (h : okW w r = true) : 0 ≤ mulW w r ∧ mulW w r ≤ 9 ∧ (kT w = true → r1 r = .int (mulW w r) ∧ 3 = r.length) := by
  unfold mulW
  cases ht : kT w with
  | false => exact ⟨by simp, by simp, fun z => by cases z⟩
  | true =>
    have ht' : (w == "times") = true := ht
    have e := eq_of_beq ht'
    subst e
    unfold okW at h
    rw [show kAH "times" = false by decide +kernel, show kWB "times" = false by decide +kernel, show kN "times" = false by decide +kernel, show kT "times" = true by decide +kernel] at h
    simp only [Bool.false_eq_true, if_false, if_true, Bool.and_eq_true] at h
    obtain ⟨h0, h1, h2⟩ := h
    cases hr : r1 r <;> rw [hr] at h2 <;> first | exact absurd h2 Bool.false_ne_true | skip
    rename_i i
    unfold withinD at h2
    rw [Bool.and_eq_true, decide_eq_true_eq, decide_eq_true_eq] at h2
    simp only [intOf, if_true]
    unfold max1 at h2
    refine ⟨?_, h2.2, fun _ => ⟨trivial, (eq_of_beq h0).symm⟩⟩
    split at h2 <;> omega
theorem plc_cases (w : Str) (r : List PyData) : (plc w r = [] ∧ kT w = false) ∨ (plc w r = [r0 r] ∧ kT w = false) ∨ (plc w r = [r0 r, r1 r] ∧ kT w = false) ∨ (plc w r = [r2 r] ∧ kT w = true) := by
  unfold plc
  rcases kw w with k | k | k | k | k | k | k | k | k | k | k | k <;> (obtain ⟨a0, c0, a1, c1, a2, c2, a3, c3, a4, c4, a5, c5, a6, c6, a7, c7, a8, c8, a9, c9, a10, c10⟩ := k; simp [kTO, kSPM, kT, *])
theorem ok_plc {w : Str} {r : List PyData} (h : okW w r = true) : ∀ x ∈ plc w r, x ∈ r := by
  unfold okW at h
  unfold plc
  rcases kw w with k | k | k | k | k | k | k | k | k | k | k | k <;> (obtain ⟨a0, c0, a1, c1, a2, c2, a3, c3, a4, c4, a5, c5, a6, c6, a7, c7, a8, c8, a9, c9, a10, c10⟩ := k; simp [kAH, kWB, kN, kTO, kSPM, kT, *] at h ⊢)
  all_goals (cases shp r <;> simp at h <;> simp [r0, r1, r2])
local macro_rules | `(tactic| walk_at "z") => `(tactic| simp [sumO, numD, inD, flatD, PyData.eqv, n_re, n_outr, *])
theorem cast_sub (n : Nat) : ((n + 1 : Nat) : Int) - 1 = n := by omega
theorem cast_ne (n : Nat) : (((n + 1 : Nat) : Int) == 0) = false := by
  rw [beq_eq_false_iff_ne]
  omega
theorem mul_small (a k : Int) (h : 0 ≤ k) (h' : k ≤ 9) : mulD (.int a) (.int k) = some (.int (a * k)) := by
  show (if CMul a k then _ else _) = _
  rw [if_pos (.inr ⟨by omega, by omega⟩)]
theorem Pl.of {k : Nat} {w : Str} {r : List PyData} (h : Pl (k + 1) (.tuple (.str w :: r))) {x : PyData} (hx : x ∈ r) : Pl k x := h.2 _ rfl x (List.mem_cons_of_mem _ hx)
theorem ev_size_within : ∀ (n k : Nat) (p : Nat) (d : PyData) (S : SS), n < k → Pl p d → m_size_within k [.dat d, .dat (.int n)] S = .ok (.dat (numD (sw n d))) S
  | _, 0, _, _, _, h, _ => absurd h (Nat.not_lt_zero _)
  | 0, k + 1, p, d, S, h, hp => by
    unfold m_size_within mb_size_within sw
    have e : eqD (.int ((0 : Nat) : Int)) (.int 0) = some true := rfl
    walk_at "go"
    rfl
  | n + 1, k + 1, p, d, S, h, hp => by
    have hc := cast_sub n
    have hn := cast_ne n
    have hkd := ev_kind d S
    cases hk : kindD d with
    | false =>
      have e0 := sw_not (n := n) hk
      rw [hk] at hkd
      unfold m_size_within mb_size_within
      walk_at "go"
      rfl
    | true =>
      obtain ⟨w, r, rfl⟩ := kind_of hk
      have hsg := ev_is_sign w r S
      have hkd' : m_is_kind [.dat (.tuple (.str w :: r))] S = .ok (.dat (.bool true)) S := hkd
      clear hkd hk
      cases hs : (!kN w || (!(r.length == 2) || strB (r0 r))) with
      | false =>
        rw [hs] at hsg
        have e0 : okW w r = false := by
          cases ho : okW w r with
          | false => rfl
          | true =>
            simp only [Bool.or_eq_false_iff, Bool.not_eq_false'] at hs
            have := ok_node ho hs.1 (eq_of_beq hs.2.1)
            rw [hs.2.2] at this
            cases this
        unfold m_size_within mb_size_within sw
        walk_at "go"
        rfl
      | true =>
        rw [hs] at hsg
        have hat := ev_is_atom w r S hp.plain (fun z1 z2 => by
          simp only [z1, z2, Bool.not_true, Bool.false_or, beq_self_eq_true] at hs
          exact hs)
        rw [atom_ok] at hat
        have hpo := ev_parts_of w r S
        unfold m_size_within mb_size_within sw
        cases ho : okW w r with
        | false =>
          rw [ho] at hat hpo
          walk_at "go"
          rfl
        | true =>
          rw [ho] at hat hpo
          obtain ⟨hm0, hm9, hmt⟩ := ok_mul ho
          have hin := ok_plc ho
          cases p with
          | zero => exact hp.elim
          | succ p =>
            have hrec : ∀ x ∈ plc w r, m_size_within k [.dat x, .dat (.int n)] S = .ok (.dat (numD (sw n x))) S := fun x hx => ev_size_within n k p x S (Nat.lt_of_succ_lt_succ h) (hp.of (hin x hx))
            rcases plc_cases w r with ⟨e, et⟩ | ⟨e, et⟩ | ⟨e, et⟩ | ⟨e, et⟩
            · rw [e] at hat hpo ⊢
              walk_at "go"
              rfl
            · rw [e] at hat hpo hrec ⊢
              have e1 := hrec _ List.mem_cons_self
              have et' : (w == "times") = false := et
              have em : mulW w r = 1 := by unfold mulW; rw [et]; rfl
              rw [em]
              have hm1 := fun z => mul_small z 1 (by decide) (by decide)
              cases h1 : sw n (r0 r) <;> rw [h1] at e1 <;> simp only [numD] at e1 <;> walk_at "go" <;> walk_at "z"
            · rw [e] at hat hpo hrec ⊢
              have e1 := hrec _ List.mem_cons_self
              have e2 := hrec _ (List.mem_cons_of_mem _ List.mem_cons_self)
              have et' : (w == "times") = false := et
              have em : mulW w r = 1 := by unfold mulW; rw [et]; rfl
              rw [em]
              have hm1 := fun z => mul_small z 1 (by decide) (by decide)
              cases h1 : sw n (r0 r) <;> rw [h1] at e1 <;> simp only [numD] at e1 <;> (cases h2 : sw n (r1 r) <;> rw [h2] at e2 <;> simp only [numD] at e2 <;> walk_at "go" <;> walk_at "z")
            · rw [e] at hat hpo hrec ⊢
              have e1 := hrec _ List.mem_cons_self
              have et' : (w == "times") = true := et
              obtain ⟨e3, e4⟩ := hmt et
              have hms := mul_small
              cases shp r with
              | c a b c =>
                have e3' : b = .int (mulW w [a, b, c]) := e3
                have hms' := fun z => hms z _ hm0 hm9
                clear hms hmt
                generalize mulW w [a, b, c] = mm at *
                subst e3'
                cases h1 : sw n (r2 [a, .int mm, c]) <;> rw [h1] at e1 <;> simp only [numD] at e1 <;> walk_at "go" <;> walk_at "z"
              | _ => exact absurd e4 (by intro z; simp only [List.length_cons, List.length_nil] at z; omega)
end K63

set_option Elab.async false
set_option linter.all false
set_option maxRecDepth 100000
set_option maxHeartbeats 2000000
namespace K63
open PySem L2 Sm
local macro_rules | `(tactic| walk_at "go") => `(tactic| simp only [n_op2, n_op2a, n_dat2, n_tst2, n_rd2, n_rd2s, n_rdt2, n_rdt2s, n_getd, n_getr, n_getl, n_not2, n_no, n_and, n_andt, n_andf, n_or, n_ort, n_orf, n_not, n_T, n_t, n_tand, n_tandt, n_tandf, n_tor, n_tort, n_torf, n_tnot, n_tn, n_if, n_ift, n_iff, n_ch, n_ch1, n_ch2, n_ch3t, n_ch3f, n_un, n_und, n_nil, n_cons, n_cons1, n_cons2, n_tup, n_tu, n_tus, n_lst, n_ls, n_lss, n_dn, n_dc, n_ofl, n_ofl2, n_new, n_new2, n_is, n_is2, n_is3, n_cal, n_calL, n_nop, n_part, n_pt, n_sl, n_sl1, n_sl2, n_sl3, n_slw, n_isno, n_isnot, n_isnoi, n_isnol, n_isnou, n_iter, n_itl, n_itu, n_its, n_c, n_var, n_va, n_seq, n_sqn, n_sqr, n_sqe, n_pass, n_set, n_se, n_ret, n_re, n_retn, n_drop, n_dr, n_ifs, n_ifst, n_ifsf, n_raise, n_par, n_pa, n_asg, n_as, n_aso, n_gT2, n_gN, n_for, n_fo, n_lo0, n_lo, n_lon, n_lor, n_step, n_st, n_try, n_catn, n_catr, n_def, n_outn, n_outr, n_oute, n_len, n_lend, n_lenl, n_lenu, n_max, n_min, n_inti, n_intb, n_tupl, n_addi, n_subi, n_lei, n_lti, n_gti, n_negi, n_lc, n_lcs, n_lp0, n_lp1, n_lps, n_lpn, n_turn, n_tc, n_yes, n_nox, n_tct, n_tcf, n_one, n_w0, n_w1, n_sum, n_sums, n_in0, n_in1, bind_ok, bind_exc, rF_ok, rF_exc, ofO_some, lenW1, lenW2, lenW3, lenW4, lenW5, id_eq, List.length_cons, List.length_nil, List.map_cons, List.map_nil, List.cons_append, List.nil_append, List.getElem?_cons_zero, List.getElem?_cons_succ, List.replicate, Nat.sub_self, List.append_nil, List.set_cons_zero, List.set_cons_succ, if_true, if_false, ite_true, ite_false, Bool.false_eq_true, reduceCtorEq, Option.map_some, is_int, is_bool, is_str, is_tuple, Nat.zero_add, Nat.reduceAdd, Nat.reduceSub, Nat.reduceLeDiff, isT, ixt0, ixt1, ixt2, ixt3, ixl0, ixl1, in2, in3, in2L, in3L, eqss, eqii, beq_self_eq_true, Bool.not_true, Bool.not_false, Bool.or_true, Bool.or_false, Bool.true_or, Bool.false_or, Bool.and_true, Bool.and_false, Bool.true_and, Bool.false_and, Int.reduceLE, Int.reduceLT, Int.reduceNeg, decide_true, decide_false, Int.reduceSub, Int.reduceAdd, sizeLine, Nat.reducePow, Int.cast_ofNat_Int, Int.reduceBEq, bg1, bg2, bg3, bg4, powE, powE8, String.reduceBEq, Nat.reduceLT, nI1, nI2, nI3, nI4, nI5, nI6, Int.add_zero, Int.mul_one, List.isEmpty_cons, List.isEmpty_nil, List.sum_cons, List.sum_nil, *])
local macro_rules | `(tactic| walk_at "end") => `(tactic| simp [kAH, kWB, kN, kT, kTO, kSPM, sizeLine, r0, r1, r2, n_outn, n_outr, n_oute, bigt, bigc, n_ifst, n_ifsf, n_ift, n_iff, n_sqn, n_sqr, n_re, n_pass, *])
/-- what the law's own sizes come to -/
def acc2 : List (Option (Int × Int)) → Int → Int → Option (Int × Int)
  | [], d, m => some (d, m)
  | none :: _, _, _ => none
  | some (a, b) :: t, d, m => acc2 t (if a > d then a else d) (m + b)
def lz : Nat → PyData → Option (Int × Int)
  | 0, _ => none
  | n + 1, .tuple (.str w :: r) => if okW w r then (acc2 ((plc w r).map (lz n)) 0 0).map fun p => (p.1 + 1, p.2 * mulW w r + (if (plc w r).isEmpty then 1 else 0)) else none
  | _ + 1, _ => none
def pairD (o : Option (Int × Int)) : PyData := match o with
  | some (a, b) => .tuple [.int a, .int b]
  | none => .none
theorem lz_not {n : Nat} {d : PyData} (h : kindD d = false) : lz n d = none := by
  cases n with
  | zero => rfl
  | succ n => cases d with
    | tuple xs => cases xs with
      | nil => rfl
      | cons a r => cases a <;> first | rfl | cases h
    | _ => rfl
theorem plc_N (w : Str) (r : List PyData) : (plc w r = [] ∧ plcN w = [] ∧ kT w = false) ∨ (plc w r = [r0 r] ∧ plcN w = [.int 1] ∧ kT w = false) ∨ (plc w r = [r0 r, r1 r] ∧ plcN w = [.int 1, .int 2] ∧ kT w = false) ∨ (plc w r = [r2 r] ∧ plcN w = [.int 3] ∧ kT w = true) := by
  unfold plc plcN
  rcases kw w with k | k | k | k | k | k | k | k | k | k | k | k <;> (obtain ⟨a0, c0, a1, c1, a2, c2, a3, c3, a4, c4, a5, c5, a6, c6, a7, c7, a8, c8, a9, c9, a10, c10⟩ := k; simp [kTO, kSPM, kT, *])
theorem ok_len {w : Str} {r : List PyData} (h : okW w r = true) (ht : kT w = false) : (plc w r = [r0 r] → ∃ a, r = [a]) ∧ (plc w r = [r0 r, r1 r] → ∃ a b, r = [a, b]) := by
  unfold okW at h
  unfold plc
  rcases kw w with k | k | k | k | k | k | k | k | k | k | k | k <;> (obtain ⟨a0, c0, a1, c1, a2, c2, a3, c3, a4, c4, a5, c5, a6, c6, a7, c7, a8, c8, a9, c9, a10, c10⟩ := k; simp [kAH, kWB, kN, kTO, kSPM, kT, *] at h ht ⊢)
  all_goals (cases shp r <;> simp at h <;> simp [r0, r1, r2])
theorem law_sizes_bad {k : Nat} {d : PyData} {S : SS} (h : kindD d = false) : m__law_sizes (k + 1) [.dat d] S = .ok (.dat .none) S := by
  unfold m__law_sizes mb__law_sizes
  cases d with
  | tuple xs => cases xs with
    | nil => walk_at "go" <;> walk_at "end"
    | cons a r =>
      have e : (((r.length + 1 : Nat) : Int) == 0) = false := cast_ne _
      cases a <;> first | (walk_at "go"; done) | cases h
  | _ => walk_at "go" <;> walk_at "end"
local macro_rules | `(tactic| walk_at "z2") => `(tactic| simp [acc2, pairD, n_re, n_outr, n_outn, n_sqn, *])
theorem ev_law_sizes : ∀ (k : Nat) (d : PyData) (S : SS), Pl k d → m__law_sizes k [.dat d] S = .ok (.dat (pairD (lz k d))) S
  | 0, _, _, h => h.elim
  | k + 1, d, S, hp => by
    cases hk : kindD d with
    | false => rw [lz_not hk]; exact law_sizes_bad hk
    | true =>
      obtain ⟨w, r, rfl⟩ := kind_of hk
      clear hk
      have h1 := ev_law_is_lone w r S hp.plain
      have h2 := ev_law_parts w r S
      have e : (((r.length + 1 : Nat) : Int) == 0) = false := cast_ne _
      unfold m__law_sizes mb__law_sizes lz
      cases ho : okW w r with
      | false =>
        rw [ho] at h1
        walk_at "go"
        rfl
      | true =>
        rw [ho] at h1
        obtain ⟨hm0, hm9, hmt⟩ := ok_mul ho
        have hin := ok_plc ho
        have hrec : ∀ x ∈ plc w r, m__law_sizes k [.dat x] S = .ok (.dat (pairD (lz k x))) S := fun x hx => ev_law_sizes k x S (hp.of (hin x hx))
        rcases plc_N w r with ⟨e1, e2, et⟩ | ⟨e1, e2, et⟩ | ⟨e1, e2, et⟩ | ⟨e1, e2, et⟩
        · have et' : (w == "times") = false := et
          have em : mulW w r = 1 := by unfold mulW; rw [et]; rfl
          rw [e1, em]
          rw [e2] at h2
          clear hrec hin e1
          walk_at "go" <;> walk_at "z2"
        · have et' : (w == "times") = false := et
          have em : mulW w r = 1 := by unfold mulW; rw [et]; rfl
          obtain ⟨a, rfl⟩ := (ok_len ho et).1 e1
          have q1 := hrec a (by rw [e1]; exact List.mem_cons_self)
          rw [e1, em]
          rw [e2] at h2
          have hr : r0 [a] = a := rfl
          clear hrec hin e1
          cases h3 : lz k a with
          | none => rw [h3] at q1; simp only [pairD] at q1; walk_at "go" <;> walk_at "z2"
          | some p => obtain ⟨x, y⟩ := p; rw [h3] at q1; simp only [pairD] at q1; walk_at "go" <;> walk_at "z2"
        · have et' : (w == "times") = false := et
          have em : mulW w r = 1 := by unfold mulW; rw [et]; rfl
          obtain ⟨a, b, rfl⟩ := (ok_len ho et).2 e1
          have q1 := hrec a (by rw [e1]; exact List.mem_cons_self)
          have q2 := hrec b (by rw [e1]; exact List.mem_cons_of_mem _ List.mem_cons_self)
          rw [e1, em]
          rw [e2] at h2
          have hr : r0 [a, b] = a := rfl
          have hr' : r1 [a, b] = b := rfl
          clear hrec hin e1
          cases h3 : lz k a with
          | none => rw [h3] at q1; simp only [pairD] at q1; walk_at "go" <;> walk_at "z2"
          | some p =>
            obtain ⟨x, y⟩ := p; rw [h3] at q1; simp only [pairD] at q1
            cases h4 : lz k b with
            | none => rw [h4] at q2; simp only [pairD] at q2; walk_at "go" <;> walk_at "z2"
            | some p => obtain ⟨x', y'⟩ := p; rw [h4] at q2; simp only [pairD] at q2; walk_at "go" <;> walk_at "z2"
        · have et' : (w == "times") = true := et
          obtain ⟨e3, e4⟩ := hmt et
          cases shp r with
          | c a b c =>
            have e3' : b = .int (mulW w [a, b, c]) := e3
            have q1 := hrec c (by rw [e1]; exact List.mem_cons_self)
            have hms' := fun z => mul_small z _ hm0 hm9
            rw [e1]
            rw [e2] at h2
            have hr : r2 [a, b, c] = c := rfl
            clear hrec hin e1 hmt
            generalize mulW w [a, b, c] = mm at *
            subst e3'
            cases h3 : lz k c with
            | none => rw [h3] at q1; simp only [pairD] at q1; walk_at "go" <;> walk_at "z2"
            | some p => obtain ⟨x, y⟩ := p; rw [h3] at q1; simp only [pairD] at q1; walk_at "go" <;> walk_at "z2"
          | _ => exact absurd e4 (by intro z; simp only [List.length_cons, List.length_nil] at z; omega)
end K63

set_option Elab.async false
set_option linter.all false
set_option maxRecDepth 100000
set_option maxHeartbeats 2000000
namespace K63
open PySem L2 Sm
local macro_rules | `(tactic| walk_at "go") => `(tactic| simp only [n_op2, n_op2a, n_dat2, n_tst2, n_rd2, n_rd2s, n_rdt2, n_rdt2s, n_getd, n_getr, n_getl, n_not2, n_no, n_and, n_andt, n_andf, n_or, n_ort, n_orf, n_not, n_T, n_t, n_tand, n_tandt, n_tandf, n_tor, n_tort, n_torf, n_tnot, n_tn, n_if, n_ift, n_iff, n_ch, n_ch1, n_ch2, n_ch3t, n_ch3f, n_un, n_und, n_nil, n_cons, n_cons1, n_cons2, n_tup, n_tu, n_tus, n_lst, n_ls, n_lss, n_dn, n_dc, n_ofl, n_ofl2, n_new, n_new2, n_is, n_is2, n_is3, n_cal, n_calL, n_nop, n_part, n_pt, n_sl, n_sl1, n_sl2, n_sl3, n_slw, n_isno, n_isnot, n_isnoi, n_isnol, n_isnou, n_iter, n_itl, n_itu, n_its, n_c, n_var, n_va, n_seq, n_sqn, n_sqr, n_sqe, n_pass, n_set, n_se, n_ret, n_re, n_retn, n_drop, n_dr, n_ifs, n_ifst, n_ifsf, n_raise, n_par, n_pa, n_asg, n_as, n_aso, n_gT2, n_gN, n_for, n_fo, n_lo0, n_lo, n_lon, n_lor, n_step, n_st, n_try, n_catn, n_catr, n_def, n_outn, n_outr, n_oute, n_len, n_lend, n_lenl, n_lenu, n_max, n_min, n_inti, n_intb, n_tupl, n_addi, n_subi, n_lei, n_lti, n_gti, n_negi, n_lc, n_lcs, n_lp0, n_lp1, n_lps, n_lpn, n_turn, n_tc, n_yes, n_nox, n_tct, n_tcf, n_one, n_w0, n_w1, n_sum, n_sums, n_in0, n_in1, bind_ok, bind_exc, rF_ok, rF_exc, ofO_some, lenW1, lenW2, lenW3, lenW4, lenW5, id_eq, List.length_cons, List.length_nil, List.map_cons, List.map_nil, List.cons_append, List.nil_append, List.getElem?_cons_zero, List.getElem?_cons_succ, List.replicate, Nat.sub_self, List.append_nil, List.set_cons_zero, List.set_cons_succ, if_true, if_false, ite_true, ite_false, Bool.false_eq_true, reduceCtorEq, Option.map_some, is_int, is_bool, is_str, is_tuple, Nat.zero_add, Nat.reduceAdd, Nat.reduceSub, Nat.reduceLeDiff, isT, ixt0, ixt1, ixt2, ixt3, ixl0, ixl1, in2, in3, in2L, in3L, eqss, eqii, beq_self_eq_true, Bool.not_true, Bool.not_false, Bool.or_true, Bool.or_false, Bool.true_or, Bool.false_or, Bool.and_true, Bool.and_false, Bool.true_and, Bool.false_and, Int.reduceLE, Int.reduceLT, Int.reduceNeg, decide_true, decide_false, Int.reduceSub, Int.reduceAdd, sizeLine, Nat.reducePow, Int.cast_ofNat_Int, Int.reduceBEq, bg1, bg2, bg3, bg4, powE, powE8, String.reduceBEq, Nat.reduceLT, nI1, nI2, nI3, nI4, nI5, nI6, Int.add_zero, Int.mul_one, List.isEmpty_cons, List.isEmpty_nil, List.sum_cons, List.sum_nil, *])
local macro_rules | `(tactic| walk_at "end") => `(tactic| simp [kAH, kWB, kN, kT, kTO, kSPM, sizeLine, r0, r1, r2, n_outn, n_outr, n_oute, bigt, bigc, n_ifst, n_ifsf, n_ift, n_iff, n_sqn, n_sqr, n_re, n_pass, *])
def tak (n : Nat) (p : Int × Int) : Option Int := if p.1 ≤ (n : Int) then some p.2 else none
theorem lz_pos : ∀ (k : Nat) (d : PyData) (p : Int × Int), lz k d = some p → 1 ≤ p.1
  | 0, _, _, h => by cases h
  | k + 1, d, p, h => by
    cases hk : kindD d with
    | false => rw [lz_not hk] at h; cases h
    | true =>
      obtain ⟨w, r, rfl⟩ := kind_of hk
      unfold lz at h
      split at h
      · rename_i ho
        cases ha : acc2 ((plc w r).map (lz k)) 0 0 with
        | none => rw [ha] at h; cases h
        | some q =>
          rw [ha] at h
          cases h
          have : ∀ (l : List (Option (Int × Int))) (a b : Int) (q : Int × Int), 0 ≤ a → acc2 l a b = some q → 0 ≤ q.1 := by
            intro l
            induction l with
            | nil => intro a b q h0 h1; cases h1; exact h0
            | cons x t ih =>
              intro a b q h0 h1
              cases x with
              | none => cases h1
              | some y =>
                obtain ⟨y1, y2⟩ := y
                refine ih _ _ q ?_ h1
                split <;> omega
          have := this _ _ _ _ (by decide) ha
          show 1 ≤ q.1 + 1
          omega
      · cases h
theorem sw_lz : ∀ (n k : Nat) (d : PyData), Pl k d → sw n d = (lz k d).bind (tak n)
  | 0, k, d, _ => by
    cases h : lz k d with
    | none => rfl
    | some p =>
      have := lz_pos k d p h
      show none = tak 0 p
      unfold tak
      rw [if_neg (by omega)]
  | n + 1, 0, _, h => h.elim
  | n + 1, k + 1, d, hp => by
    cases hk : kindD d with
    | false => rw [lz_not hk, sw_not hk]; rfl
    | true =>
      obtain ⟨w, r, rfl⟩ := kind_of hk
      unfold sw lz
      cases ho : okW w r with
      | false => rfl
      | true =>
        simp only [if_true]
        have hin := ok_plc ho
        have ih : ∀ x ∈ plc w r, sw n x = (lz k x).bind (tak n) := fun x hx => sw_lz n k x (hp.of (hin x hx))
        have hp1 : ∀ x p, lz k x = some p → 1 ≤ p.1 := lz_pos k
        have one : ∀ x, plc w r = [x] → (if (plc w r).isEmpty = true then some 1 else Option.map (fun y => y * mulW w r) (sumO (List.map (sw n) (plc w r)))) = (Option.map (fun p => (p.1 + 1, p.2 * mulW w r + (if (plc w r).isEmpty = true then 1 else 0))) (acc2 (List.map (lz k) (plc w r)) 0 0)).bind (tak (n + 1)) := by
          intro x e
          rw [e] at ih ⊢
          have e1 := ih x List.mem_cons_self
          cases h : lz k x with
          | none => rw [h] at e1; simp [sumO, acc2, h, e1]
          | some p =>
            obtain ⟨a, b⟩ := p
            have := hp1 x _ h
            rw [h] at e1
            simp only [Option.bind_some, tak] at e1
            simp only [List.map_cons, List.map_nil, h, acc2, List.isEmpty_cons, Bool.false_eq_true, if_false, Option.map_some, Option.bind_some, tak, e1]
            rw [if_pos (show a > 0 by simp only at this; omega)]
            by_cases hl : a ≤ (n : Int)
            · rw [if_pos hl, if_pos (show a + 1 ≤ ((n + 1 : Nat) : Int) by omega)]; simp [sumO]
            · rw [if_neg hl, if_neg (show ¬ a + 1 ≤ ((n + 1 : Nat) : Int) by omega)]; simp [sumO]
        rcases plc_cases w r with ⟨e, et⟩ | ⟨e, et⟩ | ⟨e, et⟩ | ⟨e, et⟩
        · rw [e]
          simp only [List.isEmpty_nil, if_true, List.map_nil, acc2, Option.map_some, Option.bind_some, tak]
          rw [if_pos (show (0 : Int) + 1 ≤ ((n + 1 : Nat) : Int) by omega)]
          simp
        · exact one _ e
        · rw [e] at ih ⊢
          have e1 := ih _ List.mem_cons_self
          have e2 := ih _ (List.mem_cons_of_mem _ List.mem_cons_self)
          cases h : lz k (r0 r) with
          | none => rw [h] at e1; simp [sumO, acc2, h, e1]
          | some p =>
            obtain ⟨a, b⟩ := p
            have p1 := hp1 _ _ h
            cases h' : lz k (r1 r) with
            | none => rw [h'] at e2; rw [h] at e1; simp [tak, sumO, acc2, h, e1, e2, h']; split <;> simp [sumO, e2]
            | some p =>
              obtain ⟨a', b'⟩ := p
              have p2 := hp1 _ _ h'
              rw [h] at e1
              rw [h'] at e2
              simp only [Option.bind_some, tak] at e1 e2 p1 p2
              simp only [List.map_cons, List.map_nil, h, h', acc2, List.isEmpty_cons, Bool.false_eq_true, if_false, Option.map_some, Option.bind_some, tak, e1, e2]
              rw [if_pos (show a > 0 by omega)]
              have hmm : ∃ mx, (if a' > a then a' else a) = mx ∧ a ≤ mx ∧ a' ≤ mx ∧ (mx = a ∨ mx = a') := by
                by_cases q : a' > a
                · exact ⟨a', if_pos q, by omega, by omega, .inr rfl⟩
                · exact ⟨a, if_neg q, by omega, by omega, .inl rfl⟩
              obtain ⟨mx, q0, q1, q2, q3⟩ := hmm
              rw [q0]
              by_cases hl : a ≤ (n : Int)
              · by_cases hl' : a' ≤ (n : Int)
                · rw [if_pos hl, if_pos hl', if_pos (show mx + 1 ≤ ((n + 1 : Nat) : Int) by omega)]; simp [sumO]
                · rw [if_pos hl, if_neg hl', if_neg (show ¬ mx + 1 ≤ ((n + 1 : Nat) : Int) by omega)]; simp [sumO]
              · rw [if_neg hl, if_neg (show ¬ mx + 1 ≤ ((n + 1 : Nat) : Int) by omega)]; simp [sumO]
        · exact one _ e
end K63

set_option Elab.async false
set_option linter.all false
set_option maxRecDepth 100000
set_option maxHeartbeats 2000000
namespace K63
open PySem L2 Sm
local macro_rules | `(tactic| walk_at "go") => `(tactic| simp only [n_op2, n_op2a, n_dat2, n_tst2, n_rd2, n_rd2s, n_rdt2, n_rdt2s, n_getd, n_getr, n_getl, n_not2, n_no, n_and, n_andt, n_andf, n_or, n_ort, n_orf, n_not, n_T, n_t, n_tand, n_tandt, n_tandf, n_tor, n_tort, n_torf, n_tnot, n_tn, n_if, n_ift, n_iff, n_ch, n_ch1, n_ch2, n_ch3t, n_ch3f, n_un, n_und, n_nil, n_cons, n_cons1, n_cons2, n_tup, n_tu, n_tus, n_lst, n_ls, n_lss, n_dn, n_dc, n_ofl, n_ofl2, n_new, n_new2, n_is, n_is2, n_is3, n_cal, n_calL, n_nop, n_part, n_pt, n_sl, n_sl1, n_sl2, n_sl3, n_slw, n_isno, n_isnot, n_isnoi, n_isnol, n_isnou, n_iter, n_itl, n_itu, n_its, n_c, n_var, n_va, n_seq, n_sqn, n_sqr, n_sqe, n_pass, n_set, n_se, n_ret, n_re, n_retn, n_drop, n_dr, n_ifs, n_ifst, n_ifsf, n_raise, n_par, n_pa, n_asg, n_as, n_aso, n_gT2, n_gN, n_for, n_fo, n_lo0, n_lo, n_lon, n_lor, n_step, n_st, n_try, n_catn, n_catr, n_def, n_outn, n_outr, n_oute, n_len, n_lend, n_lenl, n_lenu, n_max, n_min, n_inti, n_intb, n_tupl, n_addi, n_subi, n_lei, n_lti, n_gti, n_negi, n_lc, n_lcs, n_lp0, n_lp1, n_lps, n_lpn, n_turn, n_tc, n_yes, n_nox, n_tct, n_tcf, n_one, n_w0, n_w1, n_sum, n_sums, n_in0, n_in1, bind_ok, bind_exc, rF_ok, rF_exc, ofO_some, lenW1, lenW2, lenW3, lenW4, lenW5, id_eq, List.length_cons, List.length_nil, List.map_cons, List.map_nil, List.cons_append, List.nil_append, List.getElem?_cons_zero, List.getElem?_cons_succ, List.replicate, Nat.sub_self, List.append_nil, List.set_cons_zero, List.set_cons_succ, if_true, if_false, ite_true, ite_false, Bool.false_eq_true, reduceCtorEq, Option.map_some, is_int, is_bool, is_str, is_tuple, Nat.zero_add, Nat.reduceAdd, Nat.reduceSub, Nat.reduceLeDiff, isT, ixt0, ixt1, ixt2, ixt3, ixl0, ixl1, in2, in3, in2L, in3L, eqss, eqii, beq_self_eq_true, Bool.not_true, Bool.not_false, Bool.or_true, Bool.or_false, Bool.true_or, Bool.false_or, Bool.and_true, Bool.and_false, Bool.true_and, Bool.false_and, Int.reduceLE, Int.reduceLT, Int.reduceNeg, decide_true, decide_false, Int.reduceSub, Int.reduceAdd, sizeLine, Nat.reducePow, Int.cast_ofNat_Int, Int.reduceBEq, bg1, bg2, bg3, bg4, powE, powE8, String.reduceBEq, Nat.reduceLT, nI1, nI2, nI3, nI4, nI5, nI6, Int.add_zero, Int.mul_one, List.isEmpty_cons, List.isEmpty_nil, List.sum_cons, List.sum_nil, *])
local macro_rules | `(tactic| walk_at "end") => `(tactic| simp [kAH, kWB, kN, kT, kTO, kSPM, sizeLine, r0, r1, r2, n_outn, n_outr, n_oute, bigt, bigc, n_ifst, n_ifsf, n_ift, n_iff, n_sqn, n_sqr, n_re, n_pass, *])
def bk : Nat → PyData → PyData
  | 0, d => d
  | n + 1, .tuple (.str w :: r) =>
    if kWB w then .tuple [.str (if w == "word" then "back" else "word"), r0 r]
    else if (plc w r).isEmpty then .tuple (.str w :: r)
    else if w == "then" then .tuple [.str "then", bk n (r1 r), bk n (r0 r)]
    else if w == "or" then .tuple [.str w, bk n (r0 r), bk n (r1 r)]
    else if kT w then .tuple [.str w, r0 r, r1 r, bk n (r2 r)]
    else .tuple [.str w, bk n (r0 r)]
  | _ + 1, d => d
theorem sw_ok {n : Nat} {d : PyData} (h : sw n d ≠ none) : ∃ m w r, n = m + 1 ∧ d = .tuple (.str w :: r) ∧ okW w r = true ∧ ∀ x ∈ plc w r, sw m x ≠ none := by
  cases n with
  | zero => exact absurd rfl h
  | succ n =>
    cases hk : kindD d with
    | false => exact absurd (sw_not hk) h
    | true =>
      obtain ⟨w, r, rfl⟩ := kind_of hk
      refine ⟨n, w, r, rfl, rfl, ?_, ?_⟩
      · cases ho : okW w r with
        | true => rfl
        | false => exact absurd (by unfold sw; rw [ho]; rfl) h
      · have ho : okW w r = true := by
          cases ho : okW w r with
          | true => rfl
          | false => exact absurd (by unfold sw; rw [ho]; rfl) h
        intro x hx e
        apply h
        unfold sw
        rw [ho]
        rcases plc_cases w r with ⟨q, et⟩ | ⟨q, et⟩ | ⟨q, et⟩ | ⟨q, et⟩ <;> rw [q] at hx ⊢
        · cases hx
        · have := List.mem_singleton.mp hx
          subst this
          simp [sumO, e]
        · rcases List.mem_cons.mp hx with rfl | hx
          · simp [sumO, e]
          · have := List.mem_singleton.mp hx
            subst this
            cases hq : sw n (r0 r) <;> simp [sumO, e, hq]
        · have := List.mem_singleton.mp hx
          subst this
          simp [sumO, e]
theorem cu21 {a b : PyData} : cutD [a, b] none (some 1) = [a] := rfl
theorem cu31 {a b c : PyData} : cutD [a, b, c] none (some 1) = [a] := rfl
theorem cu32 {a b c : PyData} : cutD [a, b, c] none (some 2) = [a, b] := rfl
theorem cu43 {a b c d : PyData} : cutD [a, b, c, d] none (some 3) = [a, b, c] := rfl
theorem cv22 {a b : PyData} : cutD [a, b] (some 2) none = [] := rfl
theorem cv32 {a b c : PyData} : cutD [a, b, c] (some 2) none = [c] := rfl
theorem cv33 {a b c : PyData} : cutD [a, b, c] (some 3) none = [] := rfl
theorem cv44 {a b c d : PyData} : cutD [a, b, c, d] (some 4) none = [] := rfl
theorem sl_t {xs : List PyData} {l h : Option Int} : slD (.tuple xs) l h = some (.tuple (cutD xs l h)) := rfl
theorem ad_t {xs ys : List PyData} : addD (.tuple xs) (.tuple ys) = if xs.length + ys.length ≤ sizeLine then some (.tuple (xs ++ ys)) else none := rfl
theorem rs0 {a : PyData} {r : List PyData} : r0 (a :: r) = a := rfl
theorem rs1 {a b : PyData} {r : List PyData} : r1 (a :: b :: r) = b := rfl
theorem rs2 {a b c : PyData} {r : List PyData} : r2 (a :: b :: c :: r) = c := rfl
local macro_rules | `(tactic| walk_at "go2") => `(tactic| simp only [n_op2, n_op2a, n_dat2, n_tst2, n_rd2, n_rd2s, n_rdt2, n_rdt2s, n_getd, n_getr, n_getl, n_not2, n_no, n_and, n_andt, n_andf, n_or, n_ort, n_orf, n_not, n_T, n_t, n_tand, n_tandt, n_tandf, n_tor, n_tort, n_torf, n_tnot, n_tn, n_if, n_ift, n_iff, n_ch, n_ch1, n_ch2, n_ch3t, n_ch3f, n_un, n_und, n_nil, n_cons, n_cons1, n_cons2, n_tup, n_tu, n_tus, n_lst, n_ls, n_lss, n_dn, n_dc, n_ofl, n_ofl2, n_new, n_new2, n_is, n_is2, n_is3, n_cal, n_calL, n_nop, n_part, n_pt, n_sl, n_sl1, n_sl2, n_sl3, n_slw, n_isno, n_isnot, n_isnoi, n_isnol, n_isnou, n_iter, n_itl, n_itu, n_its, n_c, n_var, n_va, n_seq, n_sqn, n_sqr, n_sqe, n_pass, n_set, n_se, n_ret, n_re, n_retn, n_drop, n_dr, n_ifs, n_ifst, n_ifsf, n_raise, n_par, n_pa, n_asg, n_as, n_aso, n_gT2, n_gN, n_for, n_fo, n_lo0, n_lo, n_lon, n_lor, n_step, n_st, n_try, n_catn, n_catr, n_def, n_outn, n_outr, n_oute, n_len, n_lend, n_lenl, n_lenu, n_max, n_min, n_inti, n_intb, n_tupl, n_addi, n_subi, n_lei, n_lti, n_gti, n_negi, n_lc, n_lcs, n_lp0, n_lp1, n_lps, n_lpn, n_turn, n_tc, n_yes, n_nox, n_tct, n_tcf, n_one, n_w0, n_w1, n_sum, n_sums, n_in0, n_in1, bind_ok, bind_exc, rF_ok, rF_exc, ofO_some, lenW1, lenW2, lenW3, lenW4, lenW5, id_eq, List.length_cons, List.length_nil, List.map_cons, List.map_nil, List.cons_append, List.nil_append, List.getElem?_cons_zero, List.getElem?_cons_succ, List.replicate, Nat.sub_self, List.append_nil, List.set_cons_zero, List.set_cons_succ, if_true, if_false, ite_true, ite_false, Bool.false_eq_true, reduceCtorEq, Option.map_some, is_int, is_bool, is_str, is_tuple, Nat.zero_add, Nat.reduceAdd, Nat.reduceSub, Nat.reduceLeDiff, isT, ixt0, ixt1, ixt2, ixt3, ixl0, ixl1, in2, in3, in2L, in3L, eqss, eqii, beq_self_eq_true, Bool.not_true, Bool.not_false, Bool.or_true, Bool.or_false, Bool.true_or, Bool.false_or, Bool.and_true, Bool.and_false, Bool.true_and, Bool.false_and, Int.reduceLE, Int.reduceLT, Int.reduceNeg, decide_true, decide_false, Int.reduceSub, Int.reduceAdd, sizeLine, Nat.reducePow, Int.cast_ofNat_Int, Int.reduceBEq, bg1, bg2, bg3, bg4, powE, powE8, String.reduceBEq, Nat.reduceLT, nI1, nI2, nI3, nI4, nI5, nI6, Int.add_zero, Int.mul_one, List.isEmpty_cons, List.isEmpty_nil, List.sum_cons, List.sum_nil, cu21, cu31, cu32, cu43, cv22, cv32, cv33, cv44, sl_t, ad_t, rs0, rs1, rs2, kWB, kAH, kN, kT, kTO, kSPM, *])
theorem ok_shape {w : Str} {r : List PyData} (h : okW w r = true) : (kAH w = true → r = []) ∧ (kWB w = true → ∃ a, r = [a]) ∧ (kN w = true → ∃ a b, r = [a, b]) ∧ (kTO w = true → ∃ a b, r = [a, b]) ∧ (kSPM w = true → ∃ a, r = [a]) ∧ (kT w = true → ∃ a b c, r = [a, b, c]) := by
  unfold okW at h
  rcases kw w with k | k | k | k | k | k | k | k | k | k | k | k <;> (obtain ⟨a0, c0, a1, c1, a2, c2, a3, c3, a4, c4, a5, c5, a6, c6, a7, c7, a8, c8, a9, c9, a10, c10⟩ := k; simp [kAH, kWB, kN, kTO, kSPM, kT, *] at h ⊢)
  all_goals (cases shp r <;> simp at h <;> simp)
theorem ev_turned_of : ∀ (n k p : Nat) (d : PyData) (S : SS), n ≤ k → Pl p d → sw n d ≠ none → m_turned_of k [.dat d] S = .ok (.dat (bk n d)) S
  | 0, _, _, _, _, _, _, h => absurd rfl h
  | n + 1, 0, _, _, _, h, _, _ => absurd h (Nat.not_succ_le_zero _)
  | n + 1, k + 1, 0, _, _, _, h, _ => h.elim
  | n + 1, k + 1, p + 1, d, S, hn, hp, h => by
    obtain ⟨m, w, r, e1, rfl, ho, hs⟩ := sw_ok h
    cases e1
    have hin := ok_plc ho
    have hrec : ∀ x ∈ plc w r, m_turned_of k [.dat x] S = .ok (.dat (bk n x)) S := fun x hx => ev_turned_of n k p x S (Nat.le_of_succ_le_succ hn) (hp.of (hin x hx)) (hs x hx)
    have hpo := ev_parts_of w r S
    obtain ⟨o1, o2, o3, o4, o5, o6⟩ := ok_shape ho
    clear hin hs h hp
    rw [ho] at hpo
    unfold m_turned_of mb_turned_of bk
    rcases kw w with q | q | q | q | q | q | q | q | q | q | q | q <;> obtain ⟨a0, c0, a1, c1, a2, c2, a3, c3, a4, c4, a5, c5, a6, c6, a7, c7, a8, c8, a9, c9, a10, c10⟩ := q
    case inl => cases o1 (by simp [kAH, *]); clear o1 o2 o3 o4 o5 o6 hrec; unfold plc; walk_at "go2"
    case inr.inl => cases o1 (by simp [kAH, *]); clear o1 o2 o3 o4 o5 o6 hrec; unfold plc; walk_at "go2"
    case inr.inr.inl => obtain ⟨a, rfl⟩ := o2 (by simp [kWB, *]); clear o1 o2 o3 o4 o5 o6 hrec; unfold plc; walk_at "go2"
    case inr.inr.inr.inl => obtain ⟨a, rfl⟩ := o2 (by simp [kWB, *]); clear o1 o2 o3 o4 o5 o6 hrec; unfold plc; walk_at "go2"
    case inr.inr.inr.inr.inl => obtain ⟨a, b, rfl⟩ := o3 (by simp [kN, *]); clear o1 o2 o3 o4 o5 o6 hrec; unfold plc; walk_at "go2"
    case inr.inr.inr.inr.inr.inl =>
      obtain ⟨a, b, c, rfl⟩ := o6 (by simp [kT, *])
      have e : plc w [a, b, c] = [c] := by unfold plc; simp [kTO, kSPM, kT, r2, *]
      rw [e] at hrec hpo ⊢
      have q1 := hrec c List.mem_cons_self
      clear o1 o2 o3 o4 o5 o6 hrec
      walk_at "go2"
    case inr.inr.inr.inr.inr.inr.inl =>
      obtain ⟨a, b, rfl⟩ := o4 (by simp [kTO, *])
      have e : plc w [a, b] = [a, b] := by unfold plc; simp [kTO, kSPM, kT, r0, r1, *]
      rw [e] at hrec hpo ⊢
      have q1 := hrec a List.mem_cons_self
      have q2 := hrec b (List.mem_cons_of_mem _ List.mem_cons_self)
      clear o1 o2 o3 o4 o5 o6 hrec
      walk_at "go2"
    case inr.inr.inr.inr.inr.inr.inr.inl =>
      obtain ⟨a, b, rfl⟩ := o4 (by simp [kTO, *])
      have e : plc w [a, b] = [a, b] := by unfold plc; simp [kTO, kSPM, kT, r0, r1, *]
      rw [e] at hrec hpo ⊢
      have q1 := hrec a List.mem_cons_self
      have q2 := hrec b (List.mem_cons_of_mem _ List.mem_cons_self)
      clear o1 o2 o3 o4 o5 o6 hrec
      walk_at "go2"
    case inr.inr.inr.inr.inr.inr.inr.inr.inr.inr.inr =>
      exfalso
      unfold okW at ho
      simp [kAH, kWB, kN, kTO, kSPM, kT, *] at ho
    all_goals
      obtain ⟨a, rfl⟩ := o5 (by simp [kSPM, *])
      have e : plc w [a] = [a] := by unfold plc; simp [kTO, kSPM, kT, r0, r1, *]
      rw [e] at hrec hpo ⊢
      have q1 := hrec a List.mem_cons_self
      clear o1 o2 o3 o4 o5 o6 hrec
      walk_at "go2"
end K63

set_option Elab.async false
set_option linter.all false
set_option maxRecDepth 100000
set_option maxHeartbeats 2000000
namespace K63
open PySem L2 Sm
local macro_rules | `(tactic| walk_at "go") => `(tactic| simp only [n_op2, n_op2a, n_dat2, n_tst2, n_rd2, n_rd2s, n_rdt2, n_rdt2s, n_getd, n_getr, n_getl, n_not2, n_no, n_and, n_andt, n_andf, n_or, n_ort, n_orf, n_not, n_T, n_t, n_tand, n_tandt, n_tandf, n_tor, n_tort, n_torf, n_tnot, n_tn, n_if, n_ift, n_iff, n_ch, n_ch1, n_ch2, n_ch3t, n_ch3f, n_un, n_und, n_nil, n_cons, n_cons1, n_cons2, n_tup, n_tu, n_tus, n_lst, n_ls, n_lss, n_dn, n_dc, n_ofl, n_ofl2, n_new, n_new2, n_is, n_is2, n_is3, n_cal, n_calL, n_nop, n_part, n_pt, n_sl, n_sl1, n_sl2, n_sl3, n_slw, n_isno, n_isnot, n_isnoi, n_isnol, n_isnou, n_iter, n_itl, n_itu, n_its, n_c, n_var, n_va, n_seq, n_sqn, n_sqr, n_sqe, n_pass, n_set, n_se, n_ret, n_re, n_retn, n_drop, n_dr, n_ifs, n_ifst, n_ifsf, n_raise, n_par, n_pa, n_asg, n_as, n_aso, n_gT2, n_gN, n_for, n_fo, n_lo0, n_lo, n_lon, n_lor, n_step, n_st, n_try, n_catn, n_catr, n_def, n_outn, n_outr, n_oute, n_len, n_lend, n_lenl, n_lenu, n_max, n_min, n_inti, n_intb, n_tupl, n_addi, n_subi, n_lei, n_lti, n_gti, n_negi, n_lc, n_lcs, n_lp0, n_lp1, n_lps, n_lpn, n_turn, n_tc, n_yes, n_nox, n_tct, n_tcf, n_one, n_w0, n_w1, n_sum, n_sums, n_in0, n_in1, bind_ok, bind_exc, rF_ok, rF_exc, ofO_some, lenW1, lenW2, lenW3, lenW4, lenW5, id_eq, List.length_cons, List.length_nil, List.map_cons, List.map_nil, List.cons_append, List.nil_append, List.getElem?_cons_zero, List.getElem?_cons_succ, List.replicate, Nat.sub_self, List.append_nil, List.set_cons_zero, List.set_cons_succ, if_true, if_false, ite_true, ite_false, Bool.false_eq_true, reduceCtorEq, Option.map_some, is_int, is_bool, is_str, is_tuple, Nat.zero_add, Nat.reduceAdd, Nat.reduceSub, Nat.reduceLeDiff, isT, ixt0, ixt1, ixt2, ixt3, ixl0, ixl1, in2, in3, in2L, in3L, eqss, eqii, beq_self_eq_true, Bool.not_true, Bool.not_false, Bool.or_true, Bool.or_false, Bool.true_or, Bool.false_or, Bool.and_true, Bool.and_false, Bool.true_and, Bool.false_and, Int.reduceLE, Int.reduceLT, Int.reduceNeg, decide_true, decide_false, Int.reduceSub, Int.reduceAdd, sizeLine, Nat.reducePow, Int.cast_ofNat_Int, Int.reduceBEq, bg1, bg2, bg3, bg4, powE, powE8, String.reduceBEq, Nat.reduceLT, nI1, nI2, nI3, nI4, nI5, nI6, Int.add_zero, Int.mul_one, List.isEmpty_cons, List.isEmpty_nil, List.sum_cons, List.sum_nil, *])
local macro_rules | `(tactic| walk_at "go2") => `(tactic| simp only [n_op2, n_op2a, n_dat2, n_tst2, n_rd2, n_rd2s, n_rdt2, n_rdt2s, n_getd, n_getr, n_getl, n_not2, n_no, n_and, n_andt, n_andf, n_or, n_ort, n_orf, n_not, n_T, n_t, n_tand, n_tandt, n_tandf, n_tor, n_tort, n_torf, n_tnot, n_tn, n_if, n_ift, n_iff, n_ch, n_ch1, n_ch2, n_ch3t, n_ch3f, n_un, n_und, n_nil, n_cons, n_cons1, n_cons2, n_tup, n_tu, n_tus, n_lst, n_ls, n_lss, n_dn, n_dc, n_ofl, n_ofl2, n_new, n_new2, n_is, n_is2, n_is3, n_cal, n_calL, n_nop, n_part, n_pt, n_sl, n_sl1, n_sl2, n_sl3, n_slw, n_isno, n_isnot, n_isnoi, n_isnol, n_isnou, n_iter, n_itl, n_itu, n_its, n_c, n_var, n_va, n_seq, n_sqn, n_sqr, n_sqe, n_pass, n_set, n_se, n_ret, n_re, n_retn, n_drop, n_dr, n_ifs, n_ifst, n_ifsf, n_raise, n_par, n_pa, n_asg, n_as, n_aso, n_gT2, n_gN, n_for, n_fo, n_lo0, n_lo, n_lon, n_lor, n_step, n_st, n_try, n_catn, n_catr, n_def, n_outn, n_outr, n_oute, n_len, n_lend, n_lenl, n_lenu, n_max, n_min, n_inti, n_intb, n_tupl, n_addi, n_subi, n_lei, n_lti, n_gti, n_negi, n_lc, n_lcs, n_lp0, n_lp1, n_lps, n_lpn, n_turn, n_tc, n_yes, n_nox, n_tct, n_tcf, n_one, n_w0, n_w1, n_sum, n_sums, n_in0, n_in1, bind_ok, bind_exc, rF_ok, rF_exc, ofO_some, lenW1, lenW2, lenW3, lenW4, lenW5, id_eq, List.length_cons, List.length_nil, List.map_cons, List.map_nil, List.cons_append, List.nil_append, List.getElem?_cons_zero, List.getElem?_cons_succ, List.replicate, Nat.sub_self, List.append_nil, List.set_cons_zero, List.set_cons_succ, if_true, if_false, ite_true, ite_false, Bool.false_eq_true, reduceCtorEq, Option.map_some, is_int, is_bool, is_str, is_tuple, Nat.zero_add, Nat.reduceAdd, Nat.reduceSub, Nat.reduceLeDiff, isT, ixt0, ixt1, ixt2, ixt3, ixl0, ixl1, in2, in3, in2L, in3L, eqss, eqii, beq_self_eq_true, Bool.not_true, Bool.not_false, Bool.or_true, Bool.or_false, Bool.true_or, Bool.false_or, Bool.and_true, Bool.and_false, Bool.true_and, Bool.false_and, Int.reduceLE, Int.reduceLT, Int.reduceNeg, decide_true, decide_false, Int.reduceSub, Int.reduceAdd, sizeLine, Nat.reducePow, Int.cast_ofNat_Int, Int.reduceBEq, bg1, bg2, bg3, bg4, powE, powE8, String.reduceBEq, Nat.reduceLT, nI1, nI2, nI3, nI4, nI5, nI6, Int.add_zero, Int.mul_one, List.isEmpty_cons, List.isEmpty_nil, List.sum_cons, List.sum_nil, cu21, cu31, cu32, cu43, cv22, cv32, cv33, cv44, sl_t, ad_t, rs0, rs1, rs2, kWB, kAH, kN, kT, kTO, kSPM, *])
local macro_rules | `(tactic| walk_at "end") => `(tactic| simp [kAH, kWB, kN, kT, kTO, kSPM, sizeLine, r0, r1, r2, n_outn, n_outr, n_oute, bigt, bigc, n_ifst, n_ifsf, n_ift, n_iff, n_sqn, n_sqr, n_re, n_pass, *])
theorem ev_law_back : ∀ (n k p : Nat) (d : PyData) (S : SS), n ≤ k → Pl p d → sw n d ≠ none → m__law_back k [.dat d] S = .ok (.dat (bk n d)) S
  | 0, _, _, _, _, _, _, h => absurd rfl h
  | n + 1, 0, _, _, _, h, _, _ => absurd h (Nat.not_succ_le_zero _)
  | n + 1, k + 1, 0, _, _, _, h, _ => h.elim
  | n + 1, k + 1, p + 1, d, S, hn, hp, h => by
    obtain ⟨m, w, r, e1, rfl, ho, hs⟩ := sw_ok h
    cases e1
    have hin := ok_plc ho
    have hrec : ∀ x ∈ plc w r, m__law_back k [.dat x] S = .ok (.dat (bk n x)) S := fun x hx => ev_law_back n k p x S (Nat.le_of_succ_le_succ hn) (hp.of (hin x hx)) (hs x hx)
    have hpo := ev_law_parts w r S
    obtain ⟨o1, o2, o3, o4, o5, o6⟩ := ok_shape ho
    clear hin hs h hp
    unfold m__law_back mb__law_back bk
    rcases kw w with q | q | q | q | q | q | q | q | q | q | q | q <;> obtain ⟨a0, c0, a1, c1, a2, c2, a3, c3, a4, c4, a5, c5, a6, c6, a7, c7, a8, c8, a9, c9, a10, c10⟩ := q
    case inl => cases o1 (by simp [kAH, *]); clear o1 o2 o3 o4 o5 o6 hrec; unfold plcN at hpo; unfold plc; walk_at "go2"
    case inr.inl => cases o1 (by simp [kAH, *]); clear o1 o2 o3 o4 o5 o6 hrec; unfold plcN at hpo; unfold plc; walk_at "go2"
    case inr.inr.inl => obtain ⟨a, rfl⟩ := o2 (by simp [kWB, *]); clear o1 o2 o3 o4 o5 o6 hrec; unfold plc; walk_at "go2"
    case inr.inr.inr.inl => obtain ⟨a, rfl⟩ := o2 (by simp [kWB, *]); clear o1 o2 o3 o4 o5 o6 hrec; unfold plc; walk_at "go2"
    case inr.inr.inr.inr.inl => obtain ⟨a, b, rfl⟩ := o3 (by simp [kN, *]); clear o1 o2 o3 o4 o5 o6 hrec; unfold plcN at hpo; unfold plc; walk_at "go2"
    case inr.inr.inr.inr.inr.inl =>
      obtain ⟨a, b, c, rfl⟩ := o6 (by simp [kT, *])
      have e : plc w [a, b, c] = [c] := by unfold plc; simp [kTO, kSPM, kT, r2, *]
      rw [e] at hrec ⊢
      have e' : plcN w = [.int 3] := by unfold plcN; simp [kTO, kSPM, kT, *]
      rw [e'] at hpo
      have q1 := hrec c List.mem_cons_self
      clear o1 o2 o3 o4 o5 o6 hrec
      walk_at "go2"
    case inr.inr.inr.inr.inr.inr.inl =>
      obtain ⟨a, b, rfl⟩ := o4 (by simp [kTO, *])
      have e : plc w [a, b] = [a, b] := by unfold plc; simp [kTO, kSPM, kT, r0, r1, *]
      rw [e] at hrec ⊢
      have q1 := hrec a List.mem_cons_self
      have q2 := hrec b (List.mem_cons_of_mem _ List.mem_cons_self)
      clear o1 o2 o3 o4 o5 o6 hrec
      walk_at "go2"
    case inr.inr.inr.inr.inr.inr.inr.inl =>
      obtain ⟨a, b, rfl⟩ := o4 (by simp [kTO, *])
      have e : plc w [a, b] = [a, b] := by unfold plc; simp [kTO, kSPM, kT, r0, r1, *]
      rw [e] at hrec ⊢
      have e' : plcN w = [.int 1, .int 2] := by unfold plcN; simp [kTO, kSPM, kT, *]
      rw [e'] at hpo
      have q1 := hrec a List.mem_cons_self
      have q2 := hrec b (List.mem_cons_of_mem _ List.mem_cons_self)
      clear o1 o2 o3 o4 o5 o6 hrec
      walk_at "go2"
    case inr.inr.inr.inr.inr.inr.inr.inr.inr.inr.inr =>
      exfalso
      unfold okW at ho
      simp [kAH, kWB, kN, kTO, kSPM, kT, *] at ho
    all_goals
      obtain ⟨a, rfl⟩ := o5 (by simp [kSPM, *])
      have e : plc w [a] = [a] := by unfold plc; simp [kTO, kSPM, kT, r0, r1, *]
      rw [e] at hrec ⊢
      have e' : plcN w = [.int 1] := by unfold plcN; simp [kTO, kSPM, kT, *]
      rw [e'] at hpo
      have q1 := hrec a List.mem_cons_self
      clear o1 o2 o3 o4 o5 o6 hrec
      walk_at "go2"
end K63

set_option Elab.async false
set_option linter.all false
set_option maxRecDepth 100000
set_option maxHeartbeats 2000000
namespace K63
open PySem L2 Sm
local macro_rules | `(tactic| walk_at "go") => `(tactic| simp only [n_op2, n_op2a, n_dat2, n_tst2, n_rd2, n_rd2s, n_rdt2, n_rdt2s, n_getd, n_getr, n_getl, n_not2, n_no, n_and, n_andt, n_andf, n_or, n_ort, n_orf, n_not, n_T, n_t, n_tand, n_tandt, n_tandf, n_tor, n_tort, n_torf, n_tnot, n_tn, n_if, n_ift, n_iff, n_ch, n_ch1, n_ch2, n_ch3t, n_ch3f, n_un, n_und, n_nil, n_cons, n_cons1, n_cons2, n_tup, n_tu, n_tus, n_lst, n_ls, n_lss, n_dn, n_dc, n_ofl, n_ofl2, n_new, n_new2, n_is, n_is2, n_is3, n_cal, n_calL, n_nop, n_part, n_pt, n_sl, n_sl1, n_sl2, n_sl3, n_slw, n_isno, n_isnot, n_isnoi, n_isnol, n_isnou, n_iter, n_itl, n_itu, n_its, n_c, n_var, n_va, n_seq, n_sqn, n_sqr, n_sqe, n_pass, n_set, n_se, n_ret, n_re, n_retn, n_drop, n_dr, n_ifs, n_ifst, n_ifsf, n_raise, n_par, n_pa, n_asg, n_as, n_aso, n_gT2, n_gN, n_for, n_fo, n_lo0, n_lo, n_lon, n_lor, n_step, n_st, n_try, n_catn, n_catr, n_def, n_outn, n_outr, n_oute, n_len, n_lend, n_lenl, n_lenu, n_max, n_min, n_inti, n_intb, n_tupl, n_addi, n_subi, n_lei, n_lti, n_gti, n_negi, n_lc, n_lcs, n_lp0, n_lp1, n_lps, n_lpn, n_turn, n_tc, n_yes, n_nox, n_tct, n_tcf, n_one, n_w0, n_w1, n_sum, n_sums, n_in0, n_in1, bind_ok, bind_exc, rF_ok, rF_exc, ofO_some, lenW1, lenW2, lenW3, lenW4, lenW5, id_eq, List.length_cons, List.length_nil, List.map_cons, List.map_nil, List.cons_append, List.nil_append, List.getElem?_cons_zero, List.getElem?_cons_succ, List.replicate, Nat.sub_self, List.append_nil, List.set_cons_zero, List.set_cons_succ, if_true, if_false, ite_true, ite_false, Bool.false_eq_true, reduceCtorEq, Option.map_some, is_int, is_bool, is_str, is_tuple, Nat.zero_add, Nat.reduceAdd, Nat.reduceSub, Nat.reduceLeDiff, isT, ixt0, ixt1, ixt2, ixt3, ixl0, ixl1, in2, in3, in2L, in3L, eqss, eqii, beq_self_eq_true, Bool.not_true, Bool.not_false, Bool.or_true, Bool.or_false, Bool.true_or, Bool.false_or, Bool.and_true, Bool.and_false, Bool.true_and, Bool.false_and, Int.reduceLE, Int.reduceLT, Int.reduceNeg, decide_true, decide_false, Int.reduceSub, Int.reduceAdd, sizeLine, Nat.reducePow, Int.cast_ofNat_Int, Int.reduceBEq, bg1, bg2, bg3, bg4, powE, powE8, String.reduceBEq, Nat.reduceLT, nI1, nI2, nI3, nI4, nI5, nI6, Int.add_zero, Int.mul_one, List.isEmpty_cons, List.isEmpty_nil, List.sum_cons, List.sum_nil, *])
local macro_rules | `(tactic| walk_at "go2") => `(tactic| simp only [n_op2, n_op2a, n_dat2, n_tst2, n_rd2, n_rd2s, n_rdt2, n_rdt2s, n_getd, n_getr, n_getl, n_not2, n_no, n_and, n_andt, n_andf, n_or, n_ort, n_orf, n_not, n_T, n_t, n_tand, n_tandt, n_tandf, n_tor, n_tort, n_torf, n_tnot, n_tn, n_if, n_ift, n_iff, n_ch, n_ch1, n_ch2, n_ch3t, n_ch3f, n_un, n_und, n_nil, n_cons, n_cons1, n_cons2, n_tup, n_tu, n_tus, n_lst, n_ls, n_lss, n_dn, n_dc, n_ofl, n_ofl2, n_new, n_new2, n_is, n_is2, n_is3, n_cal, n_calL, n_nop, n_part, n_pt, n_sl, n_sl1, n_sl2, n_sl3, n_slw, n_isno, n_isnot, n_isnoi, n_isnol, n_isnou, n_iter, n_itl, n_itu, n_its, n_c, n_var, n_va, n_seq, n_sqn, n_sqr, n_sqe, n_pass, n_set, n_se, n_ret, n_re, n_retn, n_drop, n_dr, n_ifs, n_ifst, n_ifsf, n_raise, n_par, n_pa, n_asg, n_as, n_aso, n_gT2, n_gN, n_for, n_fo, n_lo0, n_lo, n_lon, n_lor, n_step, n_st, n_try, n_catn, n_catr, n_def, n_outn, n_outr, n_oute, n_len, n_lend, n_lenl, n_lenu, n_max, n_min, n_inti, n_intb, n_tupl, n_addi, n_subi, n_lei, n_lti, n_gti, n_negi, n_lc, n_lcs, n_lp0, n_lp1, n_lps, n_lpn, n_turn, n_tc, n_yes, n_nox, n_tct, n_tcf, n_one, n_w0, n_w1, n_sum, n_sums, n_in0, n_in1, bind_ok, bind_exc, rF_ok, rF_exc, ofO_some, lenW1, lenW2, lenW3, lenW4, lenW5, id_eq, List.length_cons, List.length_nil, List.map_cons, List.map_nil, List.cons_append, List.nil_append, List.getElem?_cons_zero, List.getElem?_cons_succ, List.replicate, Nat.sub_self, List.append_nil, List.set_cons_zero, List.set_cons_succ, if_true, if_false, ite_true, ite_false, Bool.false_eq_true, reduceCtorEq, Option.map_some, is_int, is_bool, is_str, is_tuple, Nat.zero_add, Nat.reduceAdd, Nat.reduceSub, Nat.reduceLeDiff, isT, ixt0, ixt1, ixt2, ixt3, ixl0, ixl1, in2, in3, in2L, in3L, eqss, eqii, beq_self_eq_true, Bool.not_true, Bool.not_false, Bool.or_true, Bool.or_false, Bool.true_or, Bool.false_or, Bool.and_true, Bool.and_false, Bool.true_and, Bool.false_and, Int.reduceLE, Int.reduceLT, Int.reduceNeg, decide_true, decide_false, Int.reduceSub, Int.reduceAdd, sizeLine, Nat.reducePow, Int.cast_ofNat_Int, Int.reduceBEq, bg1, bg2, bg3, bg4, powE, powE8, String.reduceBEq, Nat.reduceLT, nI1, nI2, nI3, nI4, nI5, nI6, Int.add_zero, Int.mul_one, List.isEmpty_cons, List.isEmpty_nil, List.sum_cons, List.sum_nil, cu21, cu31, cu32, cu43, cv22, cv32, cv33, cv44, sl_t, ad_t, rs0, rs1, rs2, kWB, kAH, kN, kT, kTO, kSPM, *])
local macro_rules | `(tactic| walk_at "end") => `(tactic| simp [kAH, kWB, kN, kT, kTO, kSPM, sizeLine, r0, r1, r2, n_outn, n_outr, n_oute, bigt, bigc, n_ifst, n_ifsf, n_ift, n_iff, n_sqn, n_sqr, n_re, n_pass, *])
/-- turned: the same size; turned again: the same expression -/
theorem bk_laws : ∀ (n : Nat) (d : PyData), sw n d ≠ none → sw n (bk n d) = sw n d ∧ bk n (bk n d) = d
  | 0, _, h => absurd rfl h
  | n + 1, d, h => by
    obtain ⟨m, w, r, e1, rfl, ho, hs⟩ := sw_ok h
    cases e1
    have hrec : ∀ x ∈ plc w r, sw n (bk n x) = sw n x ∧ bk n (bk n x) = x := fun x hx => bk_laws n x (hs x hx)
    obtain ⟨o1, o2, o3, o4, o5, o6⟩ := ok_shape ho
    clear hs h
    rcases kw w with q | q | q | q | q | q | q | q | q | q | q | q <;> obtain ⟨a0, c0, a1, c1, a2, c2, a3, c3, a4, c4, a5, c5, a6, c6, a7, c7, a8, c8, a9, c9, a10, c10⟩ := q
    case inl =>
      have e : bk (n + 1) (.tuple (.str w :: r)) = .tuple (.str w :: r) := by unfold bk plc; simp [kWB, kTO, kSPM, kT, *]
      rw [e]; exact ⟨rfl, e⟩
    case inr.inl =>
      have e : bk (n + 1) (.tuple (.str w :: r)) = .tuple (.str w :: r) := by unfold bk plc; simp [kWB, kTO, kSPM, kT, *]
      rw [e]; exact ⟨rfl, e⟩
    case inr.inr.inr.inr.inl =>
      have e : bk (n + 1) (.tuple (.str w :: r)) = .tuple (.str w :: r) := by unfold bk plc; simp [kWB, kTO, kSPM, kT, *]
      rw [e]; exact ⟨rfl, e⟩
    case inr.inr.inl =>
      obtain ⟨a, rfl⟩ := o2 (by simp [kWB, *])
      cases eq_of_beq c2
      clear o1 o2 o3 o4 o5 o6 hrec
      have : lettersD a 2 = true := by
        unfold okW at ho
        simpa [kAH, kWB, r0, *] using ho
      refine ⟨?_, rfl⟩
      show sw (n + 1) (.tuple [.str "back", a]) = sw (n + 1) (.tuple [.str "word", a])
      unfold sw okW plc
      rfl
    case inr.inr.inr.inl =>
      obtain ⟨a, rfl⟩ := o2 (by simp [kWB, *])
      cases eq_of_beq c3
      exact ⟨rfl, rfl⟩
    case inr.inr.inr.inr.inr.inl =>
      obtain ⟨a, b, c, rfl⟩ := o6 (by simp [kT, *])
      cases eq_of_beq c5
      obtain ⟨h1, h2⟩ := hrec c List.mem_cons_self
      have e : ∀ x, bk (n + 1) (.tuple [.str "times", a, b, x]) = .tuple [.str "times", a, b, bk n x] := fun _ => rfl
      rw [e, e, h2]
      refine ⟨?_, rfl⟩
      have e' : ∀ x, sw (n + 1) (.tuple [.str "times", a, b, x]) = if okW "times" [a, b, c] then (sumO [sw n x]).map (· * mulW "times" [a, b, c]) else none := fun _ => rfl
      rw [e', e', h1]
    case inr.inr.inr.inr.inr.inr.inl =>
      obtain ⟨a, b, rfl⟩ := o4 (by simp [kTO, *])
      cases eq_of_beq c6
      obtain ⟨h1, h2⟩ := hrec a List.mem_cons_self
      obtain ⟨h3, h4⟩ := hrec b (List.mem_cons_of_mem _ List.mem_cons_self)
      have e : ∀ x y, bk (n + 1) (.tuple [.str "then", x, y]) = .tuple [.str "then", bk n y, bk n x] := fun _ _ => rfl
      rw [e, e, h2, h4]
      refine ⟨?_, rfl⟩
      have e' : ∀ x y, sw (n + 1) (.tuple [.str "then", x, y]) = (sumO [sw n x, sw n y]).map (· * 1) := fun _ _ => rfl
      rw [e', e', h1, h3]
      cases sw n a <;> cases sw n b <;> simp [sumO, Int.add_comm]
    case inr.inr.inr.inr.inr.inr.inr.inl =>
      obtain ⟨a, b, rfl⟩ := o4 (by simp [kTO, *])
      cases eq_of_beq c7
      obtain ⟨h1, h2⟩ := hrec a List.mem_cons_self
      obtain ⟨h3, h4⟩ := hrec b (List.mem_cons_of_mem _ List.mem_cons_self)
      have e : ∀ x y, bk (n + 1) (.tuple [.str "or", x, y]) = .tuple [.str "or", bk n x, bk n y] := fun _ _ => rfl
      rw [e, e, h2, h4]
      refine ⟨?_, rfl⟩
      have e' : ∀ x y, sw (n + 1) (.tuple [.str "or", x, y]) = (sumO [sw n x, sw n y]).map (· * 1) := fun _ _ => rfl
      rw [e', e', h1, h3]
    case inr.inr.inr.inr.inr.inr.inr.inr.inr.inr.inr =>
      exfalso
      unfold okW at ho
      simp [kAH, kWB, kN, kTO, kSPM, kT, *] at ho
    case inr.inr.inr.inr.inr.inr.inr.inr.inl =>
      obtain ⟨a, rfl⟩ := o5 (by simp [kSPM, *])
      cases eq_of_beq c8
      obtain ⟨h1, h2⟩ := hrec a List.mem_cons_self
      have e : ∀ x, bk (n + 1) (.tuple [.str "star", x]) = .tuple [.str "star", bk n x] := fun _ => rfl
      rw [e, e, h2]
      refine ⟨?_, rfl⟩
      have e' : ∀ x, sw (n + 1) (.tuple [.str "star", x]) = (sumO [sw n x]).map (· * 1) := fun _ => rfl
      rw [e', e', h1]
    case inr.inr.inr.inr.inr.inr.inr.inr.inr.inl =>
      obtain ⟨a, rfl⟩ := o5 (by simp [kSPM, *])
      cases eq_of_beq c9
      obtain ⟨h1, h2⟩ := hrec a List.mem_cons_self
      have e : ∀ x, bk (n + 1) (.tuple [.str "plus", x]) = .tuple [.str "plus", bk n x] := fun _ => rfl
      rw [e, e, h2]
      refine ⟨?_, rfl⟩
      have e' : ∀ x, sw (n + 1) (.tuple [.str "plus", x]) = (sumO [sw n x]).map (· * 1) := fun _ => rfl
      rw [e', e', h1]
    case inr.inr.inr.inr.inr.inr.inr.inr.inr.inr.inl =>
      obtain ⟨a, rfl⟩ := o5 (by simp [kSPM, *])
      cases eq_of_beq c10
      obtain ⟨h1, h2⟩ := hrec a List.mem_cons_self
      have e : ∀ x, bk (n + 1) (.tuple [.str "maybe", x]) = .tuple [.str "maybe", bk n x] := fun _ => rfl
      rw [e, e, h2]
      refine ⟨?_, rfl⟩
      have e' : ∀ x, sw (n + 1) (.tuple [.str "maybe", x]) = (sumO [sw n x]).map (· * 1) := fun _ => rfl
      rw [e', e', h1]
end K63

set_option Elab.async false
set_option linter.all false
set_option maxRecDepth 100000
set_option maxHeartbeats 2000000
namespace K63
open PySem L2 Sm
local macro_rules | `(tactic| walk_at "go") => `(tactic| simp only [n_op2, n_op2a, n_dat2, n_tst2, n_rd2, n_rd2s, n_rdt2, n_rdt2s, n_getd, n_getr, n_getl, n_not2, n_no, n_and, n_andt, n_andf, n_or, n_ort, n_orf, n_not, n_T, n_t, n_tand, n_tandt, n_tandf, n_tor, n_tort, n_torf, n_tnot, n_tn, n_if, n_ift, n_iff, n_ch, n_ch1, n_ch2, n_ch3t, n_ch3f, n_un, n_und, n_nil, n_cons, n_cons1, n_cons2, n_tup, n_tu, n_tus, n_lst, n_ls, n_lss, n_dn, n_dc, n_ofl, n_ofl2, n_new, n_new2, n_is, n_is2, n_is3, n_cal, n_calL, n_nop, n_part, n_pt, n_sl, n_sl1, n_sl2, n_sl3, n_slw, n_isno, n_isnot, n_isnoi, n_isnol, n_isnou, n_iter, n_itl, n_itu, n_its, n_c, n_var, n_va, n_seq, n_sqn, n_sqr, n_sqe, n_pass, n_set, n_se, n_ret, n_re, n_retn, n_drop, n_dr, n_ifs, n_ifst, n_ifsf, n_raise, n_par, n_pa, n_asg, n_as, n_aso, n_gT2, n_gN, n_for, n_fo, n_lo0, n_lo, n_lon, n_lor, n_step, n_st, n_try, n_catn, n_catr, n_def, n_outn, n_outr, n_oute, n_len, n_lend, n_lenl, n_lenu, n_max, n_min, n_inti, n_intb, n_tupl, n_addi, n_subi, n_lei, n_lti, n_gti, n_negi, n_lc, n_lcs, n_lp0, n_lp1, n_lps, n_lpn, n_turn, n_tc, n_yes, n_nox, n_tct, n_tcf, n_one, n_w0, n_w1, n_sum, n_sums, n_in0, n_in1, bind_ok, bind_exc, rF_ok, rF_exc, ofO_some, lenW1, lenW2, lenW3, lenW4, lenW5, id_eq, List.length_cons, List.length_nil, List.map_cons, List.map_nil, List.cons_append, List.nil_append, List.getElem?_cons_zero, List.getElem?_cons_succ, List.replicate, Nat.sub_self, List.append_nil, List.set_cons_zero, List.set_cons_succ, if_true, if_false, ite_true, ite_false, Bool.false_eq_true, reduceCtorEq, Option.map_some, is_int, is_bool, is_str, is_tuple, Nat.zero_add, Nat.reduceAdd, Nat.reduceSub, Nat.reduceLeDiff, isT, ixt0, ixt1, ixt2, ixt3, ixl0, ixl1, in2, in3, in2L, in3L, eqss, eqii, beq_self_eq_true, Bool.not_true, Bool.not_false, Bool.or_true, Bool.or_false, Bool.true_or, Bool.false_or, Bool.and_true, Bool.and_false, Bool.true_and, Bool.false_and, Int.reduceLE, Int.reduceLT, Int.reduceNeg, decide_true, decide_false, Int.reduceSub, Int.reduceAdd, sizeLine, Nat.reducePow, Int.cast_ofNat_Int, Int.reduceBEq, bg1, bg2, bg3, bg4, powE, powE8, String.reduceBEq, Nat.reduceLT, nI1, nI2, nI3, nI4, nI5, nI6, Int.add_zero, Int.mul_one, List.isEmpty_cons, List.isEmpty_nil, List.sum_cons, List.sum_nil, *])
local macro_rules | `(tactic| walk_at "go2") => `(tactic| simp only [n_op2, n_op2a, n_dat2, n_tst2, n_rd2, n_rd2s, n_rdt2, n_rdt2s, n_getd, n_getr, n_getl, n_not2, n_no, n_and, n_andt, n_andf, n_or, n_ort, n_orf, n_not, n_T, n_t, n_tand, n_tandt, n_tandf, n_tor, n_tort, n_torf, n_tnot, n_tn, n_if, n_ift, n_iff, n_ch, n_ch1, n_ch2, n_ch3t, n_ch3f, n_un, n_und, n_nil, n_cons, n_cons1, n_cons2, n_tup, n_tu, n_tus, n_lst, n_ls, n_lss, n_dn, n_dc, n_ofl, n_ofl2, n_new, n_new2, n_is, n_is2, n_is3, n_cal, n_calL, n_nop, n_part, n_pt, n_sl, n_sl1, n_sl2, n_sl3, n_slw, n_isno, n_isnot, n_isnoi, n_isnol, n_isnou, n_iter, n_itl, n_itu, n_its, n_c, n_var, n_va, n_seq, n_sqn, n_sqr, n_sqe, n_pass, n_set, n_se, n_ret, n_re, n_retn, n_drop, n_dr, n_ifs, n_ifst, n_ifsf, n_raise, n_par, n_pa, n_asg, n_as, n_aso, n_gT2, n_gN, n_for, n_fo, n_lo0, n_lo, n_lon, n_lor, n_step, n_st, n_try, n_catn, n_catr, n_def, n_outn, n_outr, n_oute, n_len, n_lend, n_lenl, n_lenu, n_max, n_min, n_inti, n_intb, n_tupl, n_addi, n_subi, n_lei, n_lti, n_gti, n_negi, n_lc, n_lcs, n_lp0, n_lp1, n_lps, n_lpn, n_turn, n_tc, n_yes, n_nox, n_tct, n_tcf, n_one, n_w0, n_w1, n_sum, n_sums, n_in0, n_in1, bind_ok, bind_exc, rF_ok, rF_exc, ofO_some, lenW1, lenW2, lenW3, lenW4, lenW5, id_eq, List.length_cons, List.length_nil, List.map_cons, List.map_nil, List.cons_append, List.nil_append, List.getElem?_cons_zero, List.getElem?_cons_succ, List.replicate, Nat.sub_self, List.append_nil, List.set_cons_zero, List.set_cons_succ, if_true, if_false, ite_true, ite_false, Bool.false_eq_true, reduceCtorEq, Option.map_some, is_int, is_bool, is_str, is_tuple, Nat.zero_add, Nat.reduceAdd, Nat.reduceSub, Nat.reduceLeDiff, isT, ixt0, ixt1, ixt2, ixt3, ixl0, ixl1, in2, in3, in2L, in3L, eqss, eqii, beq_self_eq_true, Bool.not_true, Bool.not_false, Bool.or_true, Bool.or_false, Bool.true_or, Bool.false_or, Bool.and_true, Bool.and_false, Bool.true_and, Bool.false_and, Int.reduceLE, Int.reduceLT, Int.reduceNeg, decide_true, decide_false, Int.reduceSub, Int.reduceAdd, sizeLine, Nat.reducePow, Int.cast_ofNat_Int, Int.reduceBEq, bg1, bg2, bg3, bg4, powE, powE8, String.reduceBEq, Nat.reduceLT, nI1, nI2, nI3, nI4, nI5, nI6, Int.add_zero, Int.mul_one, List.isEmpty_cons, List.isEmpty_nil, List.sum_cons, List.sum_nil, cu21, cu31, cu32, cu43, cv22, cv32, cv33, cv44, sl_t, ad_t, rs0, rs1, rs2, kWB, kAH, kN, kT, kTO, kSPM, *])
local macro_rules | `(tactic| walk_at "end") => `(tactic| simp [kAH, kWB, kN, kT, kTO, kSPM, sizeLine, r0, r1, r2, n_outn, n_outr, n_oute, bigt, bigc, n_ifst, n_ifsf, n_ift, n_iff, n_sqn, n_sqr, n_re, n_pass, *])
def szo (d : PyData) : Option Int := (sw 30 d).bind fun s => if 300 < s then none else some s
theorem ev_size_of (d : PyData) (S : SS) (hp : Pl 50 d) : m_size_of [.dat d] S = .ok (.dat (numD (szo d))) S := by
  have h := ev_size_within 30 40 50 d S (by decide) hp
  have h' : m_size_within 40 [.dat d, .dat (.int 30)] S = .ok (.dat (numD (sw 30 d))) S := h
  clear h
  unfold m_size_of mb_size_of szo
  cases hs : sw 30 d with
  | none => rw [hs] at h'; simp only [numD] at h'; walk_at "go"; rfl
  | some s =>
    rw [hs] at h'
    simp only [numD] at h'
    by_cases hq : 300 < s
    · have hq' : decide (300 < s) = true := decide_eq_true hq
      walk_at "go"
      simp [numD, hq, n_re, n_outr]
    · have hq' : decide (300 < s) = false := decide_eq_false hq
      walk_at "go"
      simp [numD, hq, n_re, n_outr]
theorem ev_is_expression (d : PyData) (S : SS) (hp : Pl 50 d) : m_is_expression [.dat d] S = .ok (.dat (.bool (szo d).isSome)) S := by
  have h := ev_size_of d S hp
  unfold m_is_expression mb_is_expression
  cases hs : szo d <;> rw [hs] at h <;> simp only [numD] at h <;> walk_at "go" <;> rfl
theorem ev_check (d : PyData) (S : SS) (hp : Pl 50 d) : m_check_expression [.dat d] S = if (szo d).isSome then .ok (.dat .none) S else .exc 0 S := by
  have h := ev_is_expression d S hp
  unfold m_check_expression mb_check_expression
  cases hs : (szo d).isSome <;> rw [hs] at h <;> walk_at "go"
theorem ev_size (d : PyData) (S : SS) (hp : Pl 50 d) : m_size [.dat d] S = if (szo d).isSome then .ok (.dat (numD (szo d))) S else .exc 0 S := by
  have h := ev_size_of d S hp
  have h2 := ev_check d S hp
  unfold m_size mb_size
  cases hs : (szo d).isSome <;> rw [hs] at h2 <;> walk_at "go"
theorem ev_turned (d : PyData) (S : SS) (hp : Pl 50 d) : m_turned_expression [.dat d] S = if (szo d).isSome then .ok (.dat (bk 30 d)) S else .exc 0 S := by
  have h2 := ev_check d S hp
  unfold m_turned_expression mb_turned_expression
  cases hs : (szo d).isSome with
  | false => rw [hs] at h2; walk_at "go"
  | true =>
    have hn : sw 30 d ≠ none := by
      intro z
      unfold szo at hs
      rw [z] at hs
      cases hs
    have h := ev_turned_of 30 40 50 d S (by decide) hp hn
    rw [hs] at h2
    walk_at "go"
def told (x : PyData) : PyData := .tuple [.str "told", x]
def refused : PyData := .tuple [.str "refused", .bool true]
theorem n_cate0 {i : Nat} {hs : Nat → MS} {ρ : En} {S : SS} : catF (fun k => if k = 0 then some true else none) i hs (.exc 0 ρ S) = offF i (hs 0 (ρ.set i none) S) := rfl
theorem n_offn {i : Nat} {ρ : En} {S : SS} : offF i (.nx ρ S) = .nx (ρ.set i none) S := rfl
theorem ev_told0 (d : PyData) (S : SS) (hp : Pl 50 d) : m__law_told [.dat (.int 0), .dat d] S = .ok (.dat (if (szo d).isSome then told (numD (szo d)) else refused)) S := by
  have h := ev_size d S hp
  have c0 := @n_cate0
  have c1 := @n_offn
  unfold m__law_told mb__law_told
  cases hs : (szo d).isSome <;> rw [hs] at h <;> walk_at "go" <;> rfl
theorem ev_told1 (d : PyData) (S : SS) (hp : Pl 50 d) : m__law_told [.dat (.int 1), .dat d] S = .ok (.dat (if (szo d).isSome then told (bk 30 d) else refused)) S := by
  have h := ev_turned d S hp
  have c0 := @n_cate0
  have c1 := @n_offn
  unfold m__law_told mb__law_told
  cases hs : (szo d).isSome <;> rw [hs] at h <;> walk_at "go" <;> rfl
end K63

set_option Elab.async false
set_option linter.all false
set_option maxRecDepth 100000
set_option maxHeartbeats 2000000
namespace K63
open PySem L2 Sm
local macro_rules | `(tactic| walk_at "go") => `(tactic| simp only [n_op2, n_op2a, n_dat2, n_tst2, n_rd2, n_rd2s, n_rdt2, n_rdt2s, n_getd, n_getr, n_getl, n_not2, n_no, n_and, n_andt, n_andf, n_or, n_ort, n_orf, n_not, n_T, n_t, n_tand, n_tandt, n_tandf, n_tor, n_tort, n_torf, n_tnot, n_tn, n_if, n_ift, n_iff, n_ch, n_ch1, n_ch2, n_ch3t, n_ch3f, n_un, n_und, n_nil, n_cons, n_cons1, n_cons2, n_tup, n_tu, n_tus, n_lst, n_ls, n_lss, n_dn, n_dc, n_ofl, n_ofl2, n_new, n_new2, n_is, n_is2, n_is3, n_cal, n_calL, n_nop, n_part, n_pt, n_sl, n_sl1, n_sl2, n_sl3, n_slw, n_isno, n_isnot, n_isnoi, n_isnol, n_isnou, n_iter, n_itl, n_itu, n_its, n_c, n_var, n_va, n_seq, n_sqn, n_sqr, n_sqe, n_pass, n_set, n_se, n_ret, n_re, n_retn, n_drop, n_dr, n_ifs, n_ifst, n_ifsf, n_raise, n_par, n_pa, n_asg, n_as, n_aso, n_gT2, n_gN, n_for, n_fo, n_lo0, n_lo, n_lon, n_lor, n_step, n_st, n_try, n_catn, n_catr, n_def, n_outn, n_outr, n_oute, n_len, n_lend, n_lenl, n_lenu, n_max, n_min, n_inti, n_intb, n_tupl, n_addi, n_subi, n_lei, n_lti, n_gti, n_negi, n_lc, n_lcs, n_lp0, n_lp1, n_lps, n_lpn, n_turn, n_tc, n_yes, n_nox, n_tct, n_tcf, n_one, n_w0, n_w1, n_sum, n_sums, n_in0, n_in1, bind_ok, bind_exc, rF_ok, rF_exc, ofO_some, lenW1, lenW2, lenW3, lenW4, lenW5, id_eq, List.length_cons, List.length_nil, List.map_cons, List.map_nil, List.cons_append, List.nil_append, List.getElem?_cons_zero, List.getElem?_cons_succ, List.replicate, Nat.sub_self, List.append_nil, List.set_cons_zero, List.set_cons_succ, if_true, if_false, ite_true, ite_false, Bool.false_eq_true, reduceCtorEq, Option.map_some, is_int, is_bool, is_str, is_tuple, Nat.zero_add, Nat.reduceAdd, Nat.reduceSub, Nat.reduceLeDiff, isT, ixt0, ixt1, ixt2, ixt3, ixl0, ixl1, in2, in3, in2L, in3L, eqss, eqii, beq_self_eq_true, Bool.not_true, Bool.not_false, Bool.or_true, Bool.or_false, Bool.true_or, Bool.false_or, Bool.and_true, Bool.and_false, Bool.true_and, Bool.false_and, Int.reduceLE, Int.reduceLT, Int.reduceNeg, decide_true, decide_false, Int.reduceSub, Int.reduceAdd, sizeLine, Nat.reducePow, Int.cast_ofNat_Int, Int.reduceBEq, bg1, bg2, bg3, bg4, powE, powE8, String.reduceBEq, Nat.reduceLT, nI1, nI2, nI3, nI4, nI5, nI6, Int.add_zero, Int.mul_one, List.isEmpty_cons, List.isEmpty_nil, List.sum_cons, List.sum_nil, *])
local macro_rules | `(tactic| walk_at "go2") => `(tactic| simp only [n_op2, n_op2a, n_dat2, n_tst2, n_rd2, n_rd2s, n_rdt2, n_rdt2s, n_getd, n_getr, n_getl, n_not2, n_no, n_and, n_andt, n_andf, n_or, n_ort, n_orf, n_not, n_T, n_t, n_tand, n_tandt, n_tandf, n_tor, n_tort, n_torf, n_tnot, n_tn, n_if, n_ift, n_iff, n_ch, n_ch1, n_ch2, n_ch3t, n_ch3f, n_un, n_und, n_nil, n_cons, n_cons1, n_cons2, n_tup, n_tu, n_tus, n_lst, n_ls, n_lss, n_dn, n_dc, n_ofl, n_ofl2, n_new, n_new2, n_is, n_is2, n_is3, n_cal, n_calL, n_nop, n_part, n_pt, n_sl, n_sl1, n_sl2, n_sl3, n_slw, n_isno, n_isnot, n_isnoi, n_isnol, n_isnou, n_iter, n_itl, n_itu, n_its, n_c, n_var, n_va, n_seq, n_sqn, n_sqr, n_sqe, n_pass, n_set, n_se, n_ret, n_re, n_retn, n_drop, n_dr, n_ifs, n_ifst, n_ifsf, n_raise, n_par, n_pa, n_asg, n_as, n_aso, n_gT2, n_gN, n_for, n_fo, n_lo0, n_lo, n_lon, n_lor, n_step, n_st, n_try, n_catn, n_catr, n_def, n_outn, n_outr, n_oute, n_len, n_lend, n_lenl, n_lenu, n_max, n_min, n_inti, n_intb, n_tupl, n_addi, n_subi, n_lei, n_lti, n_gti, n_negi, n_lc, n_lcs, n_lp0, n_lp1, n_lps, n_lpn, n_turn, n_tc, n_yes, n_nox, n_tct, n_tcf, n_one, n_w0, n_w1, n_sum, n_sums, n_in0, n_in1, bind_ok, bind_exc, rF_ok, rF_exc, ofO_some, lenW1, lenW2, lenW3, lenW4, lenW5, id_eq, List.length_cons, List.length_nil, List.map_cons, List.map_nil, List.cons_append, List.nil_append, List.getElem?_cons_zero, List.getElem?_cons_succ, List.replicate, Nat.sub_self, List.append_nil, List.set_cons_zero, List.set_cons_succ, if_true, if_false, ite_true, ite_false, Bool.false_eq_true, reduceCtorEq, Option.map_some, is_int, is_bool, is_str, is_tuple, Nat.zero_add, Nat.reduceAdd, Nat.reduceSub, Nat.reduceLeDiff, isT, ixt0, ixt1, ixt2, ixt3, ixl0, ixl1, in2, in3, in2L, in3L, eqss, eqii, beq_self_eq_true, Bool.not_true, Bool.not_false, Bool.or_true, Bool.or_false, Bool.true_or, Bool.false_or, Bool.and_true, Bool.and_false, Bool.true_and, Bool.false_and, Int.reduceLE, Int.reduceLT, Int.reduceNeg, decide_true, decide_false, Int.reduceSub, Int.reduceAdd, sizeLine, Nat.reducePow, Int.cast_ofNat_Int, Int.reduceBEq, bg1, bg2, bg3, bg4, powE, powE8, String.reduceBEq, Nat.reduceLT, nI1, nI2, nI3, nI4, nI5, nI6, Int.add_zero, Int.mul_one, List.isEmpty_cons, List.isEmpty_nil, List.sum_cons, List.sum_nil, cu21, cu31, cu32, cu43, cv22, cv32, cv33, cv44, sl_t, ad_t, rs0, rs1, rs2, kWB, kAH, kN, kT, kTO, kSPM, *])
local macro_rules | `(tactic| walk_at "end") => `(tactic| simp [kAH, kWB, kN, kT, kTO, kSPM, sizeLine, r0, r1, r2, n_outn, n_outr, n_oute, bigt, bigc, n_ifst, n_ifsf, n_ift, n_iff, n_sqn, n_sqr, n_re, n_pass, *])
theorem ev_law_is (a b : Bool) (S : SS) : m__law_is [.dat (.bool a), .dat (.bool b)] S = .ok (.dat (.bool (a == b))) S := by
  unfold m__law_is mb__law_is
  have e : eqD (.bool a) (.bool b) = some (a == b) := by simp [eqD, scalD, PyData.eqv]
  walk_at "go"
theorem eq_refused : eqD (.tuple [.str "refused", .bool true]) (.tuple [.str "refused", .bool true]) = some true := by decide +kernel
theorem eq_told {x : PyData} (h : PyData.canLay0 x = true) (hd : x.depth ≤ 60) : eqD (.tuple [.str "told", x]) (.tuple [.str "told", x]) = some true := by
  have h1 : PyData.canLay0 (.tuple [.str "told", x]) = true := by
    simp only [PyData.canLay0, PyData.canLayAll0, h, Bool.and_true]
    decide +kernel
  have h2 : SeqAt.shaped (.tuple [.str "told", x]) = true := by
    unfold SeqAt.shaped
    rw [h1, Bool.true_and]
    refine decide_eq_true ?_
    simp only [PyData.depth, PyData.depthAll]
    omega
  unfold eqD
  rw [h2]
  simp only [scalD, Bool.and_true, if_true]
  rw [SeqAt.eqv_refl _ h1]
  rfl
theorem fr_ok {d : PyData} {S : SS} (h : repOk d = true) : fRepr [.dat d] S = .ok (.dat (.str d.shown)) S := by
  show (if repOk d = true then _ else _) = _
  rw [if_pos h]
theorem szo_bk {d : PyData} (h : (szo d).isSome = true) : szo (bk 30 d) = szo d ∧ bk 30 (bk 30 d) = d := by
  have hn : sw 30 d ≠ none := by
    intro z
    unfold szo at h
    rw [z] at h
    cases h
  obtain ⟨h1, h2⟩ := bk_laws 30 d hn
  exact ⟨by unfold szo; rw [h1], h2⟩
theorem right (d : PyData) (S : SS) (hp : Pl 50 d) (hr : repOk d = true)
    (hv : (szo d).isSome = true → (Pl 50 (bk 30 d) ∧ repOk (bk 30 d) = true) ∧ (PyData.canLay0 d = true ∧ d.depth ≤ 60) ∧ PyData.canLay0 (bk 30 d) = true ∧ (bk 30 d).depth ≤ 60) :
    m__law_is_right [.dat d] S = .ok (.dat (.bool true)) S := by
  have e1 := ev_law_sizes 50 d S hp
  have e2 : fRepr [.dat d] S = .ok (.dat (.str d.shown)) S := fr_ok hr
  have e3 := ev_is_expression d S hp
  have e4 := ev_law_is
  have e5 := ev_told0 d S hp
  have e6 := ev_told1 d S hp
  have e7 := eq_refused
  have hz : szo d = ((lz 50 d).bind (tak 30)).bind fun s => if 300 < s then none else some s := by unfold szo; rw [sw_lz 30 50 d hp]
  unfold m__law_is_right mb__law_is_right
  simp only [told, refused] at e5 e6
  cases hl : lz 50 d with
  | none =>
    rw [hl] at e1 hz
    simp only [Option.bind_none] at hz
    rw [hz] at e3 e5 e6
    simp only [pairD, Option.isSome_none] at e1 e3 e5 e6
    clear hv hz
    walk_at "go"
  | some p =>
    obtain ⟨a, b⟩ := p
    rw [hl] at e1 hz
    simp only [Option.bind_some, tak] at hz
    simp only [pairD] at e1
    by_cases ha : a ≤ ((30 : Nat) : Int)
    · rw [if_pos ha, Option.bind_some] at hz
      have ha' : decide (a ≤ 30) = true := decide_eq_true ha
      by_cases hb : 300 < b
      · rw [if_pos hb] at hz
        have hb' : decide (b ≤ 300) = false := decide_eq_false (by omega)
        rw [hz] at e3 e5 e6
        simp only [Option.isSome_none] at e3 e5 e6
        clear hv hz
        walk_at "go"
      · rw [if_neg hb] at hz
        have hb' : decide (b ≤ 300) = true := decide_eq_true (by omega)
        have hs : (szo d).isSome = true := by rw [hz]; rfl
        obtain ⟨⟨v1, v2⟩, ⟨v3, v4⟩, v5, v6⟩ := hv hs
        obtain ⟨s1, s2⟩ := szo_bk hs
        have e8 := ev_told1 (bk 30 d) S v1
        rw [s1, s2] at e8
        simp only [told] at e8
        have hn : sw 30 d ≠ none := by
          intro z
          unfold szo at hs
          rw [z] at hs
          cases hs
        have e9 := ev_law_back 30 40 50 d S (by decide) hp hn
        have e10 : fRepr [.dat (bk 30 d)] S = .ok (.dat (.str (bk 30 d).shown)) S := fr_ok v2
        have e11 := eq_told v3 v4
        have e12 := eq_told v5 v6
        have e13 : eqD (.tuple [.str "told", .int b]) (.tuple [.str "told", .int b]) = some true := eq_told (by simp only [PyData.canLay0]) (by simp only [PyData.depth]; omega)
        rw [hz] at e3 e5 e6 e8
        simp only [Option.isSome_some, numD] at e3 e5 e6 e8
        clear hv hz hs
        walk_at "go"
    · rw [if_neg ha, Option.bind_none] at hz
      have ha' : decide (a ≤ 30) = false := decide_eq_false ha
      rw [hz] at e3 e5 e6
      simp only [Option.isSome_none] at e3 e5 e6
      clear hv hz
      walk_at "go"
end K63

set_option Elab.async false
set_option linter.all false
set_option maxRecDepth 100000
set_option maxHeartbeats 2000000
namespace K63
open PySem L2 Sm
local macro_rules | `(tactic| walk_at "go") => `(tactic| simp only [n_op2, n_op2a, n_dat2, n_tst2, n_rd2, n_rd2s, n_rdt2, n_rdt2s, n_getd, n_getr, n_getl, n_not2, n_no, n_and, n_andt, n_andf, n_or, n_ort, n_orf, n_not, n_T, n_t, n_tand, n_tandt, n_tandf, n_tor, n_tort, n_torf, n_tnot, n_tn, n_if, n_ift, n_iff, n_ch, n_ch1, n_ch2, n_ch3t, n_ch3f, n_un, n_und, n_nil, n_cons, n_cons1, n_cons2, n_tup, n_tu, n_tus, n_lst, n_ls, n_lss, n_dn, n_dc, n_ofl, n_ofl2, n_new, n_new2, n_is, n_is2, n_is3, n_cal, n_calL, n_nop, n_part, n_pt, n_sl, n_sl1, n_sl2, n_sl3, n_slw, n_isno, n_isnot, n_isnoi, n_isnol, n_isnou, n_iter, n_itl, n_itu, n_its, n_c, n_var, n_va, n_seq, n_sqn, n_sqr, n_sqe, n_pass, n_set, n_se, n_ret, n_re, n_retn, n_drop, n_dr, n_ifs, n_ifst, n_ifsf, n_raise, n_par, n_pa, n_asg, n_as, n_aso, n_gT2, n_gN, n_for, n_fo, n_lo0, n_lo, n_lon, n_lor, n_step, n_st, n_try, n_catn, n_catr, n_def, n_outn, n_outr, n_oute, n_len, n_lend, n_lenl, n_lenu, n_max, n_min, n_inti, n_intb, n_tupl, n_addi, n_subi, n_lei, n_lti, n_gti, n_negi, n_lc, n_lcs, n_lp0, n_lp1, n_lps, n_lpn, n_turn, n_tc, n_yes, n_nox, n_tct, n_tcf, n_one, n_w0, n_w1, n_sum, n_sums, n_in0, n_in1, bind_ok, bind_exc, rF_ok, rF_exc, ofO_some, lenW1, lenW2, lenW3, lenW4, lenW5, id_eq, List.length_cons, List.length_nil, List.map_cons, List.map_nil, List.cons_append, List.nil_append, List.getElem?_cons_zero, List.getElem?_cons_succ, List.replicate, Nat.sub_self, List.append_nil, List.set_cons_zero, List.set_cons_succ, if_true, if_false, ite_true, ite_false, Bool.false_eq_true, reduceCtorEq, Option.map_some, is_int, is_bool, is_str, is_tuple, Nat.zero_add, Nat.reduceAdd, Nat.reduceSub, Nat.reduceLeDiff, isT, ixt0, ixt1, ixt2, ixt3, ixl0, ixl1, in2, in3, in2L, in3L, eqss, eqii, beq_self_eq_true, Bool.not_true, Bool.not_false, Bool.or_true, Bool.or_false, Bool.true_or, Bool.false_or, Bool.and_true, Bool.and_false, Bool.true_and, Bool.false_and, Int.reduceLE, Int.reduceLT, Int.reduceNeg, decide_true, decide_false, Int.reduceSub, Int.reduceAdd, sizeLine, Nat.reducePow, Int.cast_ofNat_Int, Int.reduceBEq, bg1, bg2, bg3, bg4, powE, powE8, String.reduceBEq, Nat.reduceLT, nI1, nI2, nI3, nI4, nI5, nI6, Int.add_zero, Int.mul_one, List.isEmpty_cons, List.isEmpty_nil, List.sum_cons, List.sum_nil, *])
local macro_rules | `(tactic| walk_at "go2") => `(tactic| simp only [n_op2, n_op2a, n_dat2, n_tst2, n_rd2, n_rd2s, n_rdt2, n_rdt2s, n_getd, n_getr, n_getl, n_not2, n_no, n_and, n_andt, n_andf, n_or, n_ort, n_orf, n_not, n_T, n_t, n_tand, n_tandt, n_tandf, n_tor, n_tort, n_torf, n_tnot, n_tn, n_if, n_ift, n_iff, n_ch, n_ch1, n_ch2, n_ch3t, n_ch3f, n_un, n_und, n_nil, n_cons, n_cons1, n_cons2, n_tup, n_tu, n_tus, n_lst, n_ls, n_lss, n_dn, n_dc, n_ofl, n_ofl2, n_new, n_new2, n_is, n_is2, n_is3, n_cal, n_calL, n_nop, n_part, n_pt, n_sl, n_sl1, n_sl2, n_sl3, n_slw, n_isno, n_isnot, n_isnoi, n_isnol, n_isnou, n_iter, n_itl, n_itu, n_its, n_c, n_var, n_va, n_seq, n_sqn, n_sqr, n_sqe, n_pass, n_set, n_se, n_ret, n_re, n_retn, n_drop, n_dr, n_ifs, n_ifst, n_ifsf, n_raise, n_par, n_pa, n_asg, n_as, n_aso, n_gT2, n_gN, n_for, n_fo, n_lo0, n_lo, n_lon, n_lor, n_step, n_st, n_try, n_catn, n_catr, n_def, n_outn, n_outr, n_oute, n_len, n_lend, n_lenl, n_lenu, n_max, n_min, n_inti, n_intb, n_tupl, n_addi, n_subi, n_lei, n_lti, n_gti, n_negi, n_lc, n_lcs, n_lp0, n_lp1, n_lps, n_lpn, n_turn, n_tc, n_yes, n_nox, n_tct, n_tcf, n_one, n_w0, n_w1, n_sum, n_sums, n_in0, n_in1, bind_ok, bind_exc, rF_ok, rF_exc, ofO_some, lenW1, lenW2, lenW3, lenW4, lenW5, id_eq, List.length_cons, List.length_nil, List.map_cons, List.map_nil, List.cons_append, List.nil_append, List.getElem?_cons_zero, List.getElem?_cons_succ, List.replicate, Nat.sub_self, List.append_nil, List.set_cons_zero, List.set_cons_succ, if_true, if_false, ite_true, ite_false, Bool.false_eq_true, reduceCtorEq, Option.map_some, is_int, is_bool, is_str, is_tuple, Nat.zero_add, Nat.reduceAdd, Nat.reduceSub, Nat.reduceLeDiff, isT, ixt0, ixt1, ixt2, ixt3, ixl0, ixl1, in2, in3, in2L, in3L, eqss, eqii, beq_self_eq_true, Bool.not_true, Bool.not_false, Bool.or_true, Bool.or_false, Bool.true_or, Bool.false_or, Bool.and_true, Bool.and_false, Bool.true_and, Bool.false_and, Int.reduceLE, Int.reduceLT, Int.reduceNeg, decide_true, decide_false, Int.reduceSub, Int.reduceAdd, sizeLine, Nat.reducePow, Int.cast_ofNat_Int, Int.reduceBEq, bg1, bg2, bg3, bg4, powE, powE8, String.reduceBEq, Nat.reduceLT, nI1, nI2, nI3, nI4, nI5, nI6, Int.add_zero, Int.mul_one, List.isEmpty_cons, List.isEmpty_nil, List.sum_cons, List.sum_nil, cu21, cu31, cu32, cu43, cv22, cv32, cv33, cv44, sl_t, ad_t, rs0, rs1, rs2, kWB, kAH, kN, kT, kTO, kSPM, *])
local macro_rules | `(tactic| walk_at "end") => `(tactic| simp [kAH, kWB, kN, kT, kTO, kSPM, sizeLine, r0, r1, r2, n_outn, n_outr, n_oute, bigt, bigc, n_ifst, n_ifsf, n_ift, n_iff, n_sqn, n_sqr, n_re, n_pass, *])
mutual
def okD : PyData → Bool
  | .none => true
  | .bool _ => true
  | .int i => decide (i.natAbs < 10 ^ 19)
  | .str x => decide (x.length ≤ 6) && PyData.strOk x
  | .list xs => okL xs
  | .tuple xs => okL xs
  | .dict kvs => kvs.isEmpty
def okL : List PyData → Bool
  | [] => true
  | x :: xs => okD x && okL xs
end
theorem okL_all {xs : List PyData} : okL xs = true ↔ ∀ x ∈ xs, okD x = true := by
  induction xs with
  | nil => simp [okL]
  | cons a t ih => simp [okL, ih]
mutual
theorem okD_facts : ∀ d : PyData, okD d = true → PyData.leavesShort 30 d = true ∧ PyData.showable d = true ∧ bareD d = true ∧ (PyData.hasDict d = false → PyData.canLay0 d = true)
  | .none, _ => by simp [PyData.leavesShort, PyData.showable, bareD, PyData.canLay0]
  | .bool _, _ => by simp [PyData.leavesShort, PyData.showable, bareD, PyData.canLay0]
  | .int i, h => by
    have h' : i.natAbs < 10 ^ 19 := by simpa [okD] using h
    have e := int_text_length_le10 (k := 19) (by decide) h'
    refine ⟨?_, ?_, by simp [bareD], fun _ => by simp [PyData.canLay0]⟩
    · simp only [PyData.leavesShort, decide_eq_true_eq]
      show (Str.ofString (toString i)).length ≤ 30
      rw [ofString_length]
      omega
    · simp only [PyData.showable, decide_eq_true_eq]
      by_cases hz : i.natAbs = 0
      · rw [hz]; decide
      · refine Nat.lt_of_lt_of_le ((Nat.log2_lt (k := 64) hz).mpr (Nat.lt_trans h' (by decide))) (by decide)
  | .str x, h => by
    have h' : x.length ≤ 6 ∧ PyData.strOk x = true := by simpa [okD] using h
    refine ⟨?_, by simp [PyData.showable], by simp [bareD], fun _ => by simp [PyData.canLay0, h'.2]⟩
    simp only [PyData.leavesShort]
    have h2 := h'.2
    unfold PyData.strOk at h2
    rw [← Array.all_toList, List.all_eq_true] at h2
    rw [List.all_eq_true]
    intro c hc
    have := h2 c hc
    rw [decide_eq_true_eq] at this ⊢
    omega
  | .list xs, h => by
    have := okL_facts xs (by simpa [okD] using h)
    simpa [PyData.leavesShort, PyData.showable, bareD, PyData.canLay0, PyData.hasDict] using this
  | .tuple xs, h => by
    have := okL_facts xs (by simpa [okD] using h)
    simpa [PyData.leavesShort, PyData.showable, bareD, PyData.canLay0, PyData.hasDict] using this
  | .dict kvs, h => by
    have h' : kvs = [] := by simpa [okD] using h
    subst h'
    simp [PyData.leavesShort, PyData.leavesShortKv, PyData.showable, PyData.showableKv, bareD, PyData.hasDict]
theorem okL_facts : ∀ ds : List PyData, okL ds = true → PyData.leavesShortAll 30 ds = true ∧ PyData.showableAll ds = true ∧ bareL ds = true ∧ (PyData.hasDictAll ds = false → PyData.canLayAll0 ds = true)
  | [], _ => by simp [PyData.leavesShortAll, PyData.showableAll, bareL, PyData.canLayAll0]
  | x :: xs, h => by
    have h' : okD x = true ∧ okL xs = true := by simpa [okL] using h
    obtain ⟨a1, a2, a3, a4⟩ := okD_facts x h'.1
    obtain ⟨b1, b2, b3, b4⟩ := okL_facts xs h'.2
    refine ⟨by simp [PyData.leavesShortAll, a1, b1], by simp [PyData.showableAll, a2, b2], by simp [bareL, a3, b3], fun q => ?_⟩
    simp only [PyData.hasDictAll, Bool.or_eq_false_iff] at q
    simp [PyData.canLayAll0, a4 q.1, b4 q.2]
end
theorem depth_mem {xs : List PyData} {x : PyData} (h : x ∈ xs) : x.depth ≤ PyData.depthAll xs := by
  induction xs with
  | nil => cases h
  | cons a t ih =>
    simp only [PyData.depthAll]
    rcases List.mem_cons.mp h with rfl | h
    · omega
    · have := ih h; omega
theorem Pl_of : ∀ (k : Nat) (d : PyData), okD d = true → d.depth < k → Pl k d
  | 0, _, _, h => absurd h (Nat.not_lt_zero _)
  | k + 1, d, ho, h => by
    refine ⟨?_, fun r e x hx => ?_⟩
    · cases d <;> first | trivial | skip
      rename_i x
      have : x.length ≤ 6 ∧ PyData.strOk x = true := by simpa [okD] using ho
      show x.length ≤ 1000
      omega
    · subst e
      have ho' : okL r = true := by simpa [okD] using ho
      have hd : PyData.depthAll r + 1 < k + 1 := by simpa [PyData.depth] using h
      exact Pl_of k x (okL_all.mp ho' x hx) (Nat.lt_of_le_of_lt (depth_mem hx) (by omega))
structure Safe (d : PyData) : Prop where
  ok : okD d = true
  we : d.weight ≤ 500000
  de : d.depth ≤ 48
  ex : d.hasDict = false ∨ listsD d = false
theorem Safe.pl {d : PyData} (h : Safe d) : Pl 50 d := Pl_of 50 d h.ok (by have := h.de; omega)
theorem Safe.rep {d : PyData} (h : Safe d) : repOk d = true := by
  obtain ⟨h1, h2, h3, h4⟩ := okD_facts d h.ok
  have hw := PyData.shown_le 30 (by decide) d h1
  have h5 := h.we
  have h6 : d.shown.length ≤ sizeLine := by
    refine Nat.le_trans hw ?_
    show _ ≤ 2 ^ 24
    omega
  have h7 : d.depth ≤ 64 := by have := h.de; omega
  have h8 : (!d.hasDict || !listsD d) = true := by
    rcases h.ex with q | q <;> rw [q] <;> simp
  unfold repOk
  rw [h2, h3, h8, decide_eq_true h6, decide_eq_true h7]
  rfl
theorem valid_bare : ∀ (n : Nat) (d : PyData), sw n d ≠ none → PyData.hasDict d = false ∧ listsD d = false
  | 0, _, h => absurd rfl h
  | n + 1, d, h => by
    obtain ⟨m, w, r, e1, rfl, ho, hs⟩ := sw_ok h
    cases e1
    have ih : ∀ x ∈ plc w r, PyData.hasDict x = false ∧ listsD x = false := fun x hx => valid_bare n x (hs x hx)
    have hit : ∀ {x : PyData} {a b : Int}, withinD x a b = true → PyData.hasDict x = false ∧ listsD x = false := by
      intro x a b h
      cases x <;> first | (exact absurd h Bool.false_ne_true) | simp [PyData.hasDict, listsD]
    obtain ⟨o1, o2, o3, o4, o5, o6⟩ := ok_shape ho
    clear hs h
    have go : ∀ l : List PyData, (∀ x ∈ l, PyData.hasDict x = false ∧ listsD x = false) → PyData.hasDict (.tuple (.str w :: l)) = false ∧ listsD (.tuple (.str w :: l)) = false := by
      intro l hl
      have h1 : PyData.hasDictAll l = false ∧ listsL l = false := by
        induction l with
        | nil => simp [PyData.hasDictAll, listsL]
        | cons a t ih' =>
          have q1 := hl a List.mem_cons_self
          have q2 := ih' (fun x hx => hl x (List.mem_cons_of_mem _ hx))
          simp [PyData.hasDictAll, listsL, q1, q2]
      simp [PyData.hasDict, PyData.hasDictAll, listsD, listsL, h1]
    apply go
    unfold okW at ho
    unfold plc at ih
    rcases kw w with q | q | q | q | q | q | q | q | q | q | q | q <;> (obtain ⟨a0, c0, a1, c1, a2, c2, a3, c3, a4, c4, a5, c5, a6, c6, a7, c7, a8, c8, a9, c9, a10, c10⟩ := q; simp [kAH, kWB, kN, kTO, kSPM, kT, *] at ho ih o1 o2 o3 o4 o5 o6)
    · subst o1; intro x hx; cases hx
    · subst o1; intro x hx; cases hx
    · obtain ⟨a, rfl⟩ := o2
      intro x hx
      cases List.mem_singleton.mp hx
      have h2 := ho.2
      cases a <;> first | (exact absurd h2 Bool.false_ne_true) | simp [PyData.hasDict, listsD]
    · obtain ⟨a, rfl⟩ := o2
      intro x hx
      cases List.mem_singleton.mp hx
      have h2 := ho.2
      cases a <;> first | (exact absurd h2 Bool.false_ne_true) | simp [PyData.hasDict, listsD]
    · obtain ⟨a, b, rfl⟩ := o3
      intro x hx
      rcases List.mem_cons.mp hx with rfl | hx
      · have h2 := ho.2.1
        cases x <;> first | (exact absurd h2 Bool.false_ne_true) | simp [PyData.hasDict, listsD]
      · cases List.mem_singleton.mp hx
        exact hit ho.2.2
    · obtain ⟨a, b, c, rfl⟩ := o6
      intro x hx
      rcases List.mem_cons.mp hx with rfl | hx
      · exact hit ho.2.1
      · rcases List.mem_cons.mp hx with rfl | hx
        · exact hit ho.2.2
        · cases List.mem_singleton.mp hx
          exact ih
    · obtain ⟨a, b, rfl⟩ := o4
      intro x hx
      rcases List.mem_cons.mp hx with rfl | hx
      · exact ih.1
      · cases List.mem_singleton.mp hx; exact ih.2
    · obtain ⟨a, b, rfl⟩ := o4
      intro x hx
      rcases List.mem_cons.mp hx with rfl | hx
      · exact ih.1
      · cases List.mem_singleton.mp hx; exact ih.2
    · obtain ⟨a, rfl⟩ := o5; intro x hx; cases List.mem_singleton.mp hx; exact ih
    · obtain ⟨a, rfl⟩ := o5; intro x hx; cases List.mem_singleton.mp hx; exact ih
    · obtain ⟨a, rfl⟩ := o5; intro x hx; cases List.mem_singleton.mp hx; exact ih
theorem bk_meas : ∀ (n : Nat) (d : PyData), sw n d ≠ none → okD d = true → okD (bk n d) = true ∧ (bk n d).weight = d.weight ∧ (bk n d).depth = d.depth
  | 0, _, h, _ => absurd rfl h
  | n + 1, d, h, hok => by
    obtain ⟨m, w, r, e1, rfl, ho, hs⟩ := sw_ok h
    cases e1
    have hin := ok_plc ho
    have hok' : ∀ x ∈ r, okD x = true := by
      have : okD (.str w) = true ∧ okL r = true := by simpa [okD, okL] using hok
      exact okL_all.mp this.2
    have ih : ∀ x ∈ plc w r, okD (bk n x) = true ∧ (bk n x).weight = x.weight ∧ (bk n x).depth = x.depth := fun x hx => bk_meas n x (hs x hx) (hok' x (hin x hx))
    obtain ⟨o1, o2, o3, o4, o5, o6⟩ := ok_shape ho
    clear hs h hin
    rcases kw w with q | q | q | q | q | q | q | q | q | q | q | q <;> obtain ⟨a0, c0, a1, c1, a2, c2, a3, c3, a4, c4, a5, c5, a6, c6, a7, c7, a8, c8, a9, c9, a10, c10⟩ := q
    case inl =>
      have e : bk (n + 1) (.tuple (.str w :: r)) = .tuple (.str w :: r) := by unfold bk plc; simp [kWB, kTO, kSPM, kT, *]
      rw [e]; exact ⟨hok, rfl, rfl⟩
    case inr.inl =>
      have e : bk (n + 1) (.tuple (.str w :: r)) = .tuple (.str w :: r) := by unfold bk plc; simp [kWB, kTO, kSPM, kT, *]
      rw [e]; exact ⟨hok, rfl, rfl⟩
    case inr.inr.inr.inr.inl =>
      have e : bk (n + 1) (.tuple (.str w :: r)) = .tuple (.str w :: r) := by unfold bk plc; simp [kWB, kTO, kSPM, kT, *]
      rw [e]; exact ⟨hok, rfl, rfl⟩
    case inr.inr.inl =>
      obtain ⟨a, rfl⟩ := o2 (by simp [kWB, *])
      cases eq_of_beq c2
      have ha := hok' a List.mem_cons_self
      have e : bk (n + 1) (.tuple [.str "word", a]) = .tuple [.str "back", a] := rfl
      rw [e]
      have s1 : okD (.str "back") = true := by decide +kernel
      exact ⟨by simp [okD, okL, s1, ha] at s1 ⊢; exact s1, by simp [PyData.weight, PyData.weightAll]; rfl, by simp [PyData.depth, PyData.depthAll]⟩
    case inr.inr.inr.inl =>
      obtain ⟨a, rfl⟩ := o2 (by simp [kWB, *])
      cases eq_of_beq c3
      have ha := hok' a List.mem_cons_self
      have e : bk (n + 1) (.tuple [.str "back", a]) = .tuple [.str "word", a] := rfl
      rw [e]
      have s1 : okD (.str "word") = true := by decide +kernel
      exact ⟨by simp [okD, okL, s1, ha] at s1 ⊢; exact s1, by simp [PyData.weight, PyData.weightAll]; rfl, by simp [PyData.depth, PyData.depthAll]⟩
    case inr.inr.inr.inr.inr.inl =>
      obtain ⟨a, b, c, rfl⟩ := o6 (by simp [kT, *])
      cases eq_of_beq c5
      obtain ⟨h1, h2, h3⟩ := ih c List.mem_cons_self
      have e : ∀ x, bk (n + 1) (.tuple [.str "times", a, b, x]) = .tuple [.str "times", a, b, bk n x] := fun _ => rfl
      rw [e]
      simp only [okD, okL, Bool.and_eq_true] at hok
      refine ⟨?_, ?_, ?_⟩
      · simp only [okD, okL, Bool.and_eq_true]
        exact ⟨hok.1, hok.2.1, hok.2.2.1, h1, trivial⟩
      · simp only [PyData.weight, PyData.weightAll, h2]
      · simp only [PyData.depth, PyData.depthAll, h3]
    case inr.inr.inr.inr.inr.inr.inl =>
      obtain ⟨a, b, rfl⟩ := o4 (by simp [kTO, *])
      cases eq_of_beq c6
      obtain ⟨h1, h2, h3⟩ := ih a List.mem_cons_self
      obtain ⟨g1, g2, g3⟩ := ih b (List.mem_cons_of_mem _ List.mem_cons_self)
      have e : ∀ x y, bk (n + 1) (.tuple [.str "then", x, y]) = .tuple [.str "then", bk n y, bk n x] := fun _ _ => rfl
      rw [e]
      simp only [okD, okL, Bool.and_eq_true] at hok
      refine ⟨?_, ?_, ?_⟩
      · simp only [okD, okL, Bool.and_eq_true]
        exact ⟨hok.1, g1, h1, trivial⟩
      · simp only [PyData.weight, PyData.weightAll, h2, g2]; omega
      · simp only [PyData.depth, PyData.depthAll, h3, g3]; omega
    case inr.inr.inr.inr.inr.inr.inr.inl =>
      obtain ⟨a, b, rfl⟩ := o4 (by simp [kTO, *])
      cases eq_of_beq c7
      obtain ⟨h1, h2, h3⟩ := ih a List.mem_cons_self
      obtain ⟨g1, g2, g3⟩ := ih b (List.mem_cons_of_mem _ List.mem_cons_self)
      have e : ∀ x y, bk (n + 1) (.tuple [.str "or", x, y]) = .tuple [.str "or", bk n x, bk n y] := fun _ _ => rfl
      rw [e]
      simp only [okD, okL, Bool.and_eq_true] at hok
      refine ⟨?_, ?_, ?_⟩
      · simp only [okD, okL, Bool.and_eq_true]
        exact ⟨hok.1, h1, g1, trivial⟩
      · simp only [PyData.weight, PyData.weightAll, h2, g2]
      · simp only [PyData.depth, PyData.depthAll, h3, g3]
    case inr.inr.inr.inr.inr.inr.inr.inr.inr.inr.inr =>
      exfalso
      unfold okW at ho
      simp [kAH, kWB, kN, kTO, kSPM, kT, *] at ho
    all_goals
      obtain ⟨a, rfl⟩ := o5 (by simp [kSPM, *])
      have ep : plc w [a] = [a] := by unfold plc; simp [kTO, kSPM, kT, r0, *]
      rw [ep] at ih
      obtain ⟨h1, h2, h3⟩ := ih a List.mem_cons_self
      have e : bk (n + 1) (.tuple [.str w, a]) = .tuple [.str w, bk n a] := by
        show (if kWB w = true then _ else _) = _
        rw [ep]
        simp [kWB, kT, r0, *]
      rw [e]
      simp only [okD, okL, Bool.and_eq_true] at hok
      refine ⟨?_, ?_, ?_⟩
      · simp only [okD, okL, Bool.and_eq_true]
        exact ⟨hok.1, h1, trivial⟩
      · simp only [PyData.weight, PyData.weightAll, h2]
      · simp only [PyData.depth, PyData.depthAll, h3]
theorem right_of (d : PyData) (S : SS) (h : Safe d) : m__law_is_right [.dat d] S = .ok (.dat (.bool true)) S := by
  refine right d S h.pl h.rep fun hs => ?_
  have hn : sw 30 d ≠ none := by
    intro z
    unfold szo at hs
    rw [z] at hs
    cases hs
  obtain ⟨m1, m2, m3⟩ := bk_meas 30 d hn h.ok
  obtain ⟨v1, v2⟩ := valid_bare 30 d hn
  obtain ⟨v3, v4⟩ := valid_bare 30 (bk 30 d) (by rw [(bk_laws 30 d hn).1]; exact hn)
  have hb : Safe (bk 30 d) := ⟨m1, by rw [m2]; exact h.we, by rw [m3]; exact h.de, .inl v3⟩
  have hd := h.de
  exact ⟨⟨hb.pl, hb.rep⟩, ⟨(okD_facts d h.ok).2.2.2 v1, by omega⟩, (okD_facts _ m1).2.2.2 v3, by rw [m3]; omega⟩
end K63

set_option Elab.async false
set_option linter.all false
set_option maxRecDepth 100000
set_option maxHeartbeats 2000000
namespace K63
open PySem L2 Sm
theorem ixl2 (xs : List PyData) : ixD (.list xs) (.int 2) = xs[2]? := atI_cast xs 2
theorem ixl3 (xs : List PyData) : ixD (.list xs) (.int 3) = xs[3]? := atI_cast xs 3
local macro_rules | `(tactic| walk_at "go3") => `(tactic| simp only [n_op2, n_op2a, n_dat2, n_tst2, n_rd2, n_rd2s, n_rdt2, n_rdt2s, n_getd, n_getr, n_getl, n_not2, n_no, n_and, n_andt, n_andf, n_or, n_ort, n_orf, n_not, n_T, n_t, n_tand, n_tandt, n_tandf, n_tor, n_tort, n_torf, n_tnot, n_tn, n_if, n_ift, n_iff, n_ch, n_ch1, n_ch2, n_ch3t, n_ch3f, n_un, n_und, n_nil, n_cons, n_cons1, n_cons2, n_tup, n_tu, n_tus, n_lst, n_ls, n_lss, n_dn, n_dc, n_ofl, n_ofl2, n_new, n_new2, n_is, n_is2, n_is3, n_cal, n_calL, n_nop, n_part, n_pt, n_sl, n_sl1, n_sl2, n_sl3, n_slw, n_isno, n_isnot, n_isnoi, n_isnol, n_isnou, n_iter, n_itl, n_itu, n_its, n_c, n_var, n_va, n_seq, n_sqn, n_sqr, n_sqe, n_pass, n_set, n_se, n_ret, n_re, n_retn, n_drop, n_dr, n_ifs, n_ifst, n_ifsf, n_raise, n_par, n_pa, n_asg, n_as, n_aso, n_gT2, n_gN, n_for, n_fo, n_lo0, n_lo, n_lon, n_lor, n_step, n_st, n_try, n_catn, n_catr, n_def, n_outn, n_outr, n_oute, n_len, n_lend, n_lenl, n_lenu, n_max, n_min, n_inti, n_intb, n_tupl, n_addi, n_subi, n_lei, n_lti, n_gti, n_negi, n_lc, n_lcs, n_lp0, n_lp1, n_lps, n_lpn, n_turn, n_tc, n_yes, n_nox, n_tct, n_tcf, n_one, n_w0, n_w1, n_sum, n_sums, n_in0, n_in1, bind_ok, bind_exc, rF_ok, rF_exc, ofO_some, lenW1, lenW2, lenW3, lenW4, lenW5, id_eq, List.length_cons, List.length_nil, List.map_cons, List.map_nil, List.cons_append, List.nil_append, List.getElem?_cons_zero, List.getElem?_cons_succ, List.replicate, Nat.sub_self, List.append_nil, List.set_cons_zero, List.set_cons_succ, if_true, if_false, ite_true, ite_false, Bool.false_eq_true, reduceCtorEq, Option.map_some, is_int, is_bool, is_str, is_tuple, Nat.zero_add, Nat.reduceAdd, Nat.reduceSub, Nat.reduceLeDiff, isT, ixt0, ixt1, ixt2, ixt3, ixl0, ixl1, in2, in3, in2L, in3L, eqss, eqii, beq_self_eq_true, Bool.not_true, Bool.not_false, Bool.or_true, Bool.or_false, Bool.true_or, Bool.false_or, Bool.and_true, Bool.and_false, Bool.true_and, Bool.false_and, Int.reduceLE, Int.reduceLT, Int.reduceNeg, decide_true, decide_false, Int.reduceSub, Int.reduceAdd, sizeLine, Nat.reducePow, Int.cast_ofNat_Int, Int.reduceBEq, bg1, bg2, bg3, bg4, powE, powE8, String.reduceBEq, Nat.reduceLT, nI1, nI2, nI3, nI4, nI5, nI6, Int.add_zero, Int.mul_one, List.isEmpty_cons, List.isEmpty_nil, List.sum_cons, List.sum_nil, cu21, cu31, cu32, cu43, cv22, cv32, cv33, cv44, sl_t, ad_t, rs0, rs1, rs2, kWB, kAH, kN, kT, kTO, kSPM, i_set, i_1, i_2, i_3, i_s1, i_s2, i_s3, i_abs, i_gei, i_rng, i_rg, ixl2, ixl3, *])
local macro_rules | `(tactic| walk_at "end") => `(tactic| simp [kAH, kWB, kN, kT, kTO, kSPM, sizeLine, r0, r1, r2, n_outn, n_outr, n_oute, bigt, bigc, n_ifst, n_ifsf, n_ift, n_iff, n_sqn, n_sqr, n_re, n_pass, *])
theorem fd_ok {k : Int} (h : 0 < k) (h' : k < 2 ^ 60) (a : Int) : fdivD (.int a) (.int k) = some (.int (a / k)) := by
  show (if CDivW a k then _ else _) = _
  rw [if_pos ⟨h, Nat.lt_of_lt_of_le ((Nat.log2_lt (k := 64) (by omega)).mpr (by omega)) (by decide)⟩]
theorem mul_in {k : Int} (h : -(2 ^ 64) < k) (h' : k < 2 ^ 64) (a : Int) : mulD (.int a) (.int k) = some (.int (a * k)) := by
  show (if CMul a k then _ else _) = _
  rw [if_pos (.inr ⟨h, h'⟩)]
theorem mul_il {k : Int} (h : -(2 ^ 64) < k) (h' : k < 2 ^ 64) (a : Int) : mulD (.int k) (.int a) = some (.int (k * a)) := by
  show (if CMul k a then _ else _) = _
  rw [if_pos (.inl ⟨h, h'⟩)]
theorem ev_mixed (c t : Int) : ∃ v, ∀ S : SS, m__law_mixed [.dat (.int c), .dat (.int t)] S = .ok (.dat (.int v)) S := by
  have h1 : ∀ a, mulD (.int a) (.int 48271) = some (.int (a * 48271)) := mul_in (by decide) (by decide)
  have h2 : ∀ a, mulD (.int 7919) (.int a) = some (.int (7919 * a)) := mul_il (by decide) (by decide)
  have h3 : ∀ a b : Int, mulD (.int (a % 2147483647)) (.int b) = some (.int (a % 2147483647 * b)) := fun a b => mul_il (by omega) (by omega) b
  have h4 : ∀ a, modD (.int a) (.int 2147483647) = some (.int (a % 2147483647)) := fun a => n_modi (by decide)
  have h5 : ∀ a, modD (.int a) (.int 2147483399) = some (.int (a % 2147483399)) := fun a => n_modi (by decide)
  have h6 : ∀ a, fdivD (.int a) (.int 1009) = some (.int (a / 1009)) := fd_ok (by decide) (by decide)
  have h7 : ∀ a, fdivD (.int a) (.int 2003) = some (.int (a / 2003)) := fd_ok (by decide) (by decide)
  have h8 : ∀ a, fdivD (.int a) (.int 16) = some (.int (a / 16)) := fd_ok (by decide) (by decide)
  unfold m__law_mixed mb__law_mixed
  walk_at "go3"
  exact ⟨_, fun _ => rfl⟩
/-- the hand, at the store's head -/
def HS (rest : SS) (S : SS) : Prop := ∃ (cs : List PyData) (at' dg dr : Int), S = .lst [.list cs, .int at', .int dg, .int dr] :: rest ∧ ∀ x ∈ cs, ∃ c, x = .int c
theorem ix_cells {cs : List PyData} (h : ∀ x ∈ cs, ∃ c, x = .int c) (hl : ((cs.length : Int) == 0) = false) (k : Int) : ∃ c, ixD (.list cs) (.int (k % (cs.length : Int))) = some (.int c) := by
  have h0 : (cs.length : Int) ≠ 0 := beq_eq_false_iff_ne.mp hl
  have h1 := Int.emod_nonneg k h0
  have h2 := Int.emod_lt_of_pos k (show (0 : Int) < cs.length by omega)
  obtain ⟨n, hn⟩ := Int.eq_ofNat_of_zero_le h1
  have hlt : n < cs.length := by omega
  obtain ⟨c, hc⟩ := h cs[n] (List.getElem_mem hlt)
  refine ⟨c, ?_⟩
  rw [hn]
  show L2.atI cs (n : Int) = _
  rw [atI_cast, List.getElem?_eq_getElem hlt, hc]
theorem draw_ok {rest S : SS} {many : Int} (hs : HS rest S) (h0 : 0 < many) (h1 : many < 2 ^ 60) : ∃ r S', m__law_draw [.ref 0, .dat (.int many)] S = .ok (.dat (.int r)) S' ∧ 0 ≤ r ∧ r < many ∧ HS rest S' := by
  obtain ⟨cs, at', dg, dr, rfl, hc⟩ := hs
  have q1 : ∀ x, modD (.int x) (.int many) = some (.int (x % many)) := fun x => n_modi h0
  have q2 := fd_ok h0 h1
  have r1 : ∀ x, 0 ≤ x % many := fun x => Int.emod_nonneg x (by omega)
  have r2 : ∀ x, x % many < many := fun x => Int.emod_lt_of_pos x h0
  unfold m__law_draw mb__law_draw
  by_cases hd : 0 < dg
  · have hd' : decide (0 < dg) = true := decide_eq_true hd
    walk_at "go3"
    exact ⟨_, _, rfl, r1 _, r2 _, _, _, _, _, rfl, hc⟩
  · have hd' : decide (0 < dg) = false := decide_eq_false hd
    cases hl : ((cs.length : Int) == 0) with
    | true =>
      obtain ⟨v, hv⟩ := ev_mixed 0 (dr + 1)
      walk_at "go3"
      exact ⟨_, _, rfl, r1 _, r2 _, _, _, _, _, rfl, hc⟩
    | false =>
      obtain ⟨c, hcc⟩ := ix_cells hc hl at'
      obtain ⟨v, hv⟩ := ev_mixed c (dr + 1)
      have hlp : (0 : Int) < cs.length := by
        have := beq_eq_false_iff_ne.mp hl
        omega
      have q3 : modD (.int at') (.int cs.length) = some (.int (at' % cs.length)) := n_modi hlp
      cases hk : decide (at' < (cs.length : Int)) with
      | false =>
        walk_at "go3"
        exact ⟨_, _, rfl, r1 _, r2 _, _, _, _, _, rfl, hc⟩
      | true =>
        cases hk2 : decide ((1000000000000000000 : Int) ≤ if c < 0 then -c else c) with
        | false =>
          walk_at "go3"
          exact ⟨_, _, rfl, r1 _, r2 _, _, _, _, _, rfl, hc⟩
        | true =>
          walk_at "go3"
          exact ⟨_, _, rfl, r1 _, r2 _, _, _, _, _, rfl, hc⟩
end K63

set_option Elab.async false
set_option linter.all false
set_option maxRecDepth 100000
set_option maxHeartbeats 2000000
namespace K63
open PySem L2 Sm
local macro_rules | `(tactic| walk_at "go3") => `(tactic| simp only [n_op2, n_op2a, n_dat2, n_tst2, n_rd2, n_rd2s, n_rdt2, n_rdt2s, n_getd, n_getr, n_getl, n_not2, n_no, n_and, n_andt, n_andf, n_or, n_ort, n_orf, n_not, n_T, n_t, n_tand, n_tandt, n_tandf, n_tor, n_tort, n_torf, n_tnot, n_tn, n_if, n_ift, n_iff, n_ch, n_ch1, n_ch2, n_ch3t, n_ch3f, n_un, n_und, n_nil, n_cons, n_cons1, n_cons2, n_tup, n_tu, n_tus, n_lst, n_ls, n_lss, n_dn, n_dc, n_ofl, n_ofl2, n_new, n_new2, n_is, n_is2, n_is3, n_cal, n_calL, n_nop, n_part, n_pt, n_sl, n_sl1, n_sl2, n_sl3, n_slw, n_isno, n_isnot, n_isnoi, n_isnol, n_isnou, n_iter, n_itl, n_itu, n_its, n_c, n_var, n_va, n_seq, n_sqn, n_sqr, n_sqe, n_pass, n_set, n_se, n_ret, n_re, n_retn, n_drop, n_dr, n_ifs, n_ifst, n_ifsf, n_raise, n_par, n_pa, n_asg, n_as, n_aso, n_gT2, n_gN, n_for, n_fo, n_lo0, n_lo, n_lon, n_lor, n_step, n_st, n_try, n_catn, n_catr, n_def, n_outn, n_outr, n_oute, n_len, n_lend, n_lenl, n_lenu, n_max, n_min, n_inti, n_intb, n_tupl, n_addi, n_subi, n_lei, n_lti, n_gti, n_negi, n_lc, n_lcs, n_lp0, n_lp1, n_lps, n_lpn, n_turn, n_tc, n_yes, n_nox, n_tct, n_tcf, n_one, n_w0, n_w1, n_sum, n_sums, n_in0, n_in1, bind_ok, bind_exc, rF_ok, rF_exc, ofO_some, lenW1, lenW2, lenW3, lenW4, lenW5, id_eq, List.length_cons, List.length_nil, List.map_cons, List.map_nil, List.cons_append, List.nil_append, List.getElem?_cons_zero, List.getElem?_cons_succ, List.replicate, Nat.sub_self, List.append_nil, List.set_cons_zero, List.set_cons_succ, if_true, if_false, ite_true, ite_false, Bool.false_eq_true, reduceCtorEq, Option.map_some, is_int, is_bool, is_str, is_tuple, Nat.zero_add, Nat.reduceAdd, Nat.reduceSub, Nat.reduceLeDiff, isT, ixt0, ixt1, ixt2, ixt3, ixl0, ixl1, in2, in3, in2L, in3L, eqss, eqii, beq_self_eq_true, Bool.not_true, Bool.not_false, Bool.or_true, Bool.or_false, Bool.true_or, Bool.false_or, Bool.and_true, Bool.and_false, Bool.true_and, Bool.false_and, Int.reduceLE, Int.reduceLT, Int.reduceNeg, decide_true, decide_false, Int.reduceSub, Int.reduceAdd, sizeLine, Nat.reducePow, Int.cast_ofNat_Int, Int.reduceBEq, bg1, bg2, bg3, bg4, powE, powE8, String.reduceBEq, Nat.reduceLT, nI1, nI2, nI3, nI4, nI5, nI6, Int.add_zero, Int.mul_one, List.isEmpty_cons, List.isEmpty_nil, List.sum_cons, List.sum_nil, cu21, cu31, cu32, cu43, cv22, cv32, cv33, cv44, sl_t, ad_t, rs0, rs1, rs2, kWB, kAH, kN, kT, kTO, kSPM, i_set, i_1, i_2, i_3, i_s1, i_s2, i_s3, i_abs, i_gei, i_rng, i_app, i_a1, i_a2, i_a3, i_a4, i_frz, i_fz, i_fz2, ixl2, ixl3, *])
local macro_rules | `(tactic| walk_at "end") => `(tactic| simp [kAH, kWB, kN, kT, kTO, kSPM, sizeLine, r0, r1, r2, n_outn, n_outr, n_oute, bigt, bigc, n_ifst, n_ifsf, n_ift, n_iff, n_sqn, n_sqr, n_re, n_pass, *])
theorem HS.len {rest S : SS} (h : HS rest S) : S.length = rest.length + 1 := by
  obtain ⟨cs, a, b, c, rfl, _⟩ := h
  rfl
theorem HS.get {rest S : SS} (h : HS rest S) (k : Nat) : S[k + 1]? = rest[k]? := by
  obtain ⟨cs, a, b, c, rfl, _⟩ := h
  rfl
theorem HS.push {rest S : SS} (h : HS rest S) (l : SS) : HS (rest ++ l) (S ++ l) := by
  obtain ⟨cs, a, b, c, rfl, hc⟩ := h
  exact ⟨cs, a, b, c, rfl, hc⟩
theorem HS.set {rest S : SS} (h : HS rest S) (k : Nat) (o : O) : HS (rest.set k o) (S.set (k + 1) o) := by
  obtain ⟨cs, a, b, c, rfl, hc⟩ := h
  exact ⟨cs, a, b, c, rfl, hc⟩
theorem add_s {x y : Str} (h : x.length + y.length ≤ 100) : addD (.str x) (.str y) = some (.str (x ++ y)) := by
  show (if _ then _ else _) = _
  rw [if_pos (Nat.le_trans h (by decide))]
theorem ok_app {x y : Str} (hx : PyData.strOk x = true) (hy : PyData.strOk y = true) : PyData.strOk (x ++ y) = true := by
  unfold PyData.strOk at *
  show (x.cps ++ y.cps).all _ = true
  rw [Array.all_append, hx, hy]
  rfl
theorem one_ok {c : Nat} (h : c < 0x110000) : PyData.strOk ⟨#[c]⟩ = true := by
  unfold PyData.strOk
  simpa using h
theorem letter_ok {r : Int} (h : 0 ≤ r) (h' : r < 26) : ∃ c, ixD (.str "abcdefghijklmnopqrstuvwxyz") (.int r) = some (.str ⟨#[c]⟩) ∧ c < 0x110000 := by
  obtain ⟨n, rfl⟩ := Int.eq_ofNat_of_zero_le h
  have hl : ("abcdefghijklmnopqrstuvwxyz" : Str).cps.toList.length = 26 := by decide +kernel
  have ha : ("abcdefghijklmnopqrstuvwxyz" : Str).cps.toList.all (fun c => decide (c < 0x110000)) = true := by decide +kernel
  have hn : n < ("abcdefghijklmnopqrstuvwxyz" : Str).cps.toList.length := by rw [hl]; omega
  refine ⟨_, ?_, of_decide_eq_true (List.all_eq_true.mp ha _ (List.getElem_mem hn))⟩
  have e : ixD (.str "abcdefghijklmnopqrstuvwxyz") (.int n) = (atI ("abcdefghijklmnopqrstuvwxyz" : Str).cps.toList (n : Int)).map fun c => .str ⟨#[c]⟩ := by
    simp only [ixD]
    rw [if_pos (by decide +kernel)]
  rw [e, atI_cast, List.getElem?_eq_getElem hn]
  rfl
theorem letters_ok {rest S : SS} (hs : HS rest S) : Rt (m__law_letters [.ref 0, .dat (.int 2)] S) fun w S' => ∃ x : Str, w = .dat (.str x) ∧ x.length = 2 ∧ PyData.strOk x = true ∧ HS rest S' := by
  obtain ⟨r1, S1, e1, l1, u1, h1⟩ := draw_ok hs (many := 26) (by decide) (by decide)
  obtain ⟨r2, S2, e2, l2, u2, h2⟩ := draw_ok h1 (many := 26) (by decide) (by decide)
  obtain ⟨c1, q1, k1⟩ := letter_ok l1 u1
  obtain ⟨c2, q2, k2⟩ := letter_ok l2 u2
  have hr : ∀ S, kRg [.dat (.int 2)] S = .ok [.int 0, .int 1] S := fun _ => rfl
  have a1 : addD (.str "") (.str ⟨#[c1]⟩) = some (.str ("" ++ ⟨#[c1]⟩)) := add_s (by show 0 + 1 ≤ 100; decide)
  have a2 : addD (.str ("" ++ ⟨#[c1]⟩)) (.str ⟨#[c2]⟩) = some (.str (("" ++ ⟨#[c1]⟩) ++ ⟨#[c2]⟩)) := add_s (by rw [Str.length_append]; show 0 + 1 + 1 ≤ 100; decide)
  have f1 : PyData.strOk (("" ++ ⟨#[c1]⟩) ++ ⟨#[c2]⟩ : Str) = true := ok_app (ok_app (by decide +kernel) (one_ok k1)) (one_ok k2)
  have f2 : (("" ++ ⟨#[c1]⟩) ++ ⟨#[c2]⟩ : Str).length = 2 := by rw [Str.length_append, Str.length_append]; rfl
  unfold m__law_letters mb__law_letters
  clear k1 k2 hs h1
  walk_at "go3"
  exact ⟨_, _, rfl, _, rfl, f2, f1, h2⟩
def Wd (d : PyData) : Prop := ∃ x : Str, d = .str x ∧ x.length ≤ 4 ∧ PyData.strOk x = true
theorem cut_ok {x : Str} (lo hi : Option Int) (h : PyData.strOk x = true) : (cutS x lo hi).length ≤ x.length ∧ PyData.strOk (cutS x lo hi) = true := by
  unfold cutS
  refine ⟨?_, ?_⟩
  · show (List.toArray _).size ≤ x.cps.size
    rw [List.size_toArray, List.length_take, List.length_drop, Array.length_toList]
    omega
  · unfold PyData.strOk at *
    rw [← Array.all_toList] at *
    rw [List.all_eq_true] at *
    intro c hc
    exact h c (List.mem_of_mem_drop (List.mem_of_mem_take hc))
theorem cut1 (x : Str) : (cutS x none (some 1)).length ≤ 1 := by
  unfold cutS
  show (List.toArray _).size ≤ 1
  rw [List.size_toArray, List.length_take]
  have : HT.sIx x.length x.length (some 1) ≤ 1 := by
    unfold HT.sIx
    simp
    try omega
  omega
theorem in_flat {x : PyData} {ys : List PyData} (hx : flatD x = true) (hy : ∀ y ∈ ys, flatD y = true) : ∃ b, inD x (.list ys) = some b := by
  have h : (flatD x && ys.all flatD) = true := by
    rw [hx, Bool.true_and, List.all_eq_true]
    exact hy
  refine ⟨ys.any fun y => PyData.eqv y x, ?_⟩
  cases x <;> first | (show (if _ then _ else _) = _; rw [if_pos h]) | cases hx
end K63

set_option Elab.async false
set_option linter.all false
set_option maxRecDepth 100000
set_option maxHeartbeats 2000000
namespace K63
open PySem L2 Sm
local macro_rules | `(tactic| walk_at "go3") => `(tactic| simp only [n_op2, n_op2a, n_dat2, n_tst2, n_rd2, n_rd2s, n_rdt2, n_rdt2s, n_getd, n_getr, n_getl, n_not2, n_no, n_and, n_andt, n_andf, n_or, n_ort, n_orf, n_not, n_T, n_t, n_tand, n_tandt, n_tandf, n_tor, n_tort, n_torf, n_tnot, n_tn, n_if, n_ift, n_iff, n_ch, n_ch1, n_ch2, n_ch3t, n_ch3f, n_un, n_und, n_nil, n_cons, n_cons1, n_cons2, n_tup, n_tu, n_tus, n_lst, n_ls, n_lss, n_dn, n_dc, n_ofl, n_ofl2, n_new, n_new2, n_is, n_is2, n_is3, n_cal, n_calL, n_nop, n_part, n_pt, n_sl, n_sl1, n_sl2, n_sl3, n_slw, n_isno, n_isnot, n_isnoi, n_isnol, n_isnou, n_iter, n_itl, n_itu, n_its, n_c, n_var, n_va, n_seq, n_sqn, n_sqr, n_sqe, n_pass, n_set, n_se, n_ret, n_re, n_retn, n_drop, n_dr, n_ifs, n_ifst, n_ifsf, n_raise, n_par, n_pa, n_asg, n_as, n_aso, n_gT2, n_gN, n_for, n_fo, n_lo0, n_lo, n_lon, n_lor, n_step, n_st, n_try, n_catn, n_catr, n_def, n_outn, n_outr, n_oute, n_len, n_lend, n_lenl, n_lenu, n_max, n_min, n_inti, n_intb, n_tupl, n_addi, n_subi, n_lei, n_lti, n_gti, n_negi, n_lc, n_lcs, n_lp0, n_lp1, n_lps, n_lpn, n_turn, n_tc, n_yes, n_nox, n_tct, n_tcf, n_one, n_w0, n_w1, n_sum, n_sums, n_in0, n_in1, bind_ok, bind_exc, rF_ok, rF_exc, ofO_some, lenW1, lenW2, lenW3, lenW4, lenW5, id_eq, List.length_cons, List.length_nil, List.map_cons, List.map_nil, List.cons_append, List.nil_append, List.getElem?_cons_zero, List.getElem?_cons_succ, List.replicate, Nat.sub_self, List.append_nil, List.set_cons_zero, List.set_cons_succ, if_true, if_false, ite_true, ite_false, Bool.false_eq_true, reduceCtorEq, Option.map_some, is_int, is_bool, is_str, is_tuple, Nat.zero_add, Nat.reduceAdd, Nat.reduceSub, Nat.reduceLeDiff, isT, ixt0, ixt1, ixt2, ixt3, ixl0, ixl1, in2, in3, in2L, in3L, eqss, eqii, beq_self_eq_true, Bool.not_true, Bool.not_false, Bool.or_true, Bool.or_false, Bool.true_or, Bool.false_or, Bool.and_true, Bool.and_false, Bool.true_and, Bool.false_and, Int.reduceLE, Int.reduceLT, Int.reduceNeg, decide_true, decide_false, Int.reduceSub, Int.reduceAdd, sizeLine, Nat.reducePow, Int.cast_ofNat_Int, Int.reduceBEq, bg1, bg2, bg3, bg4, powE, powE8, String.reduceBEq, Nat.reduceLT, nI1, nI2, nI3, nI4, nI5, nI6, Int.add_zero, Int.mul_one, List.isEmpty_cons, List.isEmpty_nil, List.sum_cons, List.sum_nil, cu21, cu31, cu32, cu43, cv22, cv32, cv33, cv44, sl_t, ad_t, rs0, rs1, rs2, kWB, kAH, kN, kT, kTO, kSPM, i_set, i_1, i_2, i_3, i_s1, i_s2, i_s3, i_abs, i_gei, i_rng, i_app, i_a1, i_a2, i_a3, i_a4, i_frz, i_fz, i_fz2, ixl2, ixl3, *])
local macro_rules | `(tactic| walk_at "end") => `(tactic| simp [kAH, kWB, kN, kT, kTO, kSPM, sizeLine, r0, r1, r2, n_outn, n_outr, n_oute, bigt, bigc, n_ifst, n_ifsf, n_ift, n_iff, n_sqn, n_sqr, n_re, n_pass, *])
theorem Wd.flat {d : PyData} (h : Wd d) : flatD d = true := by
  obtain ⟨x, rfl, _⟩ := h
  rfl
theorem sl_s {x : Str} (h : x.length ≤ 100) (lo hi : Option Int) : slD (.str x) lo hi = some (.str (cutS x lo hi)) := by
  show (if _ then _ else _) = _
  rw [if_pos (Nat.le_trans h (by decide))]
theorem words_ok {S : SS} (hs : HS [] S) : Rt (m__law_words [.ref 0] S) fun w S' => ∃ ws : List PyData, w = .dat (.list ws) ∧ HS [.dead] S' ∧ 0 < ws.length ∧ ws.length ≤ 10 ∧ ∀ d ∈ ws, Wd d := by
  obtain ⟨_, S1, e1, x, rfl, lx, ox, h1⟩ := letters_ok hs
  have hl1 : S1.length = 1 := h1.len
  have h2 : HS [.lst [.str x]] (S1 ++ [.lst [.str x]]) := h1.push _
  obtain ⟨r1, S2, e2, l1, u1, h3⟩ := draw_ok h2 (many := 2) (by decide) (by decide)
  have hr := fun S => rg_ok (j := 1 + r1) (by omega) (by omega) S
  unfold m__law_words mb__law_words
  walk_at "go3"
  refine for_end (P := fun i ρ S => ∃ (f : Str) (fs : List PyData) (a b : Option W), ρ = [some (.ref 0), some (.ref 1), a, b] ∧ HS [.lst (.str f :: fs)] S ∧ fs.length ≤ i ∧ f.length ≤ 4 ∧ PyData.strOk f = true ∧ ∀ d ∈ fs, Wd d) ?_ ?_ ?_
  · exact ⟨x, [], none, none, rfl, h3, Nat.le_refl _, by omega, ox, fun d hd => by cases hd⟩
  · intro i d ρ S hi hd ⟨f, fs, a, b, eρ, hS, hlen, lf, of, hfs⟩
    subst eρ
    rw [rg_len] at hi
    obtain ⟨_, T1, g1, y, rfl, ly, oy, k1⟩ := letters_ok hS
    obtain ⟨r2, T2, g2, l2, u2, k2⟩ := draw_ok k1 (many := 2) (by decide) (by decide)
    have t1 : T2[1]? = some (.lst (.str f :: fs)) := k2.get 0
    have s1 := sl_s (x := f) (by omega) none (some 1)
    have s2 := sl_s (x := y) (by omega) (some 1) none
    have c1 := cut_ok none (some 1) of
    have c1' := cut1 f
    have c2 := cut_ok (some 1) none oy
    have a1 := add_s (x := cutS f none (some 1)) (y := cutS y (some 1) none) (by omega)
    have lz : (.str f :: fs : List PyData).length < sizeLine := Nat.lt_of_le_of_lt (show _ ≤ 100 by simp only [List.length_cons]; omega) (by decide)
    have fin : ∀ (z : Str), z.length ≤ 4 → PyData.strOk z = true → ∃ bb, inD (.str z) (.list (.str f :: fs)) = some bb := fun z _ _ => in_flat rfl fun y hy => by
      rcases List.mem_cons.mp hy with rfl | hy
      · rfl
      · exact (hfs y hy).flat
    cases hq : (r2 == 0) with
    | false =>
      obtain ⟨bb, hb⟩ := fin y (by omega) oy
      cases bb with
      | true =>
        clear c1 c2 a1 fin
        walk_at "go3"
        exact ⟨_, _, rfl, f, fs, _, _, rfl, k2, by omega, lf, of, hfs⟩
      | false =>
        clear c1 c2 a1 fin
        walk_at "go3"
        refine ⟨_, _, if_pos lz, f, fs ++ [PyData.str y], _, _, rfl, k2.set 0 (O.lst (PyData.str f :: (fs ++ [PyData.str y]))), by simp; omega, lf, of, ?_⟩
        intro d hd
        rcases List.mem_append.mp hd with q | q
        · exact hfs d q
        · cases List.mem_singleton.mp q
          exact ⟨y, rfl, by omega, oy⟩
    | true =>
      obtain ⟨bb, hb⟩ := fin (cutS f none (some 1) ++ cutS y (some 1) none) (by rw [Str.length_append]; omega) (ok_app c1.2 c2.2)
      cases bb with
      | true =>
        clear fin
        walk_at "go3"
        exact ⟨_, _, rfl, f, fs, _, _, rfl, k2, by omega, lf, of, hfs⟩
      | false =>
        clear fin
        walk_at "go3"
        refine ⟨_, _, if_pos lz, f, fs ++ [PyData.str (cutS f none (some 1) ++ cutS y (some 1) none)], _, _, rfl, k2.set 0 (O.lst (PyData.str f :: (fs ++ [PyData.str (cutS f none (some 1) ++ cutS y (some 1) none)]))), by simp; omega, lf, of, ?_⟩
        intro d hd
        rcases List.mem_append.mp hd with q | q
        · exact hfs d q
        · cases List.mem_singleton.mp q
          exact ⟨_, rfl, by rw [Str.length_append]; omega, ok_app c1.2 c2.2⟩
  · intro ρ S ⟨f, fs, a, b, eρ, hS, hlen, lf, of, hfs⟩
    subst eρ
    rw [rg_len] at hlen
    have t1 : S[1]? = some (.lst (.str f :: fs)) := hS.get 0
    walk_at "go3"
    refine ⟨_, _, rfl, _, rfl, hS.set 0 _, by simp, by simp only [List.length_cons]; omega, ?_⟩
    intro d hd
    rcases List.mem_cons.mp hd with rfl | hd
    · exact ⟨f, rfl, lf, of⟩
    · exact hfs d hd
end K63

set_option Elab.async false
set_option linter.all false
set_option maxRecDepth 100000
set_option maxHeartbeats 2000000
namespace K63
open PySem L2 Sm
local macro_rules | `(tactic| walk_at "go3") => `(tactic| simp only [n_op2, n_op2a, n_dat2, n_tst2, n_rd2, n_rd2s, n_rdt2, n_rdt2s, n_getd, n_getr, n_getl, n_not2, n_no, n_and, n_andt, n_andf, n_or, n_ort, n_orf, n_not, n_T, n_t, n_tand, n_tandt, n_tandf, n_tor, n_tort, n_torf, n_tnot, n_tn, n_if, n_ift, n_iff, n_ch, n_ch1, n_ch2, n_ch3t, n_ch3f, n_un, n_und, n_nil, n_cons, n_cons1, n_cons2, n_tup, n_tu, n_tus, n_lst, n_ls, n_lss, n_dn, n_dc, n_ofl, n_ofl2, n_new, n_new2, n_is, n_is2, n_is3, n_cal, n_calL, n_nop, n_part, n_pt, n_sl, n_sl1, n_sl2, n_sl3, n_slw, n_isno, n_isnot, n_isnoi, n_isnol, n_isnou, n_iter, n_itl, n_itu, n_its, n_c, n_var, n_va, n_seq, n_sqn, n_sqr, n_sqe, n_pass, n_set, n_se, n_ret, n_re, n_retn, n_drop, n_dr, n_ifs, n_ifst, n_ifsf, n_raise, n_par, n_pa, n_asg, n_as, n_aso, n_gT2, n_gN, n_for, n_fo, n_lo0, n_lo, n_lon, n_lor, n_step, n_st, n_try, n_catn, n_catr, n_def, n_outn, n_outr, n_oute, n_len, n_lend, n_lenl, n_lenu, n_max, n_min, n_inti, n_intb, n_tupl, n_addi, n_subi, n_lei, n_lti, n_gti, n_negi, n_lc, n_lcs, n_lp0, n_lp1, n_lps, n_lpn, n_turn, n_tc, n_yes, n_nox, n_tct, n_tcf, n_one, n_w0, n_w1, n_sum, n_sums, n_in0, n_in1, bind_ok, bind_exc, rF_ok, rF_exc, ofO_some, lenW1, lenW2, lenW3, lenW4, lenW5, id_eq, List.length_cons, List.length_nil, List.map_cons, List.map_nil, List.cons_append, List.nil_append, List.getElem?_cons_zero, List.getElem?_cons_succ, List.replicate, Nat.sub_self, List.append_nil, List.set_cons_zero, List.set_cons_succ, if_true, if_false, ite_true, ite_false, Bool.false_eq_true, reduceCtorEq, Option.map_some, is_int, is_bool, is_str, is_tuple, Nat.zero_add, Nat.reduceAdd, Nat.reduceSub, Nat.reduceLeDiff, isT, ixt0, ixt1, ixt2, ixt3, ixl0, ixl1, in2, in3, in2L, in3L, eqss, eqii, beq_self_eq_true, Bool.not_true, Bool.not_false, Bool.or_true, Bool.or_false, Bool.true_or, Bool.false_or, Bool.and_true, Bool.and_false, Bool.true_and, Bool.false_and, Int.reduceLE, Int.reduceLT, Int.reduceNeg, decide_true, decide_false, Int.reduceSub, Int.reduceAdd, sizeLine, Nat.reducePow, Int.cast_ofNat_Int, Int.reduceBEq, bg1, bg2, bg3, bg4, powE, powE8, String.reduceBEq, Nat.reduceLT, nI1, nI2, nI3, nI4, nI5, nI6, Int.add_zero, Int.mul_one, List.isEmpty_cons, List.isEmpty_nil, List.sum_cons, List.sum_nil, cu21, cu31, cu32, cu43, cv22, cv32, cv33, cv44, sl_t, ad_t, rs0, rs1, rs2, kWB, kAH, kN, kT, kTO, kSPM, i_set, i_1, i_2, i_3, i_s1, i_s2, i_s3, i_abs, i_gei, i_rng, i_app, i_a1, i_a2, i_a3, i_a4, i_frz, i_fz, i_fz2, ixl2, ixl3, *])
local macro_rules | `(tactic| walk_at "end") => `(tactic| simp [kAH, kWB, kN, kT, kTO, kSPM, sizeLine, r0, r1, r2, n_outn, n_outr, n_oute, bigt, bigc, n_ifst, n_ifsf, n_ift, n_iff, n_sqn, n_sqr, n_re, n_pass, *])
def Wt (d : PyData) : Prop := ∃ v : Int, d = .int v ∧ v.natAbs ≤ 10 ^ 18
theorem Wt.flat {d : PyData} (h : Wt d) : flatD d = true := by
  obtain ⟨x, rfl, _⟩ := h
  rfl
theorem ix_in {ds : List PyData} {r : Int} (h : 0 ≤ r) (h' : r < ds.length) : ∃ x ∈ ds, ixD (.list ds) (.int r) = some x := by
  obtain ⟨n, rfl⟩ := Int.eq_ofNat_of_zero_le h
  have hn : n < ds.length := by omega
  refine ⟨ds[n], List.getElem_mem hn, ?_⟩
  show L2.atI ds (n : Int) = _
  rw [atI_cast, List.getElem?_eq_getElem hn]
theorem worths_ok {S : SS} (hs : HS [.dead] S) : Rt (m__law_worths [.ref 0] S) fun w S' => ∃ ws : List PyData, w = .dat (.list ws) ∧ HS [.dead, .dead] S' ∧ 0 < ws.length ∧ ws.length ≤ 10 ∧ ∀ d ∈ ws, Wt d := by
  obtain ⟨r1, S1, e1, l1, u1, h1⟩ := draw_ok hs (many := 100000000) (by decide) (by decide)
  obtain ⟨r2, S2, e2, l2, u2, h2⟩ := draw_ok h1 (many := 100000000) (by decide) (by decide)
  obtain ⟨r3, S3, e3, l3, u3, h3⟩ := draw_ok h2 (many := 8) (by decide) (by decide)
  obtain ⟨b, hb, ib⟩ := ix_in (ds := [.int 0, .int 1, .int 7, .int (-5), .int 1000000000000000000, .int (-1000000000000000000), .int r1, .int (-1 - r2)]) l3 (by simpa using u3)
  have wb : Wt b := by
    simp only [List.mem_cons, List.not_mem_nil, or_false] at hb
    rcases hb with rfl | rfl | rfl | rfl | rfl | rfl | rfl | rfl <;> exact ⟨_, rfl, by omega⟩
  obtain ⟨bv, rfl, hbv⟩ := wb
  have hl3 : S3.length = 2 := h3.len
  have h4 : HS [.dead, .lst [.int bv]] (S3 ++ [.lst [.int bv]]) := h3.push _
  obtain ⟨r4, S4, e4, l4, u4, h5⟩ := draw_ok h4 (many := 4) (by decide) (by decide)
  have hr := fun S => rg_ok (j := r4) l4 (by omega) S
  unfold m__law_worths mb__law_worths
  clear hb hs h1 h2 h3 h4
  walk_at "go3"
  refine for_end (P := fun i ρ S => ∃ (fs : List PyData) (L a b : Option W), ρ = [some (.ref 0), L, some (.dat (.int bv)), some (.ref 2), a, b] ∧ HS [.dead, .lst fs] S ∧ 0 < fs.length ∧ fs.length ≤ i + 1 ∧ ∀ d ∈ fs, Wt d) ?_ ?_ ?_
  · exact ⟨_, _, _, _, rfl, h5, by simp, by simp, fun d hd => by cases List.mem_singleton.mp hd; exact ⟨bv, rfl, hbv⟩⟩
  · intro i d ρ S hi hd ⟨fs, L, a, b, eρ, hS, hp, hlen, hfs⟩
    subst eρ
    rw [rg_len] at hi
    obtain ⟨x1, T1, g1, y1, z1, k1⟩ := draw_ok hS (many := 7) (by decide) (by decide)
    obtain ⟨x2, T2, g2, y2, z2, k2⟩ := draw_ok k1 (many := 8) (by decide) (by decide)
    have lz : fs.length < sizeLine := Nat.lt_of_le_of_lt (show _ ≤ 100 by omega) (by decide)
    have fin : ∀ (z : Int), ∃ bb, inD (.int z) (.list fs) = some bb := fun z => in_flat rfl fun y hy => (hfs y hy).flat
    have step : ∀ (T : SS) (w : PyData), Wt w → HS [.dead, .lst fs] T → T[2]? = some (.lst fs) ∧ HS [.dead, .lst (fs ++ [w])] (T.set 2 (.lst (fs ++ [w]))) ∧ (0 < (fs ++ [w]).length ∧ (fs ++ [w]).length ≤ i + 1 + 1 ∧ ∀ d ∈ fs ++ [w], Wt d) := by
      intro T w hw hT
      refine ⟨hT.get 1, hT.set 1 (.lst (fs ++ [w])), by simp, by simp; omega, fun d hd => ?_⟩
      rcases List.mem_append.mp hd with q | q
      · exact hfs d q
      · cases List.mem_singleton.mp q
        exact hw
    cases hq : (x2 == 0) with
    | false =>
      obtain ⟨wv, ew⟩ : ∃ wv : Int, wv = (if (if bv + x1 - 3 > -1000000000000000000 then bv + x1 - 3 else -1000000000000000000) < 1000000000000000000 then (if bv + x1 - 3 > -1000000000000000000 then bv + x1 - 3 else -1000000000000000000) else 1000000000000000000) := ⟨_, rfl⟩
      have hw : wv.natAbs ≤ 10 ^ 18 := by
        rw [ew]
        by_cases c1 : bv + x1 - 3 > -1000000000000000000
        · rw [if_pos c1]
          by_cases c2 : bv + x1 - 3 < 1000000000000000000
          · rw [if_pos c2]; omega
          · rw [if_neg c2]; omega
        · rw [if_neg c1, if_pos (by decide)]; omega
      obtain ⟨bb, hb⟩ := fin wv
      obtain ⟨q1, q2, q3⟩ := step T2 (.int wv) ⟨wv, rfl, hw⟩ k2
      have ew' := ew.symm
      clear ew fin step
      cases bb with
      | true =>
        walk_at "go3"
        exact ⟨_, _, rfl, fs, _, _, _, rfl, k2, hp, by omega, hfs⟩
      | false =>
        walk_at "go3"
        exact ⟨_, _, if_pos lz, _, _, _, _, rfl, q2, q3⟩
    | true =>
      obtain ⟨x3, T3, g3, y3, z3, k3⟩ := draw_ok k2 (many := 4) (by decide) (by decide)
      obtain ⟨v, hv, iv⟩ := ix_in (ds := [.int 1000000000000000000, .int (-1000000000000000000), .int 999999999999999999, .int (-999999999999999999)]) y3 (by simpa using z3)
      have wv : Wt v := by
        simp only [List.mem_cons, List.not_mem_nil, or_false] at hv
        rcases hv with rfl | rfl | rfl | rfl <;> exact ⟨_, rfl, by omega⟩
      obtain ⟨w, rfl, hw⟩ := wv
      obtain ⟨bb, hb⟩ := fin w
      obtain ⟨q1, q2, q3⟩ := step T3 (.int w) ⟨w, rfl, hw⟩ k3
      clear hv fin step
      cases bb with
      | true =>
        walk_at "go3"
        exact ⟨_, _, rfl, fs, _, _, _, rfl, k3, hp, by omega, hfs⟩
      | false =>
        walk_at "go3"
        exact ⟨_, _, if_pos lz, _, _, _, _, rfl, q2, q3⟩
  · intro ρ S ⟨fs, L, a, b, eρ, hS, hp, hlen, hfs⟩
    subst eρ
    rw [rg_len] at hlen
    have t1 : S[2]? = some (.lst fs) := hS.get 1
    walk_at "go3"
    exact ⟨_, _, rfl, _, rfl, hS.set 1 _, hp, by omega, hfs⟩
end K63

set_option Elab.async false
set_option linter.all false
set_option maxRecDepth 100000
set_option maxHeartbeats 2000000
namespace K63
open PySem L2 Sm
local macro_rules | `(tactic| walk_at "go3") => `(tactic| simp only [n_op2, n_op2a, n_dat2, n_tst2, n_rd2, n_rd2s, n_rdt2, n_rdt2s, n_getd, n_getr, n_getl, n_not2, n_no, n_and, n_andt, n_andf, n_or, n_ort, n_orf, n_not, n_T, n_t, n_tand, n_tandt, n_tandf, n_tor, n_tort, n_torf, n_tnot, n_tn, n_if, n_ift, n_iff, n_ch, n_ch1, n_ch2, n_ch3t, n_ch3f, n_un, n_und, n_nil, n_cons, n_cons1, n_cons2, n_tup, n_tu, n_tus, n_lst, n_ls, n_lss, n_dn, n_dc, n_ofl, n_ofl2, n_new, n_new2, n_is, n_is2, n_is3, n_cal, n_calL, n_nop, n_part, n_pt, n_sl, n_sl1, n_sl2, n_sl3, n_slw, n_isno, n_isnot, n_isnoi, n_isnol, n_isnou, n_iter, n_itl, n_itu, n_its, n_c, n_var, n_va, n_seq, n_sqn, n_sqr, n_sqe, n_pass, n_set, n_se, n_ret, n_re, n_retn, n_drop, n_dr, n_ifs, n_ifst, n_ifsf, n_raise, n_par, n_pa, n_asg, n_as, n_aso, n_gT2, n_gN, n_for, n_fo, n_lo0, n_lo, n_lon, n_lor, n_step, n_st, n_try, n_catn, n_catr, n_def, n_outn, n_outr, n_oute, n_len, n_lend, n_lenl, n_lenu, n_max, n_min, n_inti, n_intb, n_tupl, n_addi, n_subi, n_lei, n_lti, n_gti, n_negi, n_lc, n_lcs, n_lp0, n_lp1, n_lps, n_lpn, n_turn, n_tc, n_yes, n_nox, n_tct, n_tcf, n_one, n_w0, n_w1, n_sum, n_sums, n_in0, n_in1, bind_ok, bind_exc, rF_ok, rF_exc, ofO_some, lenW1, lenW2, lenW3, lenW4, lenW5, id_eq, List.length_cons, List.length_nil, List.map_cons, List.map_nil, List.cons_append, List.nil_append, List.getElem?_cons_zero, List.getElem?_cons_succ, List.replicate, Nat.sub_self, List.append_nil, List.set_cons_zero, List.set_cons_succ, if_true, if_false, ite_true, ite_false, Bool.false_eq_true, reduceCtorEq, Option.map_some, is_int, is_bool, is_str, is_tuple, Nat.zero_add, Nat.reduceAdd, Nat.reduceSub, Nat.reduceLeDiff, isT, ixt0, ixt1, ixt2, ixt3, ixl0, ixl1, in2, in3, in2L, in3L, eqss, eqii, beq_self_eq_true, Bool.not_true, Bool.not_false, Bool.or_true, Bool.or_false, Bool.true_or, Bool.false_or, Bool.and_true, Bool.and_false, Bool.true_and, Bool.false_and, Int.reduceLE, Int.reduceLT, Int.reduceNeg, decide_true, decide_false, Int.reduceSub, Int.reduceAdd, sizeLine, Nat.reducePow, Int.cast_ofNat_Int, Int.reduceBEq, bg1, bg2, bg3, bg4, powE, powE8, String.reduceBEq, Nat.reduceLT, nI1, nI2, nI3, nI4, nI5, nI6, Int.add_zero, Int.mul_one, List.isEmpty_cons, List.isEmpty_nil, List.sum_cons, List.sum_nil, cu21, cu31, cu32, cu43, cv22, cv32, cv33, cv44, sl_t, ad_t, rs0, rs1, rs2, kWB, kAH, kN, kT, kTO, kSPM, i_set, i_1, i_2, i_3, i_s1, i_s2, i_s3, i_abs, i_gei, i_rng, i_app, i_a1, i_a2, i_a3, i_a4, i_frz, i_fz, i_fz2, ixl2, ixl3, *])
local macro_rules | `(tactic| walk_at "end") => `(tactic| simp [kAH, kWB, kN, kT, kTO, kSPM, sizeLine, r0, r1, r2, n_outn, n_outr, n_oute, bigt, bigc, n_ifst, n_ifsf, n_ift, n_iff, n_sqn, n_sqr, n_re, n_pass, *])
/-- the shape of what the law draws -/
inductive Xp : PyData → Prop
  | at (w : Str) (r : List PyData) : r.length ≤ 2 → plcN w = [] → okD (.str w) = true → (∀ x ∈ r, okD x = true ∧ flatD x = true) → Xp (.tuple (.str w :: r))
  | two (w : Str) (a b : PyData) : kTO w = true → Xp a → Xp b → Xp (.tuple [.str w, a, b])
  | one (w : Str) (a : PyData) : kSPM w = true → Xp a → Xp (.tuple [.str w, a])
  | tim (i j : Int) (a : PyData) : i.natAbs ≤ 400 → j.natAbs ≤ 400 → Xp a → Xp (.tuple [.str "times", .int i, .int j, a])
theorem kTO_ok {w : Str} (h : kTO w = true) : w = "then" ∨ w = "or" := by
  unfold kTO at h
  rw [Bool.or_eq_true] at h
  rcases h with h | h
  · exact .inl (eq_of_beq h).symm
  · exact .inr (eq_of_beq h).symm
theorem kSPM_ok {w : Str} (h : kSPM w = true) : w = "star" ∨ w = "plus" ∨ w = "maybe" := by
  unfold kSPM at h
  rw [Bool.or_eq_true, Bool.or_eq_true] at h
  rcases h with h | h | h
  · exact .inl (eq_of_beq h).symm
  · exact .inr (.inl (eq_of_beq h).symm)
  · exact .inr (.inr (eq_of_beq h).symm)
theorem key_ok : okD (.str "then") = true ∧ okD (.str "or") = true ∧ okD (.str "star") = true ∧ okD (.str "plus") = true ∧ okD (.str "maybe") = true ∧ okD (.str "times") = true := by
  simp only [okD]
  decide +kernel
theorem flat_no {x : PyData} (h : flatD x = true) : PyData.hasDict x = false ∧ listsD x = false ∧ x.depth = 0 := by
  cases x <;> first | (exact absurd h Bool.false_ne_true) | simp [PyData.hasDict, listsD, PyData.depth]
theorem Xp.facts {d : PyData} (h : Xp d) : okD d = true ∧ PyData.hasDict d = false ∧ listsD d = false := by
  induction h with
  | «at» w r h0 h1 h2 h3 =>
    have : okL r = true ∧ PyData.hasDictAll r = false ∧ listsL r = false := by
      clear h0 h1 h2
      induction r with
      | nil => simp [okL, PyData.hasDictAll, listsL]
      | cons a t ih =>
        have q := h3 a List.mem_cons_self
        have q2 := flat_no q.2
        have q3 := ih fun x hx => h3 x (List.mem_cons_of_mem _ hx)
        simp [okL, PyData.hasDictAll, listsL, q, q2, q3]
    have e : okD (.tuple (.str w :: r)) = (okD (.str w) && okL r) := by simp only [okD, okL]
    rw [e, h2, this.1]
    simp [PyData.hasDict, PyData.hasDictAll, listsD, listsL, this]
  | two w a b h1 _ _ ha hb =>
    have hw : okD (.str w) = true := by rcases kTO_ok h1 with rfl | rfl; exact key_ok.1; exact key_ok.2.1
    have e : okD (.tuple [.str w, a, b]) = (okD (.str w) && (okD a && (okD b && true))) := by simp only [okD, okL]
    rw [e, hw, ha.1, hb.1]
    simp [PyData.hasDict, PyData.hasDictAll, listsD, listsL, ha, hb]
  | one w a h1 _ ha =>
    have hw : okD (.str w) = true := by
      rcases kSPM_ok h1 with rfl | rfl | rfl
      · exact key_ok.2.2.1
      · exact key_ok.2.2.2.1
      · exact key_ok.2.2.2.2.1
    have e : okD (.tuple [.str w, a]) = (okD (.str w) && (okD a && true)) := by simp only [okD, okL]
    rw [e, hw, ha.1]
    simp [PyData.hasDict, PyData.hasDictAll, listsD, listsL, ha]
  | tim i j a h1 h2 _ ha =>
    have e : okD (.tuple [.str "times", .int i, .int j, a]) = (okD (.str "times") && (okD (.int i) && (okD (.int j) && (okD a && true)))) := by simp only [okD, okL]
    have hi : okD (.int i) = true := by simp only [okD, decide_eq_true_eq]; omega
    have hj : okD (.int j) = true := by simp only [okD, decide_eq_true_eq]; omega
    rw [e, key_ok.2.2.2.2.2, hi, hj, ha.1]
    simp [PyData.hasDict, PyData.hasDictAll, listsD, listsL, ha]
theorem Xp.tup {d : PyData} (h : Xp d) : ∃ w r, d = .tuple (.str w :: r) := by
  cases h <;> exact ⟨_, _, rfl⟩
theorem wt_int {i : Int} {k : Nat} (h : i.natAbs < 2 ^ k) : PyData.weight (.int i) ≤ k := by
  simp only [PyData.weight]
  by_cases hz : i = 0
  · subst hz; simp
  · have : ¬ (i == 0) = true := by simpa using hz
    rw [if_neg this]
    exact (Nat.log2_lt (by omega)).mpr h
theorem wt_str {x : Str} : PyData.weight (.str x) = x.length := by simp only [PyData.weight]; rfl
theorem wt2 {w : Str} {a b : PyData} (h : w.length ≤ 6) : PyData.weight (.tuple [.str w, a, b]) ≤ a.weight + b.weight + 9 := by
  simp only [PyData.weight, PyData.weightAll]
  show w.length + 1 + (a.weight + 1 + (b.weight + 1 + 0)) ≤ _
  omega
theorem wt1 {w : Str} {a : PyData} (h : w.length ≤ 6) : PyData.weight (.tuple [.str w, a]) ≤ a.weight + 8 := by
  simp only [PyData.weight, PyData.weightAll]
  show w.length + 1 + (a.weight + 1 + 0) ≤ _
  omega
theorem wt3 {w : Str} {a b c : PyData} (h : w.length ≤ 6) : PyData.weight (.tuple [.str w, a, b, c]) ≤ a.weight + b.weight + c.weight + 10 := by
  simp only [PyData.weight, PyData.weightAll]
  show w.length + 1 + (a.weight + 1 + (b.weight + 1 + (c.weight + 1 + 0))) ≤ _
  omega
theorem dp1 {w : Str} {a : PyData} : PyData.depth (.tuple [.str w, a]) = a.depth + 1 := by simp [PyData.depth, PyData.depthAll]
theorem dp2 {w : Str} {a b : PyData} : PyData.depth (.tuple [.str w, a, b]) = max a.depth b.depth + 1 := by simp [PyData.depth, PyData.depthAll]
theorem dp3 {w : Str} {a b c : PyData} : PyData.depth (.tuple [.str w, a, b, c]) = max a.depth (max b.depth c.depth) + 1 := by simp [PyData.depth, PyData.depthAll]
theorem dpi {i : Int} : PyData.depth (.int i) = 0 := by simp [PyData.depth]
structure Lst (P : PyData → Prop) (ws : List PyData) : Prop where
  pos : 0 < ws.length
  few : ws.length ≤ 10
  all : ∀ d ∈ ws, P d
/-- a drawn expression of at most that weight and depth -/
def Ex (B D : Nat) (rest : SS) : W → SS → Prop := fun w S => ∃ d, w = .dat d ∧ Xp d ∧ d.weight ≤ B ∧ d.depth ≤ D ∧ HS rest S
theorem wd_facts {d : PyData} (h : Wd d) : okD d = true ∧ flatD d = true ∧ d.weight ≤ 4 := by
  obtain ⟨x, rfl, h1, h2⟩ := h
  refine ⟨by simp only [okD, h2, Bool.and_true, decide_eq_true_eq]; omega, rfl, by rw [wt_str]; exact h1⟩
theorem wt_facts {d : PyData} (h : Wt d) : okD d = true ∧ flatD d = true ∧ d.weight ≤ 64 := by
  obtain ⟨x, rfl, h1⟩ := h
  refine ⟨by simp only [okD, decide_eq_true_eq]; omega, rfl, wt_int (Nat.lt_of_le_of_lt h1 (by decide))⟩
theorem plcN_at : plcN "word" = [] ∧ plcN "back" = [] ∧ plcN "node" = [] ∧ plcN "any" = [] ∧ plcN "here" = [] := by
  have h : ∀ w : Str, kTO w = false → kSPM w = false → kT w = false → plcN w = [] := fun w h1 h2 h3 => by unfold plcN; simp [h1, h2, h3]
  exact ⟨h _ (by decide +kernel) (by decide +kernel) (by decide +kernel), h _ (by decide +kernel) (by decide +kernel) (by decide +kernel), h _ (by decide +kernel) (by decide +kernel) (by decide +kernel), h _ (by decide +kernel) (by decide +kernel) (by decide +kernel), h _ (by decide +kernel) (by decide +kernel) (by decide +kernel)⟩
theorem key_at : okD (.str "word") = true ∧ okD (.str "back") = true ∧ okD (.str "node") = true ∧ okD (.str "any") = true ∧ okD (.str "here") = true := by
  simp only [okD]
  decide +kernel
theorem len_at : ("word" : Str).length = 4 ∧ ("back" : Str).length = 4 ∧ ("node" : Str).length = 4 ∧ ("any" : Str).length = 3 ∧ ("here" : Str).length = 4 := by decide +kernel
theorem sign_ok {r : Int} (h : 0 ≤ r) (h' : r < 3) : ∃ c, ixD (.str "<=>") (.int r) = some (.str ⟨#[c]⟩) ∧ c < 0x110000 := by
  obtain ⟨n, rfl⟩ := Int.eq_ofNat_of_zero_le h
  have hl : ("<=>" : Str).cps.toList.length = 3 := by decide +kernel
  have ha : ("<=>" : Str).cps.toList.all (fun c => decide (c < 0x110000)) = true := by decide +kernel
  have hn : n < ("<=>" : Str).cps.toList.length := by rw [hl]; omega
  refine ⟨_, ?_, of_decide_eq_true (List.all_eq_true.mp ha _ (List.getElem_mem hn))⟩
  have e : ixD (.str "<=>") (.int n) = (atI ("<=>" : Str).cps.toList (n : Int)).map fun c => .str ⟨#[c]⟩ := by
    simp only [ixD]
    rw [if_pos (by decide +kernel)]
  rw [e, atI_cast, List.getElem?_eq_getElem hn]
  rfl
theorem atom_ok' {rest S : SS} {ws vs : List PyData} (hs : HS rest S) (hw : Lst Wd ws) (hv : Lst Wt vs) : Rt (m__law_atom [.ref 0, .dat (.list ws), .dat (.list vs)] S) (Ex 80 1 rest) := by
  obtain ⟨r1, S1, e1, l1, u1, h1⟩ := draw_ok hs (many := 12) (by decide) (by decide)
  have wl := hw.pos
  have wf := hw.few
  have vl := hv.pos
  have vf := hv.few
  obtain ⟨r2, S2, e2, l2, u2, h2⟩ := draw_ok h1 (many := ws.length) (by omega) (by omega)
  obtain ⟨x, hx, ix⟩ := ix_in l2 u2
  obtain ⟨x1, x2, x3⟩ := wd_facts (hw.all x hx)
  have x4 := (flat_no x2).2.2
  unfold m__law_atom mb__law_atom
  by_cases c1 : r1 < 5
  · have c1' : decide (r1 < 5) = true := decide_eq_true c1
    clear hx
    walk_at "go3"
    refine ⟨_, _, rfl, _, rfl, .at _ _ (by simp) plcN_at.1 key_at.1 (fun y hy => by cases List.mem_singleton.mp hy; exact ⟨x1, x2⟩), ?_, by rw [dp1, x4]; omega, h2⟩
    refine Nat.le_trans (wt1 (by rw [len_at.1]; decide)) (by omega)
  · have c1' : decide (r1 < 5) = false := decide_eq_false c1
    by_cases c2 : r1 < 7
    · have c2' : decide (r1 < 7) = true := decide_eq_true c2
      clear hx
      walk_at "go3"
      refine ⟨_, _, rfl, _, rfl, .at _ _ (by simp) plcN_at.2.1 key_at.2.1 (fun y hy => by cases List.mem_singleton.mp hy; exact ⟨x1, x2⟩), ?_, by rw [dp1, x4]; omega, h2⟩
      refine Nat.le_trans (wt1 (by rw [len_at.2.1]; decide)) (by omega)
    · have c2' : decide (r1 < 7) = false := decide_eq_false c2
      by_cases c3 : r1 < 10
      · have c3' : decide (r1 < 10) = true := decide_eq_true c3
        obtain ⟨q1, T1, g1, m1, n1, k1⟩ := draw_ok h1 (many := 3) (by decide) (by decide)
        obtain ⟨q2, T2, g2, m2, n2, k2⟩ := draw_ok k1 (many := vs.length) (by omega) (by omega)
        obtain ⟨c, ic, hc⟩ := sign_ok m1 n1
        obtain ⟨y, hy, iy⟩ := ix_in m2 n2
        obtain ⟨y1, y2, y3⟩ := wt_facts (hv.all y hy)
        have y4 := (flat_no y2).2.2
        clear hx hy ix e2
        walk_at "go3"
        refine ⟨_, _, rfl, _, rfl, .at _ _ (by simp) plcN_at.2.2.1 key_at.2.2.1 (fun z hz => ?_), ?_, ?_, k2⟩
        · rcases List.mem_cons.mp hz with rfl | hz
          · exact ⟨by simp only [okD, one_ok hc, Bool.and_true, decide_eq_true_eq]; show 1 ≤ 6; decide, rfl⟩
          · cases List.mem_singleton.mp hz; exact ⟨y1, y2⟩
        · refine Nat.le_trans (wt2 (by rw [len_at.2.2.1]; decide)) ?_
          rw [wt_str]
          show 1 + y.weight + 9 ≤ 80
          omega
        · rw [dp2, y4]; simp [PyData.depth]
      · have c3' : decide (r1 < 10) = false := decide_eq_false c3
        rcases (show r1 = 10 ∨ r1 = 11 by omega) with rfl | rfl
        · clear hx ix e2
          walk_at "go3"
          refine ⟨_, _, rfl, _, rfl, .at _ _ (by simp) plcN_at.2.2.2.1 key_at.2.2.2.1 (fun y hy => by cases hy), ?_, by simp [PyData.depth, PyData.depthAll], h1⟩
          simp only [PyData.weight, PyData.weightAll]
          show ("any" : Str).length + 1 + 0 ≤ 80
          rw [len_at.2.2.2.1]; decide
        · clear hx ix e2
          walk_at "go3"
          refine ⟨_, _, rfl, _, rfl, .at _ _ (by simp) plcN_at.2.2.2.2 key_at.2.2.2.2 (fun y hy => by cases hy), ?_, by simp [PyData.depth, PyData.depthAll], h1⟩
          simp only [PyData.weight, PyData.weightAll]
          show ("here" : Str).length + 1 + 0 ≤ 80
          rw [len_at.2.2.2.2]; decide
end K63

set_option Elab.async false
set_option linter.all false
set_option maxRecDepth 100000
set_option maxHeartbeats 2000000
namespace K63
open PySem L2 Sm
local macro_rules | `(tactic| walk_at "go3") => `(tactic| simp only [n_op2, n_op2a, n_dat2, n_tst2, n_rd2, n_rd2s, n_rdt2, n_rdt2s, n_getd, n_getr, n_getl, n_not2, n_no, n_and, n_andt, n_andf, n_or, n_ort, n_orf, n_not, n_T, n_t, n_tand, n_tandt, n_tandf, n_tor, n_tort, n_torf, n_tnot, n_tn, n_if, n_ift, n_iff, n_ch, n_ch1, n_ch2, n_ch3t, n_ch3f, n_un, n_und, n_nil, n_cons, n_cons1, n_cons2, n_tup, n_tu, n_tus, n_lst, n_ls, n_lss, n_dn, n_dc, n_ofl, n_ofl2, n_new, n_new2, n_is, n_is2, n_is3, n_cal, n_calL, n_nop, n_part, n_pt, n_sl, n_sl1, n_sl2, n_sl3, n_slw, n_isno, n_isnot, n_isnoi, n_isnol, n_isnou, n_iter, n_itl, n_itu, n_its, n_c, n_var, n_va, n_seq, n_sqn, n_sqr, n_sqe, n_pass, n_set, n_se, n_ret, n_re, n_retn, n_drop, n_dr, n_ifs, n_ifst, n_ifsf, n_raise, n_par, n_pa, n_asg, n_as, n_aso, n_gT2, n_gN, n_for, n_fo, n_lo0, n_lo, n_lon, n_lor, n_step, n_st, n_try, n_catn, n_catr, n_def, n_outn, n_outr, n_oute, n_len, n_lend, n_lenl, n_lenu, n_max, n_min, n_inti, n_intb, n_tupl, n_addi, n_subi, n_lei, n_lti, n_gti, n_negi, n_lc, n_lcs, n_lp0, n_lp1, n_lps, n_lpn, n_turn, n_tc, n_yes, n_nox, n_tct, n_tcf, n_one, n_w0, n_w1, n_sum, n_sums, n_in0, n_in1, bind_ok, bind_exc, rF_ok, rF_exc, ofO_some, lenW1, lenW2, lenW3, lenW4, lenW5, id_eq, List.length_cons, List.length_nil, List.map_cons, List.map_nil, List.cons_append, List.nil_append, List.getElem?_cons_zero, List.getElem?_cons_succ, List.replicate, Nat.sub_self, List.append_nil, List.set_cons_zero, List.set_cons_succ, if_true, if_false, ite_true, ite_false, Bool.false_eq_true, reduceCtorEq, Option.map_some, is_int, is_bool, is_str, is_tuple, Nat.zero_add, Nat.reduceAdd, Nat.reduceSub, Nat.reduceLeDiff, isT, ixt0, ixt1, ixt2, ixt3, ixl0, ixl1, in2, in3, in2L, in3L, eqss, eqii, beq_self_eq_true, Bool.not_true, Bool.not_false, Bool.or_true, Bool.or_false, Bool.true_or, Bool.false_or, Bool.and_true, Bool.and_false, Bool.true_and, Bool.false_and, Int.reduceLE, Int.reduceLT, Int.reduceNeg, decide_true, decide_false, Int.reduceSub, Int.reduceAdd, sizeLine, Nat.reducePow, Int.cast_ofNat_Int, Int.reduceBEq, bg1, bg2, bg3, bg4, powE, powE8, String.reduceBEq, Nat.reduceLT, nI1, nI2, nI3, nI4, nI5, nI6, Int.add_zero, Int.mul_one, List.isEmpty_cons, List.isEmpty_nil, List.sum_cons, List.sum_nil, cu21, cu31, cu32, cu43, cv22, cv32, cv33, cv44, sl_t, ad_t, rs0, rs1, rs2, kWB, kAH, kN, kT, kTO, kSPM, i_set, i_1, i_2, i_3, i_s1, i_s2, i_s3, i_abs, i_gei, i_rng, i_app, i_a1, i_a2, i_a3, i_a4, i_frz, i_fz, i_fz2, ixl2, ixl3, *])
local macro_rules | `(tactic| walk_at "end") => `(tactic| simp [kAH, kWB, kN, kT, kTO, kSPM, sizeLine, r0, r1, r2, n_outn, n_outr, n_oute, bigt, bigc, n_ifst, n_ifsf, n_ift, n_iff, n_sqn, n_sqr, n_re, n_pass, *])
theorem expr_ok {ws vs : List PyData} (hw : Lst Wd ws) (hv : Lst Wt vs) {rest : SS} : ∀ (n k : Nat) (room dp : Int), 1 ≤ n → dp = n → n ≤ k → 1 ≤ room → room ≤ 60 → ∀ {S : SS}, HS rest S →
    Rt (m__law_expression k [.ref 0, .dat (.list ws), .dat (.list vs), .dat (.int room), .dat (.int dp)] S) (Ex (50 * 2 ^ n - 10) n rest)
  | 0, _, _, _, h, _, _, _, _, _, _ => absurd h (by decide)
  | n + 1, 0, _, _, _, _, h, _, _, _, _ => absurd h (Nat.not_succ_le_zero _)
  | 1, k + 1, room, dp, _, hdp, hk, hr, hr', S, hs => by
    obtain ⟨_, S1, e1, a, rfl, xa, wa, da, h1⟩ := atom_ok' hs hw hv
    have hd : decide (dp ≤ 1) = true := decide_eq_true (by omega)
    unfold m__law_expression mb__law_expression
    clear hw hv
    walk_at "go3"
    exact ⟨_, _, rfl, _, rfl, xa, Nat.le_trans wa (by decide), da, h1⟩
  | n + 2, k + 1, room, dp, _, hdp, hk, hr, hr', S, hs => by
    have ih : ∀ (room : Int), 1 ≤ room → room ≤ 60 → ∀ {S : SS}, HS rest S → Rt (m__law_expression k [.ref 0, .dat (.list ws), .dat (.list vs), .dat (.int room), .dat (.int (dp - 1))] S) (Ex (50 * 2 ^ (n + 1) - 10) (n + 1) rest) :=
      fun room g1 g2 S hS => expr_ok hw hv (n + 1) k room (dp - 1) (by omega) (by omega) (by omega) g1 g2 hS
    have hd : decide (dp ≤ 1) = false := decide_eq_false (by omega)
    have hpw : 50 * 2 ^ (n + 2) = 2 * (50 * 2 ^ (n + 1)) := by rw [Nat.pow_succ]; omega
    have hpw1 : 50 ≤ 50 * 2 ^ (n + 1) := Nat.le_mul_of_pos_right _ (Nat.pow_pos (by decide))
    have hpp : 2 * (50 * 2 ^ (n + 1)) - 10 = 50 * 2 ^ (n + 2) - 10 := by rw [hpw]
    rw [hpw]
    generalize 50 * 2 ^ (n + 1) = pw at *
    clear hpw hpp
    have hdq : dp ≤ ((n + 2 : Nat) : Int) ∧ ((n + 2 : Nat) : Int) ≤ dp := by omega
    clear hdp
    unfold m__law_expression mb__law_expression
    by_cases hr1 : room ≤ 1
    · have hr1' : decide (room ≤ 1) = true := decide_eq_true hr1
      obtain ⟨r0', S0, e0, l0, u0, h0⟩ := draw_ok hs (many := 3) (by decide) (by decide)
      cases hz : decide (0 < r0') with
      | true =>
        obtain ⟨_, S1, e1, a, rfl, xa, wa, da, h1⟩ := atom_ok' h0 hw hv
        clear hw hv ih
        walk_at "go3"
        exact ⟨_, _, rfl, _, rfl, xa, by omega, by omega, h1⟩
      | false =>
        obtain ⟨kd, S1, e1, l1, u1, h1⟩ := draw_ok h0 (many := 12) (by decide) (by decide)
        have roads : (1 < room ∧ kd < 7) ∨ (decide (1 < room) = true ∧ decide (kd < 7) = false) ∨ decide (1 < room) = false := by
          by_cases q1 : 1 < room
          · by_cases q2 : kd < 7
            · exact .inl ⟨q1, q2⟩
            · exact .inr (.inl ⟨decide_eq_true q1, decide_eq_false q2⟩)
          · exact .inr (.inr (decide_eq_false q1))
        rcases roads with ⟨b1, b2⟩ | b12
        · have b1' : decide (1 < room) = true := decide_eq_true b1
          have b2' : decide (kd < 7) = true := decide_eq_true b2
          obtain ⟨lf, S2, e2, l2, u2, h2⟩ := draw_ok h1 (many := room - 1) (by omega) (by omega)
          obtain ⟨_, S3, e3, a, rfl, xa, wa, da, h3⟩ := ih (1 + lf) (by omega) (by omega) h2
          obtain ⟨_, S4, e4, b, rfl, xb, wb, db, h4⟩ := ih (room - (1 + lf)) (by omega) (by omega) h3
          clear ih hw hv
          cases b3 : decide (3 < kd) with
          | true =>
            walk_at "go3"
            refine ⟨_, _, rfl, _, rfl, .two _ _ _ (by decide +kernel) xa xb, ?_, ?_, h4⟩
            · refine Nat.le_trans (wt2 (by decide +kernel)) (by omega)
            · rw [dp2]; omega
          | false =>
            walk_at "go3"
            refine ⟨_, _, rfl, _, rfl, .two _ _ _ (by decide +kernel) xa xb, ?_, ?_, h4⟩
            · refine Nat.le_trans (wt2 (by decide +kernel)) (by omega)
            · rw [dp2]; omega
        · cases b3 : decide (kd < 10) with
          | true =>
            obtain ⟨s, S2, e2, l2, u2, h2⟩ := draw_ok h1 (many := 3) (by decide) (by decide)
            obtain ⟨wd, hwd, iw⟩ := ix_in (ds := [.str "star", .str "plus", .str "maybe"]) l2 (by simpa using u2)
            obtain ⟨w, rfl, kw', lw⟩ : ∃ w : Str, wd = .str w ∧ kSPM w = true ∧ w.length ≤ 6 := by
              simp only [List.mem_cons, List.not_mem_nil, or_false] at hwd
              rcases hwd with rfl | rfl | rfl <;> exact ⟨_, rfl, by decide +kernel, by decide +kernel⟩
            obtain ⟨_, S3, e3, a, rfl, xa, wa, da, h3⟩ := ih room hr hr' h2
            clear ih hw hv hwd
            rcases b12 with ⟨g1, g2⟩ | g1
            all_goals
              walk_at "go3"
              refine ⟨_, _, rfl, _, rfl, .one _ _ kw' xa, ?_, ?_, h3⟩
              · exact Nat.le_trans (wt1 lw) (by omega)
              · rw [dp1]; omega
          | false =>
            obtain ⟨mn, emn⟩ : ∃ mn : Int, (if room < 9 then room else 9) = mn := ⟨_, rfl⟩
            have hmn : 1 ≤ mn ∧ mn ≤ 9 ∧ mn ≤ room := by
              by_cases q : room < 9
              · rw [if_pos q] at emn; omega
              · rw [if_neg q] at emn; omega
            obtain ⟨q, S2, e2, l2, u2, h2⟩ := draw_ok h1 (many := mn) (by omega) (by omega)
            obtain ⟨q', S3, e3, l3, u3, h3⟩ := draw_ok h2 (many := 1 + q + 1) (by omega) (by omega)
            have hdv := fd_ok (k := 1 + q) (by omega) (by omega) room
            have hd1 : 1 ≤ room / (1 + q) := Int.le_ediv_of_mul_le (by omega) (by omega)
            have hd2 : room / (1 + q) ≤ room := Int.ediv_le_self _ (by omega)
            obtain ⟨_, S4, e4, a, rfl, xa, wa, da, h4⟩ := ih (room / (1 + q)) hd1 (by omega) h3
            clear ih hw hv
            rcases b12 with ⟨g1, g2⟩ | g1
            all_goals
              walk_at "go3"
              refine ⟨_, _, rfl, _, rfl, .tim q' (1 + q) a (by omega) (by omega) xa, ?_, ?_, h4⟩
              · have w1 : PyData.weight (.int q') ≤ 4 := wt_int (by omega)
                have w2 : PyData.weight (.int (1 + q)) ≤ 4 := wt_int (by omega)
                exact Nat.le_trans (wt3 (by decide +kernel)) (by omega)
              · rw [dp3, dpi, dpi]; omega
    · have hr1' : decide (room ≤ 1) = false := decide_eq_false hr1
      have h0 := hs
      obtain ⟨kd, S1, e1, l1, u1, h1⟩ := draw_ok h0 (many := 12) (by decide) (by decide)
      have roads : (1 < room ∧ kd < 7) ∨ (decide (1 < room) = true ∧ decide (kd < 7) = false) ∨ decide (1 < room) = false := by
        by_cases q1 : 1 < room
        · by_cases q2 : kd < 7
          · exact .inl ⟨q1, q2⟩
          · exact .inr (.inl ⟨decide_eq_true q1, decide_eq_false q2⟩)
        · exact .inr (.inr (decide_eq_false q1))
      rcases roads with ⟨b1, b2⟩ | b12
      · have b1' : decide (1 < room) = true := decide_eq_true b1
        have b2' : decide (kd < 7) = true := decide_eq_true b2
        obtain ⟨lf, S2, e2, l2, u2, h2⟩ := draw_ok h1 (many := room - 1) (by omega) (by omega)
        obtain ⟨_, S3, e3, a, rfl, xa, wa, da, h3⟩ := ih (1 + lf) (by omega) (by omega) h2
        obtain ⟨_, S4, e4, b, rfl, xb, wb, db, h4⟩ := ih (room - (1 + lf)) (by omega) (by omega) h3
        clear ih hw hv
        cases b3 : decide (3 < kd) with
        | true =>
          walk_at "go3"
          refine ⟨_, _, rfl, _, rfl, .two _ _ _ (by decide +kernel) xa xb, ?_, ?_, h4⟩
          · refine Nat.le_trans (wt2 (by decide +kernel)) (by omega)
          · rw [dp2]; omega
        | false =>
          walk_at "go3"
          refine ⟨_, _, rfl, _, rfl, .two _ _ _ (by decide +kernel) xa xb, ?_, ?_, h4⟩
          · refine Nat.le_trans (wt2 (by decide +kernel)) (by omega)
          · rw [dp2]; omega
      · cases b3 : decide (kd < 10) with
        | true =>
          obtain ⟨s, S2, e2, l2, u2, h2⟩ := draw_ok h1 (many := 3) (by decide) (by decide)
          obtain ⟨wd, hwd, iw⟩ := ix_in (ds := [.str "star", .str "plus", .str "maybe"]) l2 (by simpa using u2)
          obtain ⟨w, rfl, kw', lw⟩ : ∃ w : Str, wd = .str w ∧ kSPM w = true ∧ w.length ≤ 6 := by
            simp only [List.mem_cons, List.not_mem_nil, or_false] at hwd
            rcases hwd with rfl | rfl | rfl <;> exact ⟨_, rfl, by decide +kernel, by decide +kernel⟩
          obtain ⟨_, S3, e3, a, rfl, xa, wa, da, h3⟩ := ih room hr hr' h2
          clear ih hw hv hwd
          rcases b12 with ⟨g1, g2⟩ | g1
          all_goals
            walk_at "go3"
            refine ⟨_, _, rfl, _, rfl, .one _ _ kw' xa, ?_, ?_, h3⟩
            · exact Nat.le_trans (wt1 lw) (by omega)
            · rw [dp1]; omega
        | false =>
          obtain ⟨mn, emn⟩ : ∃ mn : Int, (if room < 9 then room else 9) = mn := ⟨_, rfl⟩
          have hmn : 1 ≤ mn ∧ mn ≤ 9 ∧ mn ≤ room := by
            by_cases q : room < 9
            · rw [if_pos q] at emn; omega
            · rw [if_neg q] at emn; omega
          obtain ⟨q, S2, e2, l2, u2, h2⟩ := draw_ok h1 (many := mn) (by omega) (by omega)
          obtain ⟨q', S3, e3, l3, u3, h3⟩ := draw_ok h2 (many := 1 + q + 1) (by omega) (by omega)
          have hdv := fd_ok (k := 1 + q) (by omega) (by omega) room
          have hd1 : 1 ≤ room / (1 + q) := Int.le_ediv_of_mul_le (by omega) (by omega)
          have hd2 : room / (1 + q) ≤ room := Int.ediv_le_self _ (by omega)
          obtain ⟨_, S4, e4, a, rfl, xa, wa, da, h4⟩ := ih (room / (1 + q)) hd1 (by omega) h3
          clear ih hw hv
          rcases b12 with ⟨g1, g2⟩ | g1
          all_goals
            walk_at "go3"
            refine ⟨_, _, rfl, _, rfl, .tim q' (1 + q) a (by omega) (by omega) xa, ?_, ?_, h4⟩
            · have w1 : PyData.weight (.int q') ≤ 4 := wt_int (by omega)
              have w2 : PyData.weight (.int (1 + q)) ≤ 4 := wt_int (by omega)
              exact Nat.le_trans (wt3 (by decide +kernel)) (by omega)
            · rw [dp3, dpi, dpi]; omega
end K63

set_option Elab.async false
set_option linter.all false
set_option maxRecDepth 100000
set_option maxHeartbeats 2000000
namespace K63
open PySem L2 Sm
local macro_rules | `(tactic| walk_at "go4") => `(tactic| simp only [n_op2, n_op2a, n_dat2, n_tst2, n_rd2, n_rd2s, n_rdt2, n_rdt2s, n_getd, n_getr, n_getl, n_not2, n_no, n_and, n_andt, n_andf, n_or, n_ort, n_orf, n_not, n_T, n_t, n_tand, n_tandt, n_tandf, n_tor, n_tort, n_torf, n_tnot, n_tn, n_if, n_ift, n_iff, n_ch, n_ch1, n_ch2, n_ch3t, n_ch3f, n_un, n_und, n_nil, n_cons, n_cons1, n_cons2, n_tup, n_tu, n_tus, n_lst, n_ls, n_lss, n_dn, n_dc, n_ofl, n_ofl2, n_new, n_new2, n_is, n_is2, n_is3, n_cal, n_calL, n_nop, n_part, n_pt, n_sl, n_sl1, n_sl2, n_sl3, n_slw, n_isno, n_isnot, n_isnoi, n_isnol, n_isnou, n_iter, n_itl, n_itu, n_its, n_c, n_var, n_va, n_seq, n_sqn, n_sqr, n_sqe, n_pass, n_set, n_se, n_ret, n_re, n_retn, n_drop, n_dr, n_ifs, n_ifst, n_ifsf, n_raise, n_par, n_pa, n_asg, n_as, n_aso, n_gT2, n_gN, n_for, n_fo, n_lo0, n_lo, n_lon, n_lor, n_step, n_st, n_try, n_catn, n_catr, n_def, n_outn, n_outr, n_oute, n_len, n_lend, n_lenl, n_lenu, n_max, n_min, n_inti, n_intb, n_tupl, n_addi, n_subi, n_lei, n_lti, n_gti, n_negi, n_lc, n_lcs, n_lp0, n_lp1, n_lps, n_lpn, n_turn, n_tc, n_yes, n_nox, n_tct, n_tcf, n_one, n_w0, n_w1, n_sum, n_sums, n_in0, n_in1, bind_ok, bind_exc, rF_ok, rF_exc, ofO_some, lenW1, lenW2, lenW3, lenW4, lenW5, id_eq, List.length_cons, List.length_nil, List.map_cons, List.map_nil, List.cons_append, List.nil_append, List.getElem?_cons_zero, List.getElem?_cons_succ, List.replicate, Nat.sub_self, List.append_nil, List.set_cons_zero, List.set_cons_succ, if_true, if_false, ite_true, ite_false, Bool.false_eq_true, reduceCtorEq, Option.map_some, is_int, is_bool, is_str, is_tuple, Nat.zero_add, Nat.reduceAdd, Nat.reduceSub, Nat.reduceLeDiff, isT, ixt0, ixt1, ixt2, ixt3, ixl0, ixl1, in2, in3, in2L, in3L, eqss, eqii, beq_self_eq_true, Bool.not_true, Bool.not_false, Bool.or_true, Bool.or_false, Bool.true_or, Bool.false_or, Bool.and_true, Bool.and_false, Bool.true_and, Bool.false_and, Int.reduceLE, Int.reduceLT, Int.reduceNeg, decide_true, decide_false, Int.reduceSub, Int.reduceAdd, sizeLine, Nat.reducePow, Int.cast_ofNat_Int, Int.reduceBEq, bg1, bg2, bg3, bg4, powE, powE8, String.reduceBEq, Nat.reduceLT, nI1, nI2, nI3, nI4, nI5, nI6, Int.add_zero, Int.mul_one, List.isEmpty_cons, List.isEmpty_nil, List.sum_cons, List.sum_nil, cu21, cu31, cu32, cu43, cv22, cv32, cv33, cv44, sl_t, ad_t, rs0, rs1, rs2, kWB, kAH, kN, kT, kTO, kSPM, i_set, i_1, i_2, i_3, i_s1, i_s2, i_s3, i_abs, i_gei, i_rng, i_app, i_a1, i_a2, i_a3, i_a4, i_frz, i_fz, i_fz2, ixl2, ixl3, j_rngc, *])
local macro_rules | `(tactic| walk_at "end") => `(tactic| simp [kAH, kWB, kN, kT, kTO, kSPM, sizeLine, r0, r1, r2, n_outn, n_outr, n_oute, bigt, bigc, n_ifst, n_ifsf, n_ift, n_iff, n_sqn, n_sqr, n_re, n_pass, *])
theorem here_x : Xp (.tuple [.str "here"]) := .at _ _ (by simp) plcN_at.2.2.2.2 key_at.2.2.2.2 fun y hy => by cases hy
theorem any_x : Xp (.tuple [.str "any"]) := .at _ _ (by simp) plcN_at.2.2.2.1 key_at.2.2.2.1 fun y hy => by cases hy
theorem here_w : PyData.weight (.tuple [.str "here"]) = 5 ∧ PyData.depth (.tuple [.str "here"]) = 1 := by
  refine ⟨?_, by simp [PyData.depth, PyData.depthAll]⟩
  simp only [PyData.weight, PyData.weightAll]
  show ("here" : Str).length + 1 + 0 = 5
  rw [len_at.2.2.2.2]
theorem any_w : PyData.weight (.tuple [.str "any"]) = 4 ∧ PyData.depth (.tuple [.str "any"]) = 1 := by
  refine ⟨?_, by simp [PyData.depth, PyData.depthAll]⟩
  simp only [PyData.weight, PyData.weightAll]
  show ("any" : Str).length + 1 + 0 = 4
  rw [len_at.2.2.2.1]
theorem tower_ok {rest S : SS} {d : PyData} {n : Int} (hs : HS rest S) (hx : Xp d) (hw : d.weight ≤ 80) (hd : d.depth ≤ 1) (h0 : 0 ≤ n) (h30 : n ≤ 30) : Rt (m__law_tower [.ref 0, .dat d, .dat (.int n)] S) (Ex 2000 31 rest) := by
  have hr := fun S => rg_ok (j := n) h0 (by omega) S
  unfold m__law_tower mb__law_tower
  walk_at "go4"
  refine for_end (P := fun i ρ S => ∃ (d : PyData) (a b c : Option W), ρ = [some (.ref 0), some (.dat d), a, b, c] ∧ Xp d ∧ d.weight ≤ 80 + 40 * i ∧ d.depth ≤ 1 + i ∧ HS rest S) ?_ ?_ ?_
  · exact ⟨d, _, _, _, rfl, hx, by omega, by omega, hs⟩
  · intro i dd ρ S hi hd ⟨d, a, b, c, eρ, xd, wd, dp, hS⟩
    subst eρ
    clear hd hs hx hw hr
    obtain ⟨r1, S1, e1, l1, u1, h1⟩ := draw_ok hS (many := 6) (by decide) (by decide)
    by_cases c1 : r1 < 3
    · have c1' : decide (r1 < 3) = true := decide_eq_true c1
      obtain ⟨wd', hwd, iw⟩ := ix_in (ds := [.str "star", .str "plus", .str "maybe"]) l1 (by simpa using c1)
      obtain ⟨w, rfl, kw', lw⟩ : ∃ w : Str, wd' = .str w ∧ kSPM w = true ∧ w.length ≤ 6 := by
        simp only [List.mem_cons, List.not_mem_nil, or_false] at hwd
        rcases hwd with rfl | rfl | rfl <;> exact ⟨_, rfl, by decide +kernel, by decide +kernel⟩
      clear hwd
      walk_at "go4"
      exact ⟨_, _, rfl, _, _, _, _, rfl, .one _ _ kw' xd, Nat.le_trans (wt1 lw) (by omega), by rw [dp1]; omega, h1⟩
    · have c1' : decide (r1 < 3) = false := decide_eq_false c1
      cases c2 : (r1 == 3) with
      | true =>
        obtain ⟨r2, S2, e2, l2, u2, h2⟩ := draw_ok h1 (many := 2) (by decide) (by decide)
        walk_at "go4"
        refine ⟨_, _, rfl, _, _, _, _, rfl, .tim r2 1 d (by omega) (by decide) xd, ?_, by rw [dp3, dpi, dpi]; omega, h2⟩
        have w1 : PyData.weight (.int r2) ≤ 4 := wt_int (by omega)
        have w2 : PyData.weight (.int 1) ≤ 4 := wt_int (by decide)
        exact Nat.le_trans (wt3 (by decide +kernel)) (by omega)
      | false =>
        have c2' := beq_eq_false_iff_ne.mp c2
        obtain ⟨wd', hwd, iw⟩ := ix_in (ds := [.str "then", .str "or"]) (r := r1 - 4) (by omega) (by simp; omega)
        obtain ⟨w, rfl, kw', lw⟩ : ∃ w : Str, wd' = .str w ∧ kTO w = true ∧ w.length ≤ 6 := by
          simp only [List.mem_cons, List.not_mem_nil, or_false] at hwd
          rcases hwd with rfl | rfl <;> exact ⟨_, rfl, by decide +kernel, by decide +kernel⟩
        clear hwd
        walk_at "go4"
        refine ⟨_, _, rfl, _, _, _, _, rfl, .two _ _ _ kw' xd here_x, ?_, by rw [dp2, here_w.2]; omega, h1⟩
        have := here_w.1
        exact Nat.le_trans (wt2 lw) (by omega)
  · intro ρ S ⟨d, a, b, c, eρ, xd, wd, dp, hS⟩
    subst eρ
    rw [rg_len] at wd dp
    walk_at "go4"
    exact ⟨_, _, rfl, _, rfl, xd, by omega, by omega, hS⟩
/-- the hand, whatever else the store holds -/
def HX (S : SS) : Prop := ∃ rest, HS rest S
def Ey (B D : Nat) : W → SS → Prop := fun w S => ∃ d, w = .dat d ∧ Xp d ∧ d.weight ≤ B ∧ d.depth ≤ D ∧ HX S
/-- items of a row after i turns -/
def Rw' (i : Nat) (d : PyData) : Prop := Xp d ∧ d.weight ≤ 89 * 2 ^ i - 9 ∧ d.depth ≤ 1 + i
theorem rw_mono {i : Nat} {d : PyData} (h : Rw' i d) : Rw' (i + 1) d := by
  have := Nat.pow_succ 2 i
  exact ⟨h.1, by have := h.2.1; omega, by have := h.2.2; omega⟩
theorem rw_two {i : Nat} {w : Str} {a b : PyData} (hk : kTO w = true) (lw : w.length ≤ 6) (ha : Rw' i a) (hb : Rw' i b) : Rw' (i + 1) (.tuple [.str w, a, b]) := by
  have h1 := Nat.pow_succ 2 i
  have h2 : 0 < 2 ^ i := Nat.pow_pos (by decide)
  refine ⟨.two _ _ _ hk ha.1 hb.1, ?_, ?_⟩
  · have := ha.2.1; have := hb.2.1
    exact Nat.le_trans (wt2 lw) (by omega)
  · rw [dp2]
    have := ha.2.2; have := hb.2.2
    omega
end K63

set_option Elab.async false
set_option linter.all false
set_option maxRecDepth 100000
set_option maxHeartbeats 2000000
namespace K63
open PySem L2 Sm
local macro_rules | `(tactic| walk_at "go4") => `(tactic| simp only [n_op2, n_op2a, n_dat2, n_tst2, n_rd2, n_rd2s, n_rdt2, n_rdt2s, n_getd, n_getr, n_getl, n_not2, n_no, n_and, n_andt, n_andf, n_or, n_ort, n_orf, n_not, n_T, n_t, n_tand, n_tandt, n_tandf, n_tor, n_tort, n_torf, n_tnot, n_tn, n_if, n_ift, n_iff, n_ch, n_ch1, n_ch2, n_ch3t, n_ch3f, n_un, n_und, n_nil, n_cons, n_cons1, n_cons2, n_tup, n_tu, n_tus, n_lst, n_ls, n_lss, n_dn, n_dc, n_ofl, n_ofl2, n_new, n_new2, n_is, n_is2, n_is3, n_cal, n_calL, n_nop, n_part, n_pt, n_sl, n_sl1, n_sl2, n_sl3, n_slw, n_isno, n_isnot, n_isnoi, n_isnol, n_isnou, n_iter, n_itl, n_itu, n_its, n_c, n_var, n_va, n_seq, n_sqn, n_sqr, n_sqe, n_pass, n_set, n_se, n_ret, n_re, n_retn, n_drop, n_dr, n_ifs, n_ifst, n_ifsf, n_raise, n_par, n_pa, n_asg, n_as, n_aso, n_gT2, n_gN, n_for, n_fo, n_lo0, n_lo, n_lon, n_lor, n_step, n_st, n_try, n_catn, n_catr, n_def, n_outn, n_outr, n_oute, n_len, n_lend, n_lenl, n_lenu, n_max, n_min, n_inti, n_intb, n_tupl, n_addi, n_subi, n_lei, n_lti, n_gti, n_negi, n_lc, n_lcs, n_lp0, n_lp1, n_lps, n_lpn, n_turn, n_tc, n_yes, n_nox, n_tct, n_tcf, n_one, n_w0, n_w1, n_sum, n_sums, n_in0, n_in1, bind_ok, bind_exc, rF_ok, rF_exc, ofO_some, lenW1, lenW2, lenW3, lenW4, lenW5, id_eq, List.length_cons, List.length_nil, List.map_cons, List.map_nil, List.cons_append, List.nil_append, List.getElem?_cons_zero, List.getElem?_cons_succ, List.replicate, Nat.sub_self, List.append_nil, List.set_cons_zero, List.set_cons_succ, if_true, if_false, ite_true, ite_false, Bool.false_eq_true, reduceCtorEq, Option.map_some, is_int, is_bool, is_str, is_tuple, Nat.zero_add, Nat.reduceAdd, Nat.reduceSub, Nat.reduceLeDiff, isT, ixt0, ixt1, ixt2, ixt3, ixl0, ixl1, in2, in3, in2L, in3L, eqss, eqii, beq_self_eq_true, Bool.not_true, Bool.not_false, Bool.or_true, Bool.or_false, Bool.true_or, Bool.false_or, Bool.and_true, Bool.and_false, Bool.true_and, Bool.false_and, Int.reduceLE, Int.reduceLT, Int.reduceNeg, decide_true, decide_false, Int.reduceSub, Int.reduceAdd, sizeLine, Nat.reducePow, Int.cast_ofNat_Int, Int.reduceBEq, bg1, bg2, bg3, bg4, powE, powE8, String.reduceBEq, Nat.reduceLT, nI1, nI2, nI3, nI4, nI5, nI6, Int.add_zero, Int.mul_one, List.isEmpty_cons, List.isEmpty_nil, List.sum_cons, List.sum_nil, cu21, cu31, cu32, cu43, cv22, cv32, cv33, cv44, sl_t, ad_t, rs0, rs1, rs2, kWB, kAH, kN, kT, kTO, kSPM, i_set, i_1, i_2, i_3, i_s1, i_s2, i_s3, i_abs, i_gei, i_rng, i_app, i_a1, i_a2, i_a3, i_a4, i_frz, i_fz, i_fz2, ixl2, ixl3, j_rngc, *])
theorem row_ok {rest S : SS} {d : PyData} {w : Str} {n : Int} (hs : HS rest S) (hx : Xp d) (hw : d.weight ≤ 80) (hd : d.depth ≤ 1) (hk : kTO w = true) (lw : w.length ≤ 6) (h0 : 1 ≤ n) (h30 : n ≤ 302) : Rt (m__law_row [.ref 0, .dat (.str w), .dat d, .dat (.int n)] S) (Ey 46000 10) := by
  have hr := fun S => rg_ok (j := n) (by omega) (by omega) S
  have h9 := fun S => rg_ok (j := 9) (by decide) (by decide) S
  have hl : ∀ S, loopC (turnC (gN 7) mYes (mVar 2) [some (.ref 0), some (.dat (.str w)), some (.dat d), some (.dat (.int n)), none, none, none, none]) (rangeD 0 1 n.toNat) [] S = .ok ((rangeD 0 1 n.toNat).map fun _ => d) S := fun S => by
    refine (loopC_map (f := fun _ => d) _ [] (fun x _ => ?_) ?_).trans rfl
    · refine turn_one (ρ' := [some (.ref 0), some (.dat (.str w)), some (.dat d), some (.dat (.int n)), none, none, none, some (.dat x)]) rfl rfl
    · rw [rg_len]
      exact Nat.le_trans (show _ ≤ 1000 by show 0 + n.toNat ≤ 1000; omega) (by decide)
  unfold m__law_row mb__law_row
  walk_at "go4"
  refine for_end (P := fun i ρ S => ∃ (ds : List PyData) (a b c : Option W), ρ = [some (.ref 0), some (.dat (.str w)), some (.dat d), some (.dat (.int n)), some (.dat (.list ds)), a, b, c] ∧ 1 ≤ ds.length ∧ ds.length ≤ 302 ∧ (∀ x ∈ ds, Rw' i x) ∧ HX S) ?_ ?_ ?_
  · refine ⟨_, _, _, _, rfl, by rw [List.length_map, rg_len]; omega, by rw [List.length_map, rg_len]; omega, fun x hx' => ?_, _, hs⟩
    obtain ⟨_, _, rfl⟩ := List.mem_map.mp hx'
    exact ⟨hx, by omega, by omega⟩
  · intro i dd ρ S hi hd' ⟨ds, a, b, c, eρ, p1, p2, pa, rr, hS⟩
    subst eρ
    clear hd' hs hr h9 hl
    have hrng : ∀ S, kRc [.dat (.int 0), .dat (.int ((ds.length : Int) - 1)), .dat (.int 2)] S = .ok (rangeD 0 2 (ds.length / 2)) S := fun S => by
      have e := rngc_2 (n := ds.length - 1) (by omega) S
      rw [show ((ds.length - 1 : Nat) : Int) = (ds.length : Int) - 1 by omega, show (ds.length - 1 + 1) / 2 = ds.length / 2 by omega] at e
      exact e
    obtain ⟨later, hl, l1, l2⟩ : ∃ later : List PyData, (∀ S, loopC (turnC (gN 7) mYes (mTup (mCons (mVar 1) (mCons (mOp2 (rd2 ixD) (mVar 4) (mVar 7)) (mCons (mOp2 (rd2 ixD) (mVar 4) (mOp2 (dat2 addD) (mVar 7) (mC (.int 1)))) mNil)))) [some (.ref 0), some (.dat (.str w)), some (.dat d), some (.dat (.int n)), some (.dat (.list ds)), some (.dat dd), b, none]) (rangeD 0 2 (ds.length / 2)) [] S = .ok later S) ∧ later.length = ds.length / 2 ∧ ∀ x ∈ later, Rw' (i + 1) x := by
      let f : PyData → PyData := fun x => match x with
        | .int j => .tuple [.str w, (ds[j.toNat]?).getD .none, (ds[(j + 1).toNat]?).getD .none]
        | _ => .none
      have each : ∀ x ∈ rangeD 0 2 (ds.length / 2), ∃ (k : Nat) (a b : PyData), x = .int (k : Int) ∧ a ∈ ds ∧ b ∈ ds ∧ ixD (.list ds) (.int (k : Int)) = some a ∧ ixD (.list ds) (.int ((k : Int) + 1)) = some b ∧ f x = .tuple [.str w, a, b] := by
        intro x hx'
        unfold rangeD at hx'
        obtain ⟨k, hk', rfl⟩ := List.mem_map.mp hx'
        have hk2 := List.mem_range.mp hk'
        have q1 : 2 * k < ds.length := by omega
        have q2 : 2 * k + 1 < ds.length := by omega
        refine ⟨2 * k, ds[2 * k], ds[2 * k + 1], by congr 1; omega, List.getElem_mem _, List.getElem_mem _, ?_, ?_, ?_⟩
        · show L2.atI ds ((2 * k : Nat) : Int) = _
          rw [atI_cast, List.getElem?_eq_getElem q1]
        · show L2.atI ds (((2 * k : Nat) : Int) + 1) = _
          rw [show ((2 * k : Nat) : Int) + 1 = ((2 * k + 1 : Nat) : Int) by omega, atI_cast, List.getElem?_eq_getElem q2]
        · show PyData.tuple [.str w, (ds[(0 + (k : Int) * 2).toNat]?).getD .none, (ds[(0 + (k : Int) * 2 + 1).toNat]?).getD .none] = _
          rw [show (0 + (k : Int) * 2).toNat = 2 * k by omega, show (0 + (k : Int) * 2 + 1).toNat = 2 * k + 1 by omega, List.getElem?_eq_getElem q1, List.getElem?_eq_getElem q2]
          rfl
      refine ⟨(rangeD 0 2 (ds.length / 2)).map f, fun S => ?_, ?_, ?_⟩
      · refine (loopC_map (f := f) _ [] (fun x hx' => ?_) ?_).trans rfl
        · obtain ⟨k, a, b', rfl, _, _, i1, i2, ef⟩ := each x hx'
          rw [ef]
          refine turn_one (ρ' := [some (.ref 0), some (.dat (.str w)), some (.dat d), some (.dat (.int n)), some (.dat (.list ds)), some (.dat dd), b, some (.dat (.int (k : Int)))]) rfl ?_
          clear each hrng ef
          walk_at "go4"
        · show 0 + _ ≤ _
          unfold rangeD
          rw [List.length_map, List.length_range]
          exact Nat.le_trans (show _ ≤ 1000 by omega) (by decide)
      · unfold rangeD
        rw [List.length_map, List.length_map, List.length_range]
      · intro x hx'
        obtain ⟨y, hy, rfl⟩ := List.mem_map.mp hx'
        obtain ⟨k, a, b', _, ma, mb, _, _, ef⟩ := each y hy
        rw [ef]
        exact rw_two hk lw (pa a ma) (pa b' mb)
    obtain ⟨x, hx', ix⟩ : ∃ x ∈ ds, ixD (.list ds) (.int (-1)) = some x := by
      have q : ds.length - 1 < ds.length := by omega
      refine ⟨ds[ds.length - 1], List.getElem_mem _, ?_⟩
      show L2.atI ds (-1) = _
      unfold L2.atI ixN
      rw [if_neg (by decide), if_pos (by omega)]
      show ds[(-1 + (ds.length : Int)).toNat]? = _
      rw [show (-1 + (ds.length : Int)).toNat = ds.length - 1 by omega, List.getElem?_eq_getElem q]
    have hS' := hS.push [.lst later]
    have hlen := hS.len
    have g1 : (S ++ [O.lst later])[rr.length + 1]? = some (.lst later) := by
      rw [List.getElem?_append_right (by omega), hlen]
      simp
    have hm2 : modD (.int ds.length) (.int 2) = some (.int ((ds.length : Int) % 2)) := n_modi (by decide)
    have lz : later.length < sizeLine := Nat.lt_of_le_of_lt (show _ ≤ 1000 by omega) (by decide)
    have rx := rw_mono (pa x hx')
    clear hx' pa
    cases hp : ((ds.length : Int) % 2 == 1) with
    | false =>
      have hp' := beq_eq_false_iff_ne.mp hp
      walk_at "go4"
      exact ⟨_, _, rfl, later, _, _, _, rfl, by omega, by omega, l2, _, hS'.set rr.length _⟩
    | true =>
      have hp' := eq_of_beq hp
      have h2 := hS'.set rr.length (.lst (later ++ [x]))
      have g2 : ((S ++ [O.lst later]).set (rr.length + 1) (.lst (later ++ [x])))[rr.length + 1]? = some (.lst (later ++ [x])) := by
        rw [List.getElem?_set_self]
        rw [List.length_append, hlen]
        simp
      walk_at "go4"
      rw [if_pos (show ds.length / 2 < 16777216 by omega)]
      walk_at "go4"
      refine ⟨_, _, rfl, later ++ [x], _, _, _, rfl, by simp, by simp; omega, fun y hy => ?_, _, h2.set rr.length _⟩
      rcases List.mem_append.mp hy with q | q
      · exact l2 y q
      · cases List.mem_singleton.mp q
        exact rx
  · intro ρ S ⟨ds, a, b, c, eρ, p1, p2, pa, rr, hS⟩
    subst eρ
    rw [rg_len] at pa
    obtain ⟨x, hx', ix⟩ := ix_in (ds := ds) (r := 0) (by decide) (by omega)
    have hq := pa x hx'
    clear hx' hr h9 hl pa
    have ix' : ds[0]? = some x := (ixl0 ds).symm.trans ix
    walk_at "go4"
    exact ⟨_, _, rfl, _, rfl, hq.1, Nat.le_trans hq.2.1 (by decide), Nat.le_trans hq.2.2 (by decide), rr, hS⟩
end K63

set_option Elab.async false
set_option linter.all false
set_option maxRecDepth 100000
set_option maxHeartbeats 2000000
namespace K63
open PySem L2 Sm
local macro_rules | `(tactic| walk_at "go4") => `(tactic| simp only [n_op2, n_op2a, n_dat2, n_tst2, n_rd2, n_rd2s, n_rdt2, n_rdt2s, n_getd, n_getr, n_getl, n_not2, n_no, n_and, n_andt, n_andf, n_or, n_ort, n_orf, n_not, n_T, n_t, n_tand, n_tandt, n_tandf, n_tor, n_tort, n_torf, n_tnot, n_tn, n_if, n_ift, n_iff, n_ch, n_ch1, n_ch2, n_ch3t, n_ch3f, n_un, n_und, n_nil, n_cons, n_cons1, n_cons2, n_tup, n_tu, n_tus, n_lst, n_ls, n_lss, n_dn, n_dc, n_ofl, n_ofl2, n_new, n_new2, n_is, n_is2, n_is3, n_cal, n_calL, n_nop, n_part, n_pt, n_sl, n_sl1, n_sl2, n_sl3, n_slw, n_isno, n_isnot, n_isnoi, n_isnol, n_isnou, n_iter, n_itl, n_itu, n_its, n_c, n_var, n_va, n_seq, n_sqn, n_sqr, n_sqe, n_pass, n_set, n_se, n_ret, n_re, n_retn, n_drop, n_dr, n_ifs, n_ifst, n_ifsf, n_raise, n_par, n_pa, n_asg, n_as, n_aso, n_gT2, n_gN, n_for, n_fo, n_lo0, n_lo, n_lon, n_lor, n_step, n_st, n_try, n_catn, n_catr, n_def, n_outn, n_outr, n_oute, n_len, n_lend, n_lenl, n_lenu, n_max, n_min, n_inti, n_intb, n_tupl, n_addi, n_subi, n_lei, n_lti, n_gti, n_negi, n_lc, n_lcs, n_lp0, n_lp1, n_lps, n_lpn, n_turn, n_tc, n_yes, n_nox, n_tct, n_tcf, n_one, n_w0, n_w1, n_sum, n_sums, n_in0, n_in1, bind_ok, bind_exc, rF_ok, rF_exc, ofO_some, lenW1, lenW2, lenW3, lenW4, lenW5, id_eq, List.length_cons, List.length_nil, List.map_cons, List.map_nil, List.cons_append, List.nil_append, List.getElem?_cons_zero, List.getElem?_cons_succ, List.replicate, Nat.sub_self, List.append_nil, List.set_cons_zero, List.set_cons_succ, if_true, if_false, ite_true, ite_false, Bool.false_eq_true, reduceCtorEq, Option.map_some, is_int, is_bool, is_str, is_tuple, Nat.zero_add, Nat.reduceAdd, Nat.reduceSub, Nat.reduceLeDiff, isT, ixt0, ixt1, ixt2, ixt3, ixl0, ixl1, in2, in3, in2L, in3L, eqss, eqii, beq_self_eq_true, Bool.not_true, Bool.not_false, Bool.or_true, Bool.or_false, Bool.true_or, Bool.false_or, Bool.and_true, Bool.and_false, Bool.true_and, Bool.false_and, Int.reduceLE, Int.reduceLT, Int.reduceNeg, decide_true, decide_false, Int.reduceSub, Int.reduceAdd, sizeLine, Nat.reducePow, Int.cast_ofNat_Int, Int.reduceBEq, bg1, bg2, bg3, bg4, powE, powE8, String.reduceBEq, Nat.reduceLT, nI1, nI2, nI3, nI4, nI5, nI6, Int.add_zero, Int.mul_one, List.isEmpty_cons, List.isEmpty_nil, List.sum_cons, List.sum_nil, cu21, cu31, cu32, cu43, cv22, cv32, cv33, cv44, sl_t, ad_t, rs0, rs1, rs2, kWB, kAH, kN, kT, kTO, kSPM, i_set, i_1, i_2, i_3, i_s1, i_s2, i_s3, i_abs, i_gei, i_rng, i_app, i_a1, i_a2, i_a3, i_a4, i_frz, i_fz, i_fz2, ixl2, ixl3, j_rngc, *])
local macro_rules | `(tactic| walk_at "end") => `(tactic| simp [kAH, kWB, kN, kT, kTO, kSPM, sizeLine, r0, r1, r2, n_outn, n_outr, n_oute, bigt, bigc, n_ifst, n_ifsf, n_ift, n_iff, n_sqn, n_sqr, n_re, n_pass, *])
theorem at_bounds_ok {rest S : SS} {d : PyData} (hs : HS rest S) (hx : Xp d) (hw : d.weight ≤ 80) (hd : d.depth ≤ 1) : Rt (m__law_at_bounds [.ref 0, .dat d] S) (Ey 50000 31) := by
  obtain ⟨kd, S1, e1, l1, u1, h1⟩ := draw_ok hs (many := 4) (by decide) (by decide)
  obtain ⟨r2, S2, e2, l2, u2, h2⟩ := draw_ok h1 (many := 2) (by decide) (by decide)
  obtain ⟨wd', hwd, iw⟩ := ix_in (ds := [.str "then", .str "or"]) (r := r2) (by omega) (by simp; omega)
  obtain ⟨w, rfl, kw', lw⟩ : ∃ w : Str, wd' = .str w ∧ kTO w = true ∧ w.length ≤ 6 := by
    simp only [List.mem_cons, List.not_mem_nil, or_false] at hwd
    rcases hwd with rfl | rfl <;> exact ⟨_, rfl, by decide +kernel, by decide +kernel⟩
  unfold m__law_at_bounds mb__law_at_bounds
  clear hwd
  rcases (show kd = 0 ∨ kd = 1 ∨ kd = 2 ∨ kd = 3 by omega) with rfl | rfl | rfl | rfl
  · obtain ⟨r3, S3, e3, l3, u3, h3⟩ := draw_ok h2 (many := 4) (by decide) (by decide)
    obtain ⟨_, S4, e4, x, rfl, xx, wx, dx, h4⟩ := tower_ok h3 hx hw hd (n := 27 + r3) (by omega) (by omega)
    walk_at "go4"
    exact ⟨_, _, rfl, _, rfl, xx, by omega, by omega, _, h4⟩
  · obtain ⟨r3, S3, e3, l3, u3, h3⟩ := draw_ok h2 (many := 5) (by decide) (by decide)
    obtain ⟨_, S4, e4, x, rfl, xx, wx, dx, h4⟩ := row_ok h3 hx hw hd kw' lw (n := 298 + r3) (by omega) (by omega)
    walk_at "go4"
    exact ⟨_, _, rfl, _, rfl, xx, by omega, by omega, h4⟩
  · obtain ⟨r3, S3, e3, l3, u3, h3⟩ := draw_ok h2 (many := 8) (by decide) (by decide)
    obtain ⟨r4, S4, e4, l4, u4, h4⟩ := draw_ok h3 (many := 2) (by decide) (by decide)
    have hdv := fd_ok (k := 2 + r3) (by omega) (by omega) 300
    have hd1 : 1 ≤ 300 / (2 + r3) := Int.le_ediv_of_mul_le (by omega) (by omega)
    have hd2 : 300 / (2 + r3) ≤ 300 := Int.ediv_le_self _ (by omega)
    obtain ⟨_, S5, e5, x, rfl, xx, wx, dx, rest5, h5⟩ := row_ok h4 hx hw hd kw' lw (n := 300 / (2 + r3) + r4) (by omega) (by omega)
    obtain ⟨r6, S6, e6, l6, u6, h6⟩ := draw_ok h5 (many := 2 + r3 + 1) (by omega) (by omega)
    walk_at "go4"
    refine ⟨_, _, rfl, _, rfl, .tim r6 (2 + r3) x (by omega) (by omega) xx, ?_, by rw [dp3, dpi, dpi]; omega, _, h6⟩
    have w1 : PyData.weight (.int r6) ≤ 4 := wt_int (by omega)
    have w2 : PyData.weight (.int (2 + r3)) ≤ 4 := wt_int (by omega)
    exact Nat.le_trans (wt3 (by decide +kernel)) (by omega)
  · obtain ⟨r3, S3, e3, l3, u3, h3⟩ := draw_ok h2 (many := 2) (by decide) (by decide)
    obtain ⟨_, S5, e5, x, rfl, xx, wx, dx, rest5, h5⟩ := row_ok h3 hx hw hd kw' lw (n := 3 + r3) (by omega) (by omega)
    obtain ⟨r6, S6, e6, l6, u6, h6⟩ := draw_ok h5 (many := 2) (by omega) (by omega)
    walk_at "go4"
    have x1 := Xp.tim 1 1 _ (by decide) (by decide) any_x
    have x2 := Xp.two w x _ kw' xx x1
    have x3 := Xp.tim 2 (9 + r6) _ (by decide) (by omega) x2
    have x4 := Xp.one "star" _ (by decide +kernel) x3
    have x5 := Xp.tim 0 9 _ (by decide) (by decide) x4
    refine ⟨_, _, rfl, _, rfl, x5, ?_, ?_, _, h6⟩
    · have a1 := any_w.1
      have t1 : PyData.weight (.int 1) ≤ 4 := wt_int (by decide)
      have t2 : PyData.weight (.int 2) ≤ 4 := wt_int (by decide)
      have t3 : PyData.weight (.int (9 + r6)) ≤ 4 := wt_int (by omega)
      have t4 : PyData.weight (.int 0) ≤ 4 := wt_int (by decide)
      have t5 : PyData.weight (.int 9) ≤ 4 := wt_int (by decide)
      have b1 := wt3 (w := "times") (a := .int 1) (b := .int 1) (c := .tuple [.str "any"]) (by decide +kernel)
      have b2 := wt2 (w := w) (a := x) (b := .tuple [.str "times", .int 1, .int 1, .tuple [.str "any"]]) lw
      have b3 := wt3 (w := "times") (a := .int 2) (b := .int (9 + r6)) (c := .tuple [.str w, x, .tuple [.str "times", .int 1, .int 1, .tuple [.str "any"]]]) (by decide +kernel)
      have b4 := wt1 (w := "star") (a := .tuple [.str "times", .int 2, .int (9 + r6), .tuple [.str w, x, .tuple [.str "times", .int 1, .int 1, .tuple [.str "any"]]]]) (by decide +kernel)
      exact Nat.le_trans (wt3 (by decide +kernel)) (by omega)
    · have := any_w.2
      simp only [dp3, dp1, dp2, dpi]
      have e : PyData.depth (.tuple [.str "any"]) = 1 := any_w.2
      simp only [e]
      omega
end K63

set_option Elab.async false
set_option linter.all false
set_option maxRecDepth 100000
set_option maxHeartbeats 2000000
namespace K63
open PySem L2 Sm
theorem n_dic {ρ : En} {S : SS} : mDic0 ρ S = .ok (.dat (.dict [])) S := rfl
theorem n_lstf {xs : List PyData} {S : SS} : fList [.dat (.tuple xs)] S = .ok xs S := rfl
def kS1 (lo hi : MO) (st : Int) (ρ : En) : W → SS → Res W := fun x S => (lo ρ S).bind fun l S => (hi ρ S).bind fun h S => match x with
  | .dat d => ofO (slSD d l h st) .dat S
  | _ => .stuck
theorem n_sls {a : ME} {lo hi : MO} {st : Int} {ρ : En} {S : SS} : mSlS a lo hi st ρ S = (a ρ S).bind (kS1 lo hi st ρ) := rfl
theorem n_sls2 {d : PyData} {ρ : En} {S : SS} : kS1 mNoP mNoP (-1) ρ (.dat d) S = ofO (slSD d none none (-1)) .dat S := rfl
local macro_rules | `(tactic| walk_at "go5") => `(tactic| simp only [n_op2, n_op2a, n_dat2, n_tst2, n_rd2, n_rd2s, n_rdt2, n_rdt2s, n_getd, n_getr, n_getl, n_not2, n_no, n_and, n_andt, n_andf, n_or, n_ort, n_orf, n_not, n_T, n_t, n_tand, n_tandt, n_tandf, n_tor, n_tort, n_torf, n_tnot, n_tn, n_if, n_ift, n_iff, n_ch, n_ch1, n_ch2, n_ch3t, n_ch3f, n_un, n_und, n_nil, n_cons, n_cons1, n_cons2, n_tup, n_tu, n_tus, n_lst, n_ls, n_lss, n_dn, n_dc, n_ofl, n_ofl2, n_new, n_new2, n_is, n_is2, n_is3, n_cal, n_calL, n_nop, n_part, n_pt, n_sl, n_sl1, n_sl2, n_sl3, n_slw, n_isno, n_isnot, n_isnoi, n_isnol, n_isnou, n_iter, n_itl, n_itu, n_its, n_c, n_var, n_va, n_seq, n_sqn, n_sqr, n_sqe, n_pass, n_set, n_se, n_ret, n_re, n_retn, n_drop, n_dr, n_ifs, n_ifst, n_ifsf, n_raise, n_par, n_pa, n_asg, n_as, n_aso, n_gT2, n_gN, n_for, n_fo, n_lo0, n_lo, n_lon, n_lor, n_step, n_st, n_try, n_catn, n_catr, n_def, n_outn, n_outr, n_oute, n_len, n_lend, n_lenl, n_lenu, n_max, n_min, n_inti, n_intb, n_tupl, n_addi, n_subi, n_lei, n_lti, n_gti, n_negi, n_lc, n_lcs, n_lp0, n_lp1, n_lps, n_lpn, n_turn, n_tc, n_yes, n_nox, n_tct, n_tcf, n_one, n_w0, n_w1, n_sum, n_sums, n_in0, n_in1, bind_ok, bind_exc, rF_ok, rF_exc, ofO_some, lenW1, lenW2, lenW3, lenW4, lenW5, id_eq, List.length_cons, List.length_nil, List.map_cons, List.map_nil, List.cons_append, List.nil_append, List.getElem?_cons_zero, List.getElem?_cons_succ, List.replicate, Nat.sub_self, List.append_nil, List.set_cons_zero, List.set_cons_succ, if_true, if_false, ite_true, ite_false, Bool.false_eq_true, reduceCtorEq, Option.map_some, is_int, is_bool, is_str, is_tuple, Nat.zero_add, Nat.reduceAdd, Nat.reduceSub, Nat.reduceLeDiff, isT, ixt0, ixt1, ixt2, ixt3, ixl0, ixl1, in2, in3, in2L, in3L, eqss, eqii, beq_self_eq_true, Bool.not_true, Bool.not_false, Bool.or_true, Bool.or_false, Bool.true_or, Bool.false_or, Bool.and_true, Bool.and_false, Bool.true_and, Bool.false_and, Int.reduceLE, Int.reduceLT, Int.reduceNeg, decide_true, decide_false, Int.reduceSub, Int.reduceAdd, sizeLine, Nat.reducePow, Int.cast_ofNat_Int, Int.reduceBEq, bg1, bg2, bg3, bg4, powE, powE8, String.reduceBEq, Nat.reduceLT, nI1, nI2, nI3, nI4, nI5, nI6, Int.add_zero, Int.mul_one, List.isEmpty_cons, List.isEmpty_nil, List.sum_cons, List.sum_nil, cu21, cu31, cu32, cu43, cv22, cv32, cv33, cv44, sl_t, ad_t, rs0, rs1, rs2, kWB, kAH, kN, kT, kTO, kSPM, i_set, i_1, i_2, i_3, i_s1, i_s2, i_s3, i_abs, i_gei, i_rng, i_app, i_a1, i_a2, i_a3, i_a4, i_frz, i_fz, i_fz2, ixl2, ixl3, j_rngc, n_dic, n_lstf, n_sls, *])
local macro_rules | `(tactic| walk_at "end") => `(tactic| simp [kAH, kWB, kN, kT, kTO, kSPM, sizeLine, r0, r1, r2, n_outn, n_outr, n_oute, bigt, bigc, n_ifst, n_ifsf, n_ift, n_iff, n_sqn, n_sqr, n_re, n_pass, *])
def wOd (d : PyData) (B D : Nat) : Prop := okD d = true ∧ d.weight ≤ B ∧ d.depth ≤ D ∧ (PyData.hasDict d = false ∨ listsD d = false)
/-- what the fixed things of the odd lists come to -/
def cOd (d : PyData) : Bool := okD d && decide (d.weight ≤ 200) && decide (d.depth ≤ 3) && (!PyData.hasDict d || !listsD d)
theorem cOd_of {d : PyData} {B D : Nat} (h : cOd d = true) (hB : 200 ≤ B) (hD : 3 ≤ D) : wOd d B D := by
  unfold cOd at h
  rw [Bool.and_eq_true, Bool.and_eq_true, Bool.and_eq_true, decide_eq_true_eq, decide_eq_true_eq, Bool.or_eq_true] at h
  refine ⟨h.1.1.1, by omega, by omega, ?_⟩
  rcases h.2 with q | q
  · exact .inl (by simpa using q)
  · exact .inr (by simpa using q)
/-- a thing among fixed ones -/
structure Th (d : PyData) (B D : Nat) : Prop where
  ok : okD d = true
  we : d.weight ≤ B
  de : d.depth ≤ D
  nd : PyData.hasDict d = false
theorem okL_c {a : PyData} {t : List PyData} (h : okD a = true) (h' : okL t = true) : okL (a :: t) = true := by simp only [okL, h, h', Bool.and_true]
structure Tl (t : List PyData) (B D : Nat) : Prop where
  ok : okL t = true
  we : PyData.weightAll t ≤ B
  de : PyData.depthAll t ≤ D
  nd : PyData.hasDictAll t = false
theorem Tl.nil (D : Nat) : Tl [] 0 D := ⟨by simp [okL], by simp [PyData.weightAll], by simp [PyData.depthAll], by simp [PyData.hasDictAll]⟩
theorem Tl.cons {a : PyData} {t : List PyData} {B B' D : Nat} (h : Th a B D) (h' : Tl t B' D) : Tl (a :: t) (B + 1 + B') D := by
  refine ⟨okL_c h.ok h'.ok, ?_, ?_, ?_⟩
  · have := h.we; have := h'.we
    simp only [PyData.weightAll]; omega
  · have := h.de; have := h'.de
    simp only [PyData.depthAll]; omega
  · simp only [PyData.hasDictAll, h.nd, h'.nd, Bool.or_false]
theorem Tl.tup {t : List PyData} {B D : Nat} (h : Tl t B D) : Th (.tuple t) B (D + 1) := by
  refine ⟨by simp only [okD, h.ok], by simp only [PyData.weight]; exact h.we, by simp only [PyData.depth]; have := h.de; omega, by simp only [PyData.hasDict, h.nd]⟩
theorem Tl.lst {t : List PyData} {B D : Nat} (h : Tl t B D) : Th (.list t) B (D + 1) := by
  refine ⟨by simp only [okD, h.ok], by simp only [PyData.weight]; exact h.we, by simp only [PyData.depth]; have := h.de; omega, by simp only [PyData.hasDict, h.nd]⟩
def cTh (d : PyData) : Bool := okD d && decide (d.weight ≤ 8) && decide (d.depth ≤ 1) && !PyData.hasDict d
theorem Th.c {d : PyData} {D : Nat} (h : cTh d = true) (hD : 1 ≤ D := by omega) : Th d 8 D := by
  unfold cTh at h
  rw [Bool.and_eq_true, Bool.and_eq_true, Bool.and_eq_true, decide_eq_true_eq, decide_eq_true_eq] at h
  exact ⟨h.1.1.1, h.1.1.2, Nat.le_trans h.1.2 hD, by simpa using h.2⟩
theorem Th.up {d : PyData} {B D B' D' : Nat} (h : Th d B D) (hB : B ≤ B') (hD : D ≤ D') : Th d B' D' := ⟨h.ok, Nat.le_trans h.we hB, Nat.le_trans h.de hD, h.nd⟩
theorem Th.od {d : PyData} {B D B' D' : Nat} (h : Th d B D) (hB : B ≤ B') (hD : D ≤ D') : wOd d B' D' := ⟨h.ok, Nat.le_trans h.we hB, Nat.le_trans h.de hD, .inl h.nd⟩
theorem Xp.th {d : PyData} (h : Xp d) : Th d d.weight d.depth := ⟨h.facts.1, Nat.le_refl _, Nat.le_refl _, h.facts.2.1⟩
theorem th_int {i : Int} {D : Nat} (h : i.natAbs < 256) : Th (.int i) 8 D := ⟨by simp only [okD, decide_eq_true_eq]; omega, wt_int h, by simp [PyData.depth], by simp [PyData.hasDict]⟩
end K63

set_option Elab.async false
set_option linter.all false
set_option maxRecDepth 100000
set_option maxHeartbeats 2000000
namespace K63
open PySem L2 Sm
theorem ad_l {xs ys : List PyData} : addD (.list xs) (.list ys) = if xs.length + ys.length ≤ sizeLine then some (.list (xs ++ ys)) else none := rfl
local macro_rules | `(tactic| walk_at "go5") => `(tactic| simp only [n_op2, n_op2a, n_dat2, n_tst2, n_rd2, n_rd2s, n_rdt2, n_rdt2s, n_getd, n_getr, n_getl, n_not2, n_no, n_and, n_andt, n_andf, n_or, n_ort, n_orf, n_not, n_T, n_t, n_tand, n_tandt, n_tandf, n_tor, n_tort, n_torf, n_tnot, n_tn, n_if, n_ift, n_iff, n_ch, n_ch1, n_ch2, n_ch3t, n_ch3f, n_un, n_und, n_nil, n_cons, n_cons1, n_cons2, n_tup, n_tu, n_tus, n_lst, n_ls, n_lss, n_dn, n_dc, n_ofl, n_ofl2, n_new, n_new2, n_is, n_is2, n_is3, n_cal, n_calL, n_nop, n_part, n_pt, n_sl, n_sl1, n_sl2, n_sl3, n_slw, n_isno, n_isnot, n_isnoi, n_isnol, n_isnou, n_iter, n_itl, n_itu, n_its, n_c, n_var, n_va, n_seq, n_sqn, n_sqr, n_sqe, n_pass, n_set, n_se, n_ret, n_re, n_retn, n_drop, n_dr, n_ifs, n_ifst, n_ifsf, n_raise, n_par, n_pa, n_asg, n_as, n_aso, n_gT2, n_gN, n_for, n_fo, n_lo0, n_lo, n_lon, n_lor, n_step, n_st, n_try, n_catn, n_catr, n_def, n_outn, n_outr, n_oute, n_len, n_lend, n_lenl, n_lenu, n_max, n_min, n_inti, n_intb, n_tupl, n_addi, n_subi, n_lei, n_lti, n_gti, n_negi, n_lc, n_lcs, n_lp0, n_lp1, n_lps, n_lpn, n_turn, n_tc, n_yes, n_nox, n_tct, n_tcf, n_one, n_w0, n_w1, n_sum, n_sums, n_in0, n_in1, bind_ok, bind_exc, rF_ok, rF_exc, ofO_some, lenW1, lenW2, lenW3, lenW4, lenW5, id_eq, List.length_cons, List.length_nil, List.map_cons, List.map_nil, List.cons_append, List.nil_append, List.getElem?_cons_zero, List.getElem?_cons_succ, List.replicate, Nat.sub_self, List.append_nil, List.set_cons_zero, List.set_cons_succ, if_true, if_false, ite_true, ite_false, Bool.false_eq_true, reduceCtorEq, Option.map_some, is_int, is_bool, is_str, is_tuple, Nat.zero_add, Nat.reduceAdd, Nat.reduceSub, Nat.reduceLeDiff, isT, ixt0, ixt1, ixt2, ixt3, ixl0, ixl1, in2, in3, in2L, in3L, eqss, eqii, beq_self_eq_true, Bool.not_true, Bool.not_false, Bool.or_true, Bool.or_false, Bool.true_or, Bool.false_or, Bool.and_true, Bool.and_false, Bool.true_and, Bool.false_and, Int.reduceLE, Int.reduceLT, Int.reduceNeg, decide_true, decide_false, Int.reduceSub, Int.reduceAdd, sizeLine, Nat.reducePow, Int.cast_ofNat_Int, Int.reduceBEq, bg1, bg2, bg3, bg4, powE, powE8, String.reduceBEq, Nat.reduceLT, nI1, nI2, nI3, nI4, nI5, nI6, Int.add_zero, Int.mul_one, List.isEmpty_cons, List.isEmpty_nil, List.sum_cons, List.sum_nil, cu21, cu31, cu32, cu43, cv22, cv32, cv33, cv44, sl_t, ad_t, rs0, rs1, rs2, kWB, kAH, kN, kT, kTO, kSPM, i_set, i_1, i_2, i_3, i_s1, i_s2, i_s3, i_abs, i_gei, i_rng, i_app, i_a1, i_a2, i_a3, i_a4, i_frz, i_fz, i_fz2, ixl2, ixl3, j_rngc, n_dic, n_lstf, n_sls, n_sls2, ad_l, *])
local macro_rules | `(tactic| walk_at "tl") => `(tactic| repeat' first | exact Tl.nil _ | refine Tl.cons ?_ ?_ | assumption | exact Th.c' (by decide +kernel))
local macro_rules | `(tactic| walk_at "od") => `(tactic| first
  | exact cOd_of (by decide +kernel) (by omega) (by omega)
  | (apply Th.od; (focus (apply Tl.tup; walk_at "tl")); all_goals omega)
  | (apply Th.od; (focus (apply Tl.lst; walk_at "tl")); all_goals omega))
theorem Th.c' {d : PyData} {D : Nat} (h : cTh d = true) : Th d 8 (D + 1) := Th.c h (Nat.le_add_left 1 D)
def Oy (B D : Nat) (rest : SS) : W → SS → Prop := fun w S => ∃ d, w = .dat d ∧ wOd d B D ∧ HS rest S
theorem mul2 {a : PyData} : mulD (.tuple [a]) (.int 2) = some (.tuple [a, a]) := by
  have e : ([a] : List PyData) ≠ [] ∧ (2 : Int) ≤ 2 ∧ (2 : Int) ≤ 1000 ∧ ([a] : List PyData).length ≤ 1000 := ⟨by simp, by decide, by decide, by simp⟩
  simp only [mulD]
  rw [if_pos e]
  rfl
theorem st1 {a : PyData} : stepL [a] none none (-1) = [a] := by
  have e1 : Builtin.Slice.sliceAdjust none none (-1) 1 = (0, -1) := by decide +kernel
  have e2 : Builtin.Slice.slicePlaces 0 (-1) (-1) = 1 := by decide +kernel
  unfold stepL
  simp only [List.length_cons, List.length_nil, Nat.zero_add, Nat.reduceAdd, Int.cast_ofNat_Int]
  rw [e1, e2]
  rfl
theorem st2 {a b : PyData} : stepL [a, b] none none (-1) = [b, a] := by
  have e1 : Builtin.Slice.sliceAdjust none none (-1) 2 = (1, -1) := by decide +kernel
  have e2 : Builtin.Slice.slicePlaces 1 (-1) (-1) = 2 := by decide +kernel
  unfold stepL
  simp only [List.length_cons, List.length_nil, Nat.zero_add, Nat.reduceAdd, Int.cast_ofNat_Int]
  rw [e1, e2]
  rfl
theorem st3 {a b c : PyData} : stepL [a, b, c] none none (-1) = [c, b, a] := by
  have e1 : Builtin.Slice.sliceAdjust none none (-1) 3 = (2, -1) := by decide +kernel
  have e2 : Builtin.Slice.slicePlaces 2 (-1) (-1) = 3 := by decide +kernel
  unfold stepL
  simp only [List.length_cons, List.length_nil, Nat.zero_add, Nat.reduceAdd, Int.cast_ofNat_Int]
  rw [e1, e2]
  rfl
theorem st4 {a b c d : PyData} : stepL [a, b, c, d] none none (-1) = [d, c, b, a] := by
  have e1 : Builtin.Slice.sliceAdjust none none (-1) 4 = (3, -1) := by decide +kernel
  have e2 : Builtin.Slice.slicePlaces 3 (-1) (-1) = 4 := by decide +kernel
  unfold stepL
  simp only [List.length_cons, List.length_nil, Nat.zero_add, Nat.reduceAdd, Int.cast_ofNat_Int]
  rw [e1, e2]
  rfl
theorem stp {xs ys : List PyData} (h : stepL xs none none (-1) = ys) (hl : ys.length ≤ 10) : slSD (.tuple xs) none none (-1) = some (.tuple ys) := by
  show (if _ then _ else _) = _
  rw [h, if_pos (Nat.le_trans hl (by decide))]
theorem th_kids {xs : List PyData} (h : Xp (.tuple xs)) : ∀ x ∈ xs, Th x x.weight ((PyData.tuple xs).depth + 1) := by
  intro x hx
  have f := h.facts
  have f1 : okL xs = true := by simpa only [okD] using f.1
  have f2 : PyData.hasDictAll xs = false := by simpa only [PyData.hasDict] using f.2.1
  refine ⟨okL_all.mp f1 x hx, Nat.le_refl _, ?_, ?_⟩
  · have := depth_mem hx
    simp only [PyData.depth]
    omega
  · clear f f1 h
    induction xs with
    | nil => cases hx
    | cons a t ih =>
      simp only [PyData.hasDictAll, Bool.or_eq_false_iff] at f2
      rcases List.mem_cons.mp hx with rfl | hx
      · exact f2.1
      · exact ih hx f2.2
theorem Xp.few {d : PyData} (h : Xp d) : ∃ w r, d = .tuple (.str w :: r) ∧ r.length ≤ 3 := by
  cases h with
  | «at» w r h0 => exact ⟨w, r, rfl, by omega⟩
  | two w a b => exact ⟨_, _, rfl, by simp⟩
  | one w a => exact ⟨_, _, rfl, by simp⟩
  | tim i j a => exact ⟨_, _, rfl, by simp⟩
theorem odd_ok {rest S : SS} {d : PyData} (hs : HS rest S) (hx : Xp d) : Rt (m__law_odd [.ref 0, .dat d] S) (Oy (3 * d.weight + 200) (d.depth + 3) rest) := by
  obtain ⟨r1, S1, e1, l1, u1, h1⟩ := draw_ok hs (many := 6) (by decide) (by decide)
  obtain ⟨r2, S2, e2, l2, u2, h2⟩ := draw_ok h1 (many := 13) (by decide) (by decide)
  obtain ⟨r3, S3, e3, l3, u3, h3⟩ := draw_ok h2 (many := 8) (by decide) (by decide)
  have tt : Th d d.weight (d.depth + 1) := hx.th.up (Nat.le_refl _) (Nat.le_succ _)
  have tm : Th (.int (r2 - 1)) 8 (d.depth + 1) := th_int (by omega)
  have tl : Th (.list [d]) (d.weight + 1 + 0) (d.depth + 1) := (Tl.cons hx.th (Tl.nil _)).lst
  unfold m__law_odd mb__law_odd
  rcases (show r1 = 0 ∨ r1 = 1 ∨ r1 = 2 ∨ r1 = 3 ∨ r1 = 4 ∨ r1 = 5 by omega) with rfl | rfl | rfl | rfl | rfl | rfl
  · obtain ⟨w, r, rfl, hr3⟩ := hx.few
    have kids := th_kids hx
    clear tm tl
    cases shp r with
    | z =>
      have t0 := kids _ (List.mem_cons_self)
      have hwt : (PyData.tuple [.str w]).weight = (PyData.weight (.str w) + 1 + 0) := by simp only [PyData.weight, PyData.weightAll]
      have s1 : cutD ([.str w] : List PyData) none (some (-1)) = [] := rfl
      have s2 := stp (xs := [.str w]) (ys := [.str w]) st1 (by simp)
      have s3 : cutD ([.str w] : List PyData) none (some 1) = [.str w] := rfl
      have s4 := mul2 (a := .str w)
      obtain ⟨x, hq, ix⟩ := ix_in (ds := [.list [.str w], .tuple [], .tuple [.str w, .tuple [.str "any"]], .tuple [.tuple [.str w]], .tuple [.str w], .tuple [.str w, .str w], .list [.str "any"], .tuple [.str "here", .str "any"]]) l3 (by simpa using u3)
      have ox : wOd x (3 * (PyData.tuple [.str w]).weight + 200) ((PyData.tuple [.str w]).depth + 3) := by
        simp only [List.mem_cons, List.not_mem_nil, or_false] at hq
        rcases hq with rfl | rfl | rfl | rfl | rfl | rfl | rfl | rfl
        · apply Th.od
          · exact Tl.lst (Tl.cons (t0) (Tl.nil _))
          all_goals omega
        · exact cOd_of (by decide +kernel) (by omega) (by omega)
        · apply Th.od
          · exact Tl.tup (Tl.cons (t0) (Tl.cons (Th.c' (by decide +kernel)) (Tl.nil _)))
          all_goals omega
        · apply Th.od
          · exact Tl.tup (Tl.cons (tt) (Tl.nil _))
          all_goals omega
        · apply Th.od
          · exact Tl.tup (Tl.cons (t0) (Tl.nil _))
          all_goals omega
        · apply Th.od
          · exact Tl.tup (Tl.cons (t0) (Tl.cons (t0) (Tl.nil _)))
          all_goals omega
        · exact cOd_of (by decide +kernel) (by omega) (by omega)
        · exact cOd_of (by decide +kernel) (by omega) (by omega)
      clear hq tt kids hwt hr3 t0
      walk_at "go5"
      exact ⟨_, _, rfl, _, rfl, ox, h3⟩
    | a a =>
      have t0 := kids _ (List.mem_cons_self)
      have ta := kids _ (List.mem_cons_of_mem _ (List.mem_cons_self))
      have hwt : (PyData.tuple [.str w, a]).weight = (PyData.weight (.str w) + 1 + (PyData.weight (a) + 1 + 0)) := by simp only [PyData.weight, PyData.weightAll]
      have s1 : cutD ([.str w, a] : List PyData) none (some (-1)) = [.str w] := rfl
      have s2 := stp (xs := [.str w, a]) (ys := [a, .str w]) st2 (by simp)
      have s3 : cutD ([.str w, a] : List PyData) none (some 1) = [.str w] := rfl
      have s4 := mul2 (a := .str w)
      obtain ⟨x, hq, ix⟩ := ix_in (ds := [.list [.str w, a], .tuple [.str w], .tuple [.str w, a, .tuple [.str "any"]], .tuple [.tuple [.str w, a]], .tuple [a, .str w], .tuple [.str w, .str w], .list [.str "any"], .tuple [.str "here", .str "any"]]) l3 (by simpa using u3)
      have ox : wOd x (3 * (PyData.tuple [.str w, a]).weight + 200) ((PyData.tuple [.str w, a]).depth + 3) := by
        simp only [List.mem_cons, List.not_mem_nil, or_false] at hq
        rcases hq with rfl | rfl | rfl | rfl | rfl | rfl | rfl | rfl
        · apply Th.od
          · exact Tl.lst (Tl.cons (t0) (Tl.cons (ta) (Tl.nil _)))
          all_goals omega
        · apply Th.od
          · exact Tl.tup (Tl.cons (t0) (Tl.nil _))
          all_goals omega
        · apply Th.od
          · exact Tl.tup (Tl.cons (t0) (Tl.cons (ta) (Tl.cons (Th.c' (by decide +kernel)) (Tl.nil _))))
          all_goals omega
        · apply Th.od
          · exact Tl.tup (Tl.cons (tt) (Tl.nil _))
          all_goals omega
        · apply Th.od
          · exact Tl.tup (Tl.cons (ta) (Tl.cons (t0) (Tl.nil _)))
          all_goals omega
        · apply Th.od
          · exact Tl.tup (Tl.cons (t0) (Tl.cons (t0) (Tl.nil _)))
          all_goals omega
        · exact cOd_of (by decide +kernel) (by omega) (by omega)
        · exact cOd_of (by decide +kernel) (by omega) (by omega)
      clear hq tt kids hwt hr3 t0 ta
      walk_at "go5"
      exact ⟨_, _, rfl, _, rfl, ox, h3⟩
    | b a b =>
      have t0 := kids _ (List.mem_cons_self)
      have ta := kids _ (List.mem_cons_of_mem _ (List.mem_cons_self))
      have tb := kids _ (List.mem_cons_of_mem _ (List.mem_cons_of_mem _ (List.mem_cons_self)))
      have hwt : (PyData.tuple [.str w, a, b]).weight = (PyData.weight (.str w) + 1 + (PyData.weight (a) + 1 + (PyData.weight (b) + 1 + 0))) := by simp only [PyData.weight, PyData.weightAll]
      have s1 : cutD ([.str w, a, b] : List PyData) none (some (-1)) = [.str w, a] := rfl
      have s2 := stp (xs := [.str w, a, b]) (ys := [b, a, .str w]) st3 (by simp)
      have s3 : cutD ([.str w, a, b] : List PyData) none (some 1) = [.str w] := rfl
      have s4 := mul2 (a := .str w)
      obtain ⟨x, hq, ix⟩ := ix_in (ds := [.list [.str w, a, b], .tuple [.str w, a], .tuple [.str w, a, b, .tuple [.str "any"]], .tuple [.tuple [.str w, a, b]], .tuple [b, a, .str w], .tuple [.str w, .str w], .list [.str "any"], .tuple [.str "here", .str "any"]]) l3 (by simpa using u3)
      have ox : wOd x (3 * (PyData.tuple [.str w, a, b]).weight + 200) ((PyData.tuple [.str w, a, b]).depth + 3) := by
        simp only [List.mem_cons, List.not_mem_nil, or_false] at hq
        rcases hq with rfl | rfl | rfl | rfl | rfl | rfl | rfl | rfl
        · apply Th.od
          · exact Tl.lst (Tl.cons (t0) (Tl.cons (ta) (Tl.cons (tb) (Tl.nil _))))
          all_goals omega
        · apply Th.od
          · exact Tl.tup (Tl.cons (t0) (Tl.cons (ta) (Tl.nil _)))
          all_goals omega
        · apply Th.od
          · exact Tl.tup (Tl.cons (t0) (Tl.cons (ta) (Tl.cons (tb) (Tl.cons (Th.c' (by decide +kernel)) (Tl.nil _)))))
          all_goals omega
        · apply Th.od
          · exact Tl.tup (Tl.cons (tt) (Tl.nil _))
          all_goals omega
        · apply Th.od
          · exact Tl.tup (Tl.cons (tb) (Tl.cons (ta) (Tl.cons (t0) (Tl.nil _))))
          all_goals omega
        · apply Th.od
          · exact Tl.tup (Tl.cons (t0) (Tl.cons (t0) (Tl.nil _)))
          all_goals omega
        · exact cOd_of (by decide +kernel) (by omega) (by omega)
        · exact cOd_of (by decide +kernel) (by omega) (by omega)
      clear hq tt kids hwt hr3 t0 ta tb
      walk_at "go5"
      exact ⟨_, _, rfl, _, rfl, ox, h3⟩
    | c a b c =>
      have t0 := kids _ (List.mem_cons_self)
      have ta := kids _ (List.mem_cons_of_mem _ (List.mem_cons_self))
      have tb := kids _ (List.mem_cons_of_mem _ (List.mem_cons_of_mem _ (List.mem_cons_self)))
      have tc := kids _ (List.mem_cons_of_mem _ (List.mem_cons_of_mem _ (List.mem_cons_of_mem _ (List.mem_cons_self))))
      have hwt : (PyData.tuple [.str w, a, b, c]).weight = (PyData.weight (.str w) + 1 + (PyData.weight (a) + 1 + (PyData.weight (b) + 1 + (PyData.weight (c) + 1 + 0)))) := by simp only [PyData.weight, PyData.weightAll]
      have s1 : cutD ([.str w, a, b, c] : List PyData) none (some (-1)) = [.str w, a, b] := rfl
      have s2 := stp (xs := [.str w, a, b, c]) (ys := [c, b, a, .str w]) st4 (by simp)
      have s3 : cutD ([.str w, a, b, c] : List PyData) none (some 1) = [.str w] := rfl
      have s4 := mul2 (a := .str w)
      obtain ⟨x, hq, ix⟩ := ix_in (ds := [.list [.str w, a, b, c], .tuple [.str w, a, b], .tuple [.str w, a, b, c, .tuple [.str "any"]], .tuple [.tuple [.str w, a, b, c]], .tuple [c, b, a, .str w], .tuple [.str w, .str w], .list [.str "any"], .tuple [.str "here", .str "any"]]) l3 (by simpa using u3)
      have ox : wOd x (3 * (PyData.tuple [.str w, a, b, c]).weight + 200) ((PyData.tuple [.str w, a, b, c]).depth + 3) := by
        simp only [List.mem_cons, List.not_mem_nil, or_false] at hq
        rcases hq with rfl | rfl | rfl | rfl | rfl | rfl | rfl | rfl
        · apply Th.od
          · exact Tl.lst (Tl.cons (t0) (Tl.cons (ta) (Tl.cons (tb) (Tl.cons (tc) (Tl.nil _)))))
          all_goals omega
        · apply Th.od
          · exact Tl.tup (Tl.cons (t0) (Tl.cons (ta) (Tl.cons (tb) (Tl.nil _))))
          all_goals omega
        · apply Th.od
          · exact Tl.tup (Tl.cons (t0) (Tl.cons (ta) (Tl.cons (tb) (Tl.cons (tc) (Tl.cons (Th.c' (by decide +kernel)) (Tl.nil _))))))
          all_goals omega
        · apply Th.od
          · exact Tl.tup (Tl.cons (tt) (Tl.nil _))
          all_goals omega
        · apply Th.od
          · exact Tl.tup (Tl.cons (tc) (Tl.cons (tb) (Tl.cons (ta) (Tl.cons (t0) (Tl.nil _)))))
          all_goals omega
        · apply Th.od
          · exact Tl.tup (Tl.cons (t0) (Tl.cons (t0) (Tl.nil _)))
          all_goals omega
        · exact cOd_of (by decide +kernel) (by omega) (by omega)
        · exact cOd_of (by decide +kernel) (by omega) (by omega)
      clear hq tt kids hwt hr3 t0 ta tb tc
      walk_at "go5"
      exact ⟨_, _, rfl, _, rfl, ox, h3⟩
    | d a b c e t => exact absurd hr3 (by simp only [List.length_cons]; omega)
  · obtain ⟨x, hq, ix⟩ := ix_in (ds := [.none, .str "any", .str "", .int 5, .bool true, .tuple [], .list [], .dict []]) l3 (by simpa using u3)
    have ox : wOd x (3 * d.weight + 200) (d.depth + 3) := by
      simp only [List.mem_cons, List.not_mem_nil, or_false] at hq
      rcases hq with rfl | rfl | rfl | rfl | rfl | rfl | rfl | rfl <;> exact cOd_of (by decide +kernel) (by omega) (by omega)
    clear hq tt tm tl
    walk_at "go5"
    exact ⟨_, _, rfl, _, rfl, ox, h3⟩
  · obtain ⟨x, hq, ix⟩ := ix_in (ds := [.tuple [.str "word", .str "abc"], .tuple [.str "back", .str "a"], .tuple [.str "word", .str "aB"], .tuple [.str "word", .str ""], .tuple [.str "word", .int 5], .tuple [.str "back", .none], .tuple [.str "word"], .tuple [.str "Word", .str "ab"]]) l3 (by simpa using u3)
    have ox : wOd x (3 * d.weight + 200) (d.depth + 3) := by
      simp only [List.mem_cons, List.not_mem_nil, or_false] at hq
      rcases hq with rfl | rfl | rfl | rfl | rfl | rfl | rfl | rfl <;> exact cOd_of (by decide +kernel) (by omega) (by omega)
    clear hq tt tm tl
    walk_at "go5"
    exact ⟨_, _, rfl, _, rfl, ox, h3⟩
  · obtain ⟨x, hq, ix⟩ := ix_in (ds := [.tuple [.str "node", .str "<", .int 1000000000000000001], .tuple [.str "node", .str "==", .int 5], .tuple [.str "node", .str "=", .bool true], .tuple [.str "node", .str ">", .str "5"], .tuple [.str "node", .int 5, .str "="], .tuple [.str "node", .str "", .int 5], .tuple [.str "node", .str "<", .int (-1000000000000000001)], .tuple [.str "node", .str "<>", .int 5]]) l3 (by simpa using u3)
    have ox : wOd x (3 * d.weight + 200) (d.depth + 3) := by
      simp only [List.mem_cons, List.not_mem_nil, or_false] at hq
      rcases hq with rfl | rfl | rfl | rfl | rfl | rfl | rfl | rfl <;> exact cOd_of (by decide +kernel) (by omega) (by omega)
    clear hq tt tm tl
    walk_at "go5"
    exact ⟨_, _, rfl, _, rfl, ox, h3⟩
  · obtain ⟨x, hq, ix⟩ := ix_in (ds := [.tuple [.str "times", .int (r2 - 1), .int 5, d], .tuple [.str "times", .int 3, .int (r2 - 1), d], .tuple [.str "times", .int 0, .int (r2 - 1), d], .tuple [.str "times", .bool true, .int 3, d], .tuple [.str "times", .int 1, .bool true, d], .tuple [.str "times", .int 2, d], .tuple [.str "times", .int 0, .none, d], .tuple [.str "times", .str "1", .int 2, d]]) l3 (by simpa using u3)
    have ox : wOd x (3 * d.weight + 200) (d.depth + 3) := by
      simp only [List.mem_cons, List.not_mem_nil, or_false] at hq
      rcases hq with rfl | rfl | rfl | rfl | rfl | rfl | rfl | rfl
      · apply Th.od
        · exact Tl.tup (Tl.cons (Th.c' (by decide +kernel)) (Tl.cons (tm) (Tl.cons (Th.c' (by decide +kernel)) (Tl.cons (tt) (Tl.nil _)))))
        all_goals omega
      · apply Th.od
        · exact Tl.tup (Tl.cons (Th.c' (by decide +kernel)) (Tl.cons (Th.c' (by decide +kernel)) (Tl.cons (tm) (Tl.cons (tt) (Tl.nil _)))))
        all_goals omega
      · apply Th.od
        · exact Tl.tup (Tl.cons (Th.c' (by decide +kernel)) (Tl.cons (Th.c' (by decide +kernel)) (Tl.cons (tm) (Tl.cons (tt) (Tl.nil _)))))
        all_goals omega
      · apply Th.od
        · exact Tl.tup (Tl.cons (Th.c' (by decide +kernel)) (Tl.cons (Th.c' (by decide +kernel)) (Tl.cons (Th.c' (by decide +kernel)) (Tl.cons (tt) (Tl.nil _)))))
        all_goals omega
      · apply Th.od
        · exact Tl.tup (Tl.cons (Th.c' (by decide +kernel)) (Tl.cons (Th.c' (by decide +kernel)) (Tl.cons (Th.c' (by decide +kernel)) (Tl.cons (tt) (Tl.nil _)))))
        all_goals omega
      · apply Th.od
        · exact Tl.tup (Tl.cons (Th.c' (by decide +kernel)) (Tl.cons (Th.c' (by decide +kernel)) (Tl.cons (tt) (Tl.nil _))))
        all_goals omega
      · apply Th.od
        · exact Tl.tup (Tl.cons (Th.c' (by decide +kernel)) (Tl.cons (Th.c' (by decide +kernel)) (Tl.cons (Th.c' (by decide +kernel)) (Tl.cons (tt) (Tl.nil _)))))
        all_goals omega
      · apply Th.od
        · exact Tl.tup (Tl.cons (Th.c' (by decide +kernel)) (Tl.cons (Th.c' (by decide +kernel)) (Tl.cons (Th.c' (by decide +kernel)) (Tl.cons (tt) (Tl.nil _)))))
        all_goals omega
    clear hq tt tm tl
    walk_at "go5"
    exact ⟨_, _, rfl, _, rfl, ox, h3⟩
  · obtain ⟨x, hq, ix⟩ := ix_in (ds := [.tuple [.str "then", d], .tuple [.str "or", d, d, d], .tuple [.str "star", d, d], .tuple [.str "maybe"], .tuple [.str "plus", .list [d]], .tuple [.str "or", d, .none], .tuple [.tuple [.str "any"], d], .tuple [.str "until", d]]) l3 (by simpa using u3)
    have ox : wOd x (3 * d.weight + 200) (d.depth + 3) := by
      simp only [List.mem_cons, List.not_mem_nil, or_false] at hq
      rcases hq with rfl | rfl | rfl | rfl | rfl | rfl | rfl | rfl
      · apply Th.od
        · exact Tl.tup (Tl.cons (Th.c' (by decide +kernel)) (Tl.cons (tt) (Tl.nil _)))
        all_goals omega
      · apply Th.od
        · exact Tl.tup (Tl.cons (Th.c' (by decide +kernel)) (Tl.cons (tt) (Tl.cons (tt) (Tl.cons (tt) (Tl.nil _)))))
        all_goals omega
      · apply Th.od
        · exact Tl.tup (Tl.cons (Th.c' (by decide +kernel)) (Tl.cons (tt) (Tl.cons (tt) (Tl.nil _))))
        all_goals omega
      · exact cOd_of (by decide +kernel) (by omega) (by omega)
      · apply Th.od
        · exact Tl.tup (Tl.cons (Th.c' (by decide +kernel)) (Tl.cons (tl) (Tl.nil _)))
        all_goals omega
      · apply Th.od
        · exact Tl.tup (Tl.cons (Th.c' (by decide +kernel)) (Tl.cons (tt) (Tl.cons (Th.c' (by decide +kernel)) (Tl.nil _))))
        all_goals omega
      · apply Th.od
        · exact Tl.tup (Tl.cons (Th.c' (by decide +kernel)) (Tl.cons (tt) (Tl.nil _)))
        all_goals omega
      · apply Th.od
        · exact Tl.tup (Tl.cons (Th.c' (by decide +kernel)) (Tl.cons (tt) (Tl.nil _)))
        all_goals omega
    clear hq tt tm tl
    walk_at "go5"
    exact ⟨_, _, rfl, _, rfl, ox, h3⟩
end K63

set_option Elab.async false
set_option linter.all false
set_option maxRecDepth 100000
set_option maxHeartbeats 2000000
namespace K63
open PySem L2 Sm
local macro_rules | `(tactic| walk_at "go5") => `(tactic| simp only [n_op2, n_op2a, n_dat2, n_tst2, n_rd2, n_rd2s, n_rdt2, n_rdt2s, n_getd, n_getr, n_getl, n_not2, n_no, n_and, n_andt, n_andf, n_or, n_ort, n_orf, n_not, n_T, n_t, n_tand, n_tandt, n_tandf, n_tor, n_tort, n_torf, n_tnot, n_tn, n_if, n_ift, n_iff, n_ch, n_ch1, n_ch2, n_ch3t, n_ch3f, n_un, n_und, n_nil, n_cons, n_cons1, n_cons2, n_tup, n_tu, n_tus, n_lst, n_ls, n_lss, n_dn, n_dc, n_ofl, n_ofl2, n_new, n_new2, n_is, n_is2, n_is3, n_cal, n_calL, n_nop, n_part, n_pt, n_sl, n_sl1, n_sl2, n_sl3, n_slw, n_isno, n_isnot, n_isnoi, n_isnol, n_isnou, n_iter, n_itl, n_itu, n_its, n_c, n_var, n_va, n_seq, n_sqn, n_sqr, n_sqe, n_pass, n_set, n_se, n_ret, n_re, n_retn, n_drop, n_dr, n_ifs, n_ifst, n_ifsf, n_raise, n_par, n_pa, n_asg, n_as, n_aso, n_gT2, n_gN, n_for, n_fo, n_lo0, n_lo, n_lon, n_lor, n_step, n_st, n_try, n_catn, n_catr, n_def, n_outn, n_outr, n_oute, n_len, n_lend, n_lenl, n_lenu, n_max, n_min, n_inti, n_intb, n_tupl, n_addi, n_subi, n_lei, n_lti, n_gti, n_negi, n_lc, n_lcs, n_lp0, n_lp1, n_lps, n_lpn, n_turn, n_tc, n_yes, n_nox, n_tct, n_tcf, n_one, n_w0, n_w1, n_sum, n_sums, n_in0, n_in1, bind_ok, bind_exc, rF_ok, rF_exc, ofO_some, lenW1, lenW2, lenW3, lenW4, lenW5, id_eq, List.length_cons, List.length_nil, List.map_cons, List.map_nil, List.cons_append, List.nil_append, List.getElem?_cons_zero, List.getElem?_cons_succ, List.replicate, Nat.sub_self, List.append_nil, List.set_cons_zero, List.set_cons_succ, if_true, if_false, ite_true, ite_false, Bool.false_eq_true, reduceCtorEq, Option.map_some, is_int, is_bool, is_str, is_tuple, Nat.zero_add, Nat.reduceAdd, Nat.reduceSub, Nat.reduceLeDiff, isT, ixt0, ixt1, ixt2, ixt3, ixl0, ixl1, in2, in3, in2L, in3L, eqss, eqii, beq_self_eq_true, Bool.not_true, Bool.not_false, Bool.or_true, Bool.or_false, Bool.true_or, Bool.false_or, Bool.and_true, Bool.and_false, Bool.true_and, Bool.false_and, Int.reduceLE, Int.reduceLT, Int.reduceNeg, decide_true, decide_false, Int.reduceSub, Int.reduceAdd, sizeLine, Nat.reducePow, Int.cast_ofNat_Int, Int.reduceBEq, bg1, bg2, bg3, bg4, powE, powE8, String.reduceBEq, Nat.reduceLT, nI1, nI2, nI3, nI4, nI5, nI6, Int.add_zero, Int.mul_one, List.isEmpty_cons, List.isEmpty_nil, List.sum_cons, List.sum_nil, cu21, cu31, cu32, cu43, cv22, cv32, cv33, cv44, sl_t, ad_t, rs0, rs1, rs2, kWB, kAH, kN, kT, kTO, kSPM, i_set, i_1, i_2, i_3, i_s1, i_s2, i_s3, i_abs, i_gei, i_rng, i_app, i_a1, i_a2, i_a3, i_a4, i_frz, i_fz, i_fz2, ixl2, ixl3, j_rngc, n_dic, n_lstf, n_sls, n_sls2, ad_l, *])
local macro_rules | `(tactic| walk_at "end") => `(tactic| simp [kAH, kWB, kN, kT, kTO, kSPM, sizeLine, r0, r1, r2, n_outn, n_outr, n_oute, bigt, bigc, n_ifst, n_ifsf, n_ift, n_iff, n_sqn, n_sqr, n_re, n_pass, *])
theorem od_tup {xs : List PyData} {B D : Nat} (h1 : okL xs = true) (h2 : PyData.weightAll xs ≤ B) (h3 : PyData.depthAll xs ≤ D) (h4 : PyData.hasDictAll xs = false ∨ listsL xs = false) : wOd (.tuple xs) B (D + 1) := by
  refine ⟨by simp only [okD, h1], by simp only [PyData.weight]; exact h2, by simp only [PyData.depth]; omega, ?_⟩
  simp only [PyData.hasDict, listsD]
  exact h4
structure Bs (x : PyData) (B D : Nat) : Prop where
  ok : okD x = true
  we : x.weight ≤ B
  de : x.depth ≤ D
  nd : PyData.hasDict x = false
  nl : listsD x = false
theorem Xp.bs {d : PyData} (h : Xp d) : Bs d d.weight d.depth := ⟨h.facts.1, Nat.le_refl _, Nat.le_refl _, h.facts.2.1, h.facts.2.2⟩
theorem str_bs {w : Str} (h : okD (.str w) = true) : Bs (.str w) (PyData.weight (.str w)) 0 := ⟨h, Nat.le_refl _, by simp [PyData.depth], by simp [PyData.hasDict], by simp [listsD]⟩
theorem int_bs {i : Int} (h : i.natAbs ≤ 400) : Bs (.int i) (PyData.weight (.int i)) 0 := ⟨by simp only [okD, decide_eq_true_eq]; omega, Nat.le_refl _, by simp [PyData.depth], by simp [PyData.hasDict], by simp [listsD]⟩
theorem or_false' {p q : Bool} (h : p = false ∨ q = false) : (p = false ∨ q = false) := h
theorem od_w2l {w : Str} {x b : PyData} {B D : Nat} (hw : okD (.str w) = true) (hx : wOd x B D) (hb : Xp b) : wOd (.tuple [.str w, x, b]) (PyData.weight (.str w) + 1 + (B + 1 + (b.weight + 1 + 0))) (max D b.depth + 1) := by
  have f := hb.facts
  refine od_tup (by simp [okL, hw, hx.1, f.1]) ?_ ?_ ?_
  · have := hx.2.1; simp only [PyData.weightAll]; omega
  · have := hx.2.2.1; simp only [PyData.depthAll, PyData.depth]; omega
  · rcases hx.2.2.2 with q | q
    · exact .inl (by simp [PyData.hasDictAll, PyData.hasDict, q, f])
    · exact .inr (by simp [listsL, listsD, q, f])
theorem od_w2r {w : Str} {x b : PyData} {B D : Nat} (hw : okD (.str w) = true) (hx : wOd x B D) (hb : Xp b) : wOd (.tuple [.str w, b, x]) (PyData.weight (.str w) + 1 + (b.weight + 1 + (B + 1 + 0))) (max b.depth D + 1) := by
  have f := hb.facts
  refine od_tup (by simp [okL, hw, hx.1, f.1]) ?_ ?_ ?_
  · have := hx.2.1; simp only [PyData.weightAll]; omega
  · have := hx.2.2.1; simp only [PyData.depthAll, PyData.depth]; omega
  · rcases hx.2.2.2 with q | q
    · exact .inl (by simp [PyData.hasDictAll, PyData.hasDict, q, f])
    · exact .inr (by simp [listsL, listsD, q, f])
theorem od_w1 {w : Str} {x : PyData} {B D : Nat} (hw : okD (.str w) = true) (hx : wOd x B D) : wOd (.tuple [.str w, x]) (PyData.weight (.str w) + 1 + (B + 1 + 0)) (D + 1) := by
  refine od_tup (by simp [okL, hw, hx.1]) ?_ ?_ ?_
  · have := hx.2.1; simp only [PyData.weightAll]; omega
  · have := hx.2.2.1; simp only [PyData.depthAll, PyData.depth]; omega
  · rcases hx.2.2.2 with q | q
    · exact .inl (by simp [PyData.hasDictAll, PyData.hasDict, q])
    · exact .inr (by simp [listsL, listsD, q])
theorem od_w3 {w : Str} {i j : Int} {x : PyData} {B D : Nat} (hw : okD (.str w) = true) (hi : i.natAbs ≤ 400) (hj : j.natAbs ≤ 400) (hx : wOd x B D) : wOd (.tuple [.str w, .int i, .int j, x]) (PyData.weight (.str w) + 1 + (PyData.weight (.int i) + 1 + (PyData.weight (.int j) + 1 + (B + 1 + 0)))) (D + 1) := by
  refine od_tup (by simp [okL, hw, hx.1, (int_bs hi).ok, (int_bs hj).ok]) ?_ ?_ ?_
  · have := hx.2.1; simp only [PyData.weightAll]; omega
  · have := hx.2.2.1; simp only [PyData.depthAll, PyData.depth]; omega
  · rcases hx.2.2.2 with q | q
    · exact .inl (by simp [PyData.hasDictAll, PyData.hasDict, q])
    · exact .inr (by simp [listsL, listsD, q])
theorem wOd.up {x : PyData} {B D B' D' : Nat} (h : wOd x B D) (hB : B ≤ B') (hD : D ≤ D') : wOd x B' D' := ⟨h.1, Nat.le_trans h.2.1 hB, Nat.le_trans h.2.2.1 hD, h.2.2.2⟩
theorem kTO_okD {w : Str} (h : kTO w = true) : okD (.str w) = true := by rcases kTO_ok h with rfl | rfl; exact key_ok.1; exact key_ok.2.1
theorem kSPM_okD {w : Str} (h : kSPM w = true) : okD (.str w) = true := by
  rcases kSPM_ok h with rfl | rfl | rfl
  · exact key_ok.2.2.1
  · exact key_ok.2.2.2.1
  · exact key_ok.2.2.2.2.1
theorem plcN_two {w : Str} (h : kTO w = true) : plcN w = [.int 1, .int 2] := by unfold plcN; rw [h]; rfl
theorem plcN_one {w : Str} (h : kSPM w = true) : plcN w = [.int 1] := by
  have : kTO w = false := by rcases kSPM_ok h with rfl | rfl | rfl <;> decide +kernel
  unfold plcN; rw [this, h]; rfl
theorem plcN_tim : plcN "times" = [.int 3] := by
  unfold plcN
  rw [show kTO "times" = false by decide +kernel, show kSPM "times" = false by decide +kernel, show kT "times" = true by decide +kernel]
  rfl
theorem bent_ok {rest : SS} : ∀ (k : Nat) (d : PyData) (n : Int) (S : SS), 0 ≤ n → n < k → HS rest S → Xp d → Rt (m__law_bent k [.ref 0, .dat d, .dat (.int n)] S) (Oy (3 * d.weight + 200) (d.depth + 3) rest)
  | 0, _, _, _, h0, h1, _, _ => absurd h1 (by omega)
  | k + 1, d, n, S, h0, h1, hs, hx => by
    obtain ⟨w0, r0', ed⟩ := hx.tup
    have hpa : m__law_parts [.dat d] S = .ok (.dat (.list (plcN w0))) S := by rw [ed]; exact ev_law_parts w0 r0' S
    cases hz : (n == 0) with
    | true =>
      obtain ⟨_, S1, e1, x, rfl, ox, hS1⟩ := odd_ok hs hx
      unfold m__law_bent mb__law_bent
      clear ed hs hx
      walk_at "go5"
      exact ⟨_, _, rfl, _, rfl, ox, hS1⟩
    | false =>
      have hn0 := beq_eq_false_iff_ne.mp hz
      cases hp : (((plcN w0).length : Int) == 0) with
      | true =>
        obtain ⟨_, S1, e1, x, rfl, ox, hS1⟩ := odd_ok hs hx
        unfold m__law_bent mb__law_bent
        clear ed hs hx
        walk_at "go5"
        exact ⟨_, _, rfl, _, rfl, ox, hS1⟩
      | false =>
        obtain ⟨r1, S1, e1, l1, u1, h2⟩ := draw_ok hs (many := 5) (by decide) (by decide)
        cases hr : (r1 == 0) with
        | true =>
          obtain ⟨_, S2, e2, x, rfl, ox, hS2⟩ := odd_ok h2 hx
          unfold m__law_bent mb__law_bent
          clear ed hs hx
          walk_at "go5"
          exact ⟨_, _, rfl, _, rfl, ox, hS2⟩
        | false =>
          have ih : ∀ (d : PyData) (S : SS), HS rest S → Xp d → Rt (m__law_bent k [.ref 0, .dat d, .dat (.int (n - 1))] S) (Oy (3 * d.weight + 200) (d.depth + 3) rest) := fun d S g1 g2 => bent_ok k d (n - 1) S (by omega) (by omega) g1 g2
          unfold m__law_bent mb__law_bent
          cases hx with
          | «at» w r q0 q1 q2 q3 =>
            cases ed
            rw [q1] at hp
            cases hp
          | two w a b q1 xa xb =>
            cases ed
            rw [plcN_two q1] at hpa hp
            obtain ⟨r2, S2, e2, l2, u2, h3⟩ := draw_ok h2 (many := 2) (by decide) (by decide)
            have wts : (PyData.tuple [.str w0, a, b]).weight = PyData.weight (.str w0) + 1 + (a.weight + 1 + (b.weight + 1 + 0)) := by simp only [PyData.weight, PyData.weightAll]
            have dts : (PyData.tuple [.str w0, a, b]).depth = max a.depth b.depth + 1 := dp2
            rw [wts, dts]
            rcases (show r2 = 0 ∨ r2 = 1 by omega) with rfl | rfl
            · obtain ⟨_, S3, e3, x, rfl, ox, h4⟩ := ih a S2 h3 xa
              have fin := (od_w2l (kTO_okD q1) ox xb).up (B' := 3 * (PyData.weight (.str w0) + 1 + (a.weight + 1 + (b.weight + 1 + 0))) + 200) (D' := max a.depth b.depth + 1 + 3) (by omega) (by omega)
              clear ih hs h2 xa xb ox wts dts q1
              walk_at "go5"
              exact ⟨_, _, rfl, _, rfl, fin, h4⟩
            · obtain ⟨_, S3, e3, x, rfl, ox, h4⟩ := ih b S2 h3 xb
              have fin := (od_w2r (kTO_okD q1) ox xa).up (B' := 3 * (PyData.weight (.str w0) + 1 + (a.weight + 1 + (b.weight + 1 + 0))) + 200) (D' := max a.depth b.depth + 1 + 3) (by omega) (by omega)
              clear ih hs h2 xa xb ox wts dts q1
              walk_at "go5"
              exact ⟨_, _, rfl, _, rfl, fin, h4⟩
          | one w a q1 xa =>
            cases ed
            rw [plcN_one q1] at hpa hp
            obtain ⟨r2, S2, e2, l2, u2, h3⟩ := draw_ok h2 (many := 1) (by decide) (by decide)
            have wts : (PyData.tuple [.str w0, a]).weight = PyData.weight (.str w0) + 1 + (a.weight + 1 + 0) := by simp only [PyData.weight, PyData.weightAll]
            have dts : (PyData.tuple [.str w0, a]).depth = a.depth + 1 := dp1
            rw [wts, dts]
            have hr2 : r2 = 0 := by omega
            subst hr2
            obtain ⟨_, S3, e3, x, rfl, ox, h4⟩ := ih a S2 h3 xa
            have fin := (od_w1 (kSPM_okD q1) ox).up (B' := 3 * (PyData.weight (.str w0) + 1 + (a.weight + 1 + 0)) + 200) (D' := a.depth + 1 + 3) (by omega) (by omega)
            clear ih hs h2 xa ox wts dts q1
            walk_at "go5"
            exact ⟨_, _, rfl, _, rfl, fin, h4⟩
          | tim i j a hi hj xa =>
            cases ed
            rw [plcN_tim] at hpa hp
            obtain ⟨r2, S2, e2, l2, u2, h3⟩ := draw_ok h2 (many := 1) (by decide) (by decide)
            have wts : (PyData.tuple [.str "times", .int i, .int j, a]).weight = PyData.weight (.str "times") + 1 + (PyData.weight (.int i) + 1 + (PyData.weight (.int j) + 1 + (a.weight + 1 + 0))) := by simp only [PyData.weight, PyData.weightAll]
            have dts : (PyData.tuple [.str "times", .int i, .int j, a]).depth = a.depth + 1 := by rw [dp3, dpi, dpi]; omega
            rw [wts, dts]
            have hr2 : r2 = 0 := by omega
            subst hr2
            obtain ⟨_, S3, e3, x, rfl, ox, h4⟩ := ih a S2 h3 xa
            have fin := (od_w3 key_ok.2.2.2.2.2 hi hj ox).up (B' := 3 * (PyData.weight (.str "times") + 1 + (PyData.weight (.int i) + 1 + (PyData.weight (.int j) + 1 + (a.weight + 1 + 0)))) + 200) (D' := a.depth + 1 + 3) (by omega) (by omega)
            clear ih hs h2 xa ox wts dts hi hj
            walk_at "go5"
            exact ⟨_, _, rfl, _, rfl, fin, h4⟩
end K63

set_option Elab.async false
set_option linter.all false
set_option maxRecDepth 100000
set_option maxHeartbeats 2000000
namespace K63
open PySem L2 Sm
local macro_rules | `(tactic| walk_at "go5") => `(tactic| simp only [n_op2, n_op2a, n_dat2, n_tst2, n_rd2, n_rd2s, n_rdt2, n_rdt2s, n_getd, n_getr, n_getl, n_not2, n_no, n_and, n_andt, n_andf, n_or, n_ort, n_orf, n_not, n_T, n_t, n_tand, n_tandt, n_tandf, n_tor, n_tort, n_torf, n_tnot, n_tn, n_if, n_ift, n_iff, n_ch, n_ch1, n_ch2, n_ch3t, n_ch3f, n_un, n_und, n_nil, n_cons, n_cons1, n_cons2, n_tup, n_tu, n_tus, n_lst, n_ls, n_lss, n_dn, n_dc, n_ofl, n_ofl2, n_new, n_new2, n_is, n_is2, n_is3, n_cal, n_calL, n_nop, n_part, n_pt, n_sl, n_sl1, n_sl2, n_sl3, n_slw, n_isno, n_isnot, n_isnoi, n_isnol, n_isnou, n_iter, n_itl, n_itu, n_its, n_c, n_var, n_va, n_seq, n_sqn, n_sqr, n_sqe, n_pass, n_set, n_se, n_ret, n_re, n_retn, n_drop, n_dr, n_ifs, n_ifst, n_ifsf, n_raise, n_par, n_pa, n_asg, n_as, n_aso, n_gT2, n_gN, n_for, n_fo, n_lo0, n_lo, n_lon, n_lor, n_step, n_st, n_try, n_catn, n_catr, n_def, n_outn, n_outr, n_oute, n_len, n_lend, n_lenl, n_lenu, n_max, n_min, n_inti, n_intb, n_tupl, n_addi, n_subi, n_lei, n_lti, n_gti, n_negi, n_lc, n_lcs, n_lp0, n_lp1, n_lps, n_lpn, n_turn, n_tc, n_yes, n_nox, n_tct, n_tcf, n_one, n_w0, n_w1, n_sum, n_sums, n_in0, n_in1, bind_ok, bind_exc, rF_ok, rF_exc, ofO_some, lenW1, lenW2, lenW3, lenW4, lenW5, id_eq, List.length_cons, List.length_nil, List.map_cons, List.map_nil, List.cons_append, List.nil_append, List.getElem?_cons_zero, List.getElem?_cons_succ, List.replicate, Nat.sub_self, List.append_nil, List.set_cons_zero, List.set_cons_succ, if_true, if_false, ite_true, ite_false, Bool.false_eq_true, reduceCtorEq, Option.map_some, is_int, is_bool, is_str, is_tuple, Nat.zero_add, Nat.reduceAdd, Nat.reduceSub, Nat.reduceLeDiff, isT, ixt0, ixt1, ixt2, ixt3, ixl0, ixl1, in2, in3, in2L, in3L, eqss, eqii, beq_self_eq_true, Bool.not_true, Bool.not_false, Bool.or_true, Bool.or_false, Bool.true_or, Bool.false_or, Bool.and_true, Bool.and_false, Bool.true_and, Bool.false_and, Int.reduceLE, Int.reduceLT, Int.reduceNeg, decide_true, decide_false, Int.reduceSub, Int.reduceAdd, sizeLine, Nat.reducePow, Int.cast_ofNat_Int, Int.reduceBEq, bg1, bg2, bg3, bg4, powE, powE8, String.reduceBEq, Nat.reduceLT, nI1, nI2, nI3, nI4, nI5, nI6, Int.add_zero, Int.mul_one, List.isEmpty_cons, List.isEmpty_nil, List.sum_cons, List.sum_nil, cu21, cu31, cu32, cu43, cv22, cv32, cv33, cv44, sl_t, ad_t, rs0, rs1, rs2, kWB, kAH, kN, kT, kTO, kSPM, i_set, i_1, i_2, i_3, i_s1, i_s2, i_s3, i_abs, i_gei, i_rng, i_app, i_a1, i_a2, i_a3, i_a4, i_frz, i_fz, i_fz2, ixl2, ixl3, j_rngc, n_dic, n_lstf, n_sls, n_sls2, ad_l, *])
local macro_rules | `(tactic| walk_at "end") => `(tactic| simp [kAH, kWB, kN, kT, kTO, kSPM, sizeLine, r0, r1, r2, n_outn, n_outr, n_oute, bigt, bigc, n_ifst, n_ifsf, n_ift, n_iff, n_sqn, n_sqr, n_re, n_pass, *])
theorem for_nx {G : GF} {b : MS} {ds : List PyData} {ρ : En} {S : SS} {Q : En → SS → Prop} (P : Nat → En → SS → Prop) (h0 : P 0 ρ S)
    (hs : ∀ (i : Nat) (d : PyData) (ρ : En) (S : SS), i < ds.length → d ∈ ds → P i ρ S → Nx (stepF G b d ρ S) (P (i + 1)))
    (he : ∀ ρ' S', P ds.length ρ' S' → Q ρ' S') : Nx (loopF (stepF G b) ds ρ S) Q := by
  obtain ⟨ρ', S', e, h⟩ := loop_inv P ds 0 ρ S h0 fun i d ρ S _ h2 h3 h4 => hs i d ρ S (by omega) h3 h4
  exact ⟨ρ', S', e, he ρ' S' (by rw [Nat.zero_add] at h; exact h)⟩
theorem Xp.safe {d : PyData} (h : Xp d) (hw : d.weight ≤ 500000) (hd : d.depth ≤ 48) : Safe d := ⟨h.facts.1, hw, hd, .inl h.facts.2.1⟩
theorem wOd.safe {d : PyData} {B D : Nat} (h : wOd d B D) (hw : B ≤ 500000) (hd : D ≤ 48) : Safe d := ⟨h.1, Nat.le_trans h.2.1 hw, Nat.le_trans h.2.2.1 hd, h.2.2.2⟩
theorem hand_ok (ns : List Int) : ∃ S', m__law_hand [.scr ns] [] = .ok (.ref 0) S' ∧ HS [] S' := by
  obtain ⟨cs, ecs⟩ : ∃ cs, cutD (ns.map PyData.int) none (some 63) = cs := ⟨_, rfl⟩
  have hc : ∀ x ∈ cs, ∃ c, x = .int c := by
    intro x hx
    rw [← ecs] at hx
    unfold cutD at hx
    obtain ⟨c, _, rfl⟩ := List.mem_map.mp (List.mem_of_mem_drop (List.mem_of_mem_take hx))
    exact ⟨c, rfl⟩
  have hlen : cs.length ≤ 63 := by
    rw [← ecs]
    unfold cutD
    rw [List.length_take]
    have : HT.sIx (ns.map PyData.int).length (ns.map PyData.int).length (some 63) ≤ 63 := by
      unfold HT.sIx
      simp
      try omega
    omega
  have hl : ∀ S, loopC (turnC (gN 1) mYes (mCal fInt (mCons (mVar 1) mNil)) [some (.scr ns), none]) cs [] S = .ok cs S := fun S => by
    refine (loopC_map (f := fun x => x) _ [] (fun x hx => ?_) ?_).trans (by rw [List.map_id'']; rfl; exact fun _ => rfl)
    · obtain ⟨c, rfl⟩ := hc x hx
      exact turn_one (ρ' := [some (.scr ns), some (.dat (.int c))]) rfl rfl
    · exact Nat.le_trans (show _ ≤ 100 by show 0 + cs.length ≤ 100; omega) (by decide)
  have hsl : slW (.scr ns) none (some 63) = some (.list cs) := by rw [← ecs]; rfl
  clear ecs
  unfold m__law_hand mb__law_hand
  walk_at "go5"
  exact ⟨_, rfl, cs, 0, 0, 0, rfl, hc⟩
theorem law_true (ns : List Int) (h : ns.length ≤ 63) (hb : ∀ z ∈ ns, Builtin.Int.intBits z ≤ 1048576) : ∃ S, m_law [.scr ns] [] = .ok (.dat (.bool true)) S := by
  clear h hb
  obtain ⟨S1, e1, h1⟩ := hand_ok ns
  obtain ⟨_, S2, e2, ws, rfl, h2, p1, p2, p3⟩ := words_ok h1
  obtain ⟨_, S3, e3, vs, rfl, h3, q1, q2, q3⟩ := worths_ok h2
  have hw : Lst Wd ws := ⟨p1, p2, p3⟩
  have hv : Lst Wt vs := ⟨q1, q2, q3⟩
  clear p1 p2 p3 q1 q2 q3 h1 h2
  have k3 := fun S => rg_ok (j := 3) (by decide) (by decide) S
  have k4 := fun S => rg_ok (j := 4) (by decide) (by decide) S
  have main : Rt (m_law [.scr ns] []) fun w _ => w = .dat (.bool true) := by
    unfold m_law mb_law
    walk_at "go5"
    refine for_end (P := fun _ ρ S => ∃ (a b c : Option W), ρ = [some (.scr ns), some (.ref 0), a, some (.dat (.list ws)), some (.dat (.list vs)), b, c] ∧ HX S) ?_ ?_ ?_
    · exact ⟨_, _, _, rfl, _, h3⟩
    · intro i dd ρ S hi hd ⟨a, b, c, eρ, rest, hS⟩
      subst eρ
      clear hi hd e1 e2 e3 h3 k3
      obtain ⟨r1, T1, g1, l1, u1, hs1⟩ := draw_ok hS (many := 5) (by decide) (by decide)
      obtain ⟨x, hx, ix⟩ := ix_in (ds := [.int 1, .int 3, .int 8, .int 20, .int 60]) l1 (by simpa using u1)
      obtain ⟨room, rfl, ro1, ro2⟩ : ∃ room : Int, x = .int room ∧ 1 ≤ room ∧ room ≤ 60 := by
        simp only [List.mem_cons, List.not_mem_nil, or_false] at hx
        rcases hx with rfl | rfl | rfl | rfl | rfl <;> exact ⟨_, rfl, by decide, by decide⟩
      obtain ⟨r2, T2, g2, l2, u2, hs2⟩ := draw_ok hs1 (many := 10) (by decide) (by decide)
      obtain ⟨_, T3, g3, t, rfl, xt, wt, dt, hs3⟩ := expr_ok hw hv (2 + r2).toNat 16 room (2 + r2) (by omega) (by omega) (by omega) ro1 ro2 hs2
      obtain ⟨r4, T4, g4, l4, u4, hs4⟩ := draw_ok hs3 (many := 3) (by decide) (by decide)
      have hpow : 50 * 2 ^ (2 + r2).toNat - 10 ≤ 102390 := by
        have : 2 ^ (2 + r2).toNat ≤ 2 ^ 11 := Nat.pow_le_pow_right (by decide) (by omega)
        omega
      have wt' : t.weight ≤ 102390 := Nat.le_trans wt hpow
      have dt' : t.depth ≤ 31 := by omega
      clear wt dt hpow hx
      have inner : ∀ (t : PyData) (T : SS) (aa cc : Option W), Xp t → t.weight ≤ 102390 → t.depth ≤ 31 → HX T →
          Nx (loopF (stepF (gN 6) (mIfS (tNotM (mT (mCal (lenW 1 m__law_is_right) (mCons (mCal (lenW 3 (m__law_bent 40)) (mCons (mVar 1) (mCons (mVar 5) (mCons (mCal (lenW 2 m__law_draw) (mCons (mVar 1) (mCons (mC (.int 33)) mNil))) mNil)))) mNil)))) (mRet (mC (.bool false))) mPass)) (rangeD 0 1 (Int.toNat 4)) [some (.scr ns), some (.ref 0), aa, some (.dat (.list ws)), some (.dat (.list vs)), some (.dat t), cc] T)
            fun ρ S => ∃ (a b c : Option W), ρ = [some (.scr ns), some (.ref 0), a, some (.dat (.list ws)), some (.dat (.list vs)), b, c] ∧ HX S := by
        intro t T aa cc xt wt dt hT
        refine for_nx (P := fun _ ρ S => ∃ c : Option W, ρ = [some (.scr ns), some (.ref 0), aa, some (.dat (.list ws)), some (.dat (.list vs)), some (.dat t), c] ∧ HX S) ?_ ?_ ?_
        · exact ⟨_, rfl, hT⟩
        · intro i dd ρ S hi hd ⟨c, eρ, rest, hS⟩
          subst eρ
          obtain ⟨r, S1, e1, l1, u1, h1⟩ := draw_ok hS (many := 33) (by decide) (by decide)
          obtain ⟨_, S2, e2, y, rfl, oy, h2⟩ := bent_ok 40 t r S1 l1 (by omega) h1 xt
          have e3 := right_of y S2 (oy.safe (by omega) (by omega))
          clear xt hi hd hT oy hw hv
          walk_at "go5"
          exact ⟨_, _, rfl, _, rfl, _, h2⟩
        · intro ρ S ⟨c, eρ, hS⟩
          exact ⟨_, _, _, eρ, hS⟩
      cases hz : (r4 == 0) with
      | false =>
        have e9 := right_of t T4 (xt.safe (by omega) (by omega))
        have fin := inner t T4 (some (.dat dd)) c xt wt' dt' ⟨_, hs4⟩
        clear inner hw hv xt
        walk_at "go5"
      | true =>
        obtain ⟨_, T5, g5, am, rfl, xa, wa, da, hs5⟩ := atom_ok' hs4 hw hv
        obtain ⟨_, T6, g6, bd, rfl, xb, wb, db, hs6⟩ := at_bounds_ok hs5 xa wa da
        have e9 := right_of bd T6 (xb.safe (by omega) (by omega))
        have fin := inner bd T6 (some (.dat dd)) c xb (by omega) db hs6
        clear inner hw hv xt xa xb
        walk_at "go5"
    · intro ρ S ⟨a, b, c, eρ, hS⟩
      subst eρ
      walk_at "go5"
      exact ⟨_, _, rfl, rfl⟩
  obtain ⟨x, S, e, rfl⟩ := main
  exact ⟨S, e⟩
end K63

set_option Elab.async false
set_option linter.all false
set_option maxRecDepth 100000
set_option maxHeartbeats 4000000
namespace K63
open PySem PySem.Spec PyProof.Rows L2 Sm
theorem bd_is_integer (kV dc pm : Value) (an : Option Addr) (cd ct : Value) (us : List Value) (h : us.length = (["thing"] : List Str).length) : bindArgs (PySem.W.fnOf "is_integer" "is_integer" (defArgs st_is_integer) (defBody st_is_integer) (defScope st_is_integer) .none kV dc pm an cd ct) ⟨us, []⟩ = pure ((["thing"] : List Str).zip us) := match us, h with | [_], _ => rfl
theorem bd_is_within (kV dc pm : Value) (an : Option Addr) (cd ct : Value) (us : List Value) (h : us.length = (["thing", "least", "most"] : List Str).length) : bindArgs (PySem.W.fnOf "is_within" "is_within" (defArgs st_is_within) (defBody st_is_within) (defScope st_is_within) .none kV dc pm an cd ct) ⟨us, []⟩ = pure ((["thing", "least", "most"] : List Str).zip us) := match us, h with | [_, _, _], _ => rfl
theorem bd_is_worth (kV dc pm : Value) (an : Option Addr) (cd ct : Value) (us : List Value) (h : us.length = (["thing"] : List Str).length) : bindArgs (PySem.W.fnOf "is_worth" "is_worth" (defArgs st_is_worth) (defBody st_is_worth) (defScope st_is_worth) .none kV dc pm an cd ct) ⟨us, []⟩ = pure ((["thing"] : List Str).zip us) := match us, h with | [_], _ => rfl
theorem bd_are_letters (kV dc pm : Value) (an : Option Addr) (cd ct : Value) (us : List Value) (h : us.length = (["thing", "many"] : List Str).length) : bindArgs (PySem.W.fnOf "are_letters" "are_letters" (defArgs st_are_letters) (defBody st_are_letters) (defScope st_are_letters) .none kV dc pm an cd ct) ⟨us, []⟩ = pure ((["thing", "many"] : List Str).zip us) := match us, h with | [_, _], _ => rfl
theorem bd_is_word (kV dc pm : Value) (an : Option Addr) (cd ct : Value) (us : List Value) (h : us.length = (["thing"] : List Str).length) : bindArgs (PySem.W.fnOf "is_word" "is_word" (defArgs st_is_word) (defBody st_is_word) (defScope st_is_word) .none kV dc pm an cd ct) ⟨us, []⟩ = pure ((["thing"] : List Str).zip us) := match us, h with | [_], _ => rfl
theorem bd_is_atom (kV dc pm : Value) (an : Option Addr) (cd ct : Value) (us : List Value) (h : us.length = (["thing"] : List Str).length) : bindArgs (PySem.W.fnOf "is_atom" "is_atom" (defArgs st_is_atom) (defBody st_is_atom) (defScope st_is_atom) .none kV dc pm an cd ct) ⟨us, []⟩ = pure ((["thing"] : List Str).zip us) := match us, h with | [_], _ => rfl
theorem bd_parts_of (kV dc pm : Value) (an : Option Addr) (cd ct : Value) (us : List Value) (h : us.length = (["thing"] : List Str).length) : bindArgs (PySem.W.fnOf "parts_of" "parts_of" (defArgs st_parts_of) (defBody st_parts_of) (defScope st_parts_of) .none kV dc pm an cd ct) ⟨us, []⟩ = pure ((["thing"] : List Str).zip us) := match us, h with | [_], _ => rfl
theorem bd_is_kind (kV dc pm : Value) (an : Option Addr) (cd ct : Value) (us : List Value) (h : us.length = (["thing"] : List Str).length) : bindArgs (PySem.W.fnOf "is_kind" "is_kind" (defArgs st_is_kind) (defBody st_is_kind) (defScope st_is_kind) .none kV dc pm an cd ct) ⟨us, []⟩ = pure ((["thing"] : List Str).zip us) := match us, h with | [_], _ => rfl
theorem bd_is_sign (kV dc pm : Value) (an : Option Addr) (cd ct : Value) (us : List Value) (h : us.length = (["thing"] : List Str).length) : bindArgs (PySem.W.fnOf "is_sign" "is_sign" (defArgs st_is_sign) (defBody st_is_sign) (defScope st_is_sign) .none kV dc pm an cd ct) ⟨us, []⟩ = pure ((["thing"] : List Str).zip us) := match us, h with | [_], _ => rfl
theorem bd_size_within (kV dc pm : Value) (an : Option Addr) (cd ct : Value) (us : List Value) (h : us.length = (["thing", "deep"] : List Str).length) : bindArgs (PySem.W.fnOf "size_within" "size_within" (defArgs st_size_within) (defBody st_size_within) (defScope st_size_within) .none kV dc pm an cd ct) ⟨us, []⟩ = pure ((["thing", "deep"] : List Str).zip us) := match us, h with | [_, _], _ => rfl
theorem bd_size_of (kV dc pm : Value) (an : Option Addr) (cd ct : Value) (us : List Value) (h : us.length = (["thing"] : List Str).length) : bindArgs (PySem.W.fnOf "size_of" "size_of" (defArgs st_size_of) (defBody st_size_of) (defScope st_size_of) .none kV dc pm an cd ct) ⟨us, []⟩ = pure ((["thing"] : List Str).zip us) := match us, h with | [_], _ => rfl
theorem bd_is_expression (kV dc pm : Value) (an : Option Addr) (cd ct : Value) (us : List Value) (h : us.length = (["thing"] : List Str).length) : bindArgs (PySem.W.fnOf "is_expression" "is_expression" (defArgs st_is_expression) (defBody st_is_expression) (defScope st_is_expression) .none kV dc pm an cd ct) ⟨us, []⟩ = pure ((["thing"] : List Str).zip us) := match us, h with | [_], _ => rfl
theorem bd_check_expression (kV dc pm : Value) (an : Option Addr) (cd ct : Value) (us : List Value) (h : us.length = (["thing"] : List Str).length) : bindArgs (PySem.W.fnOf "check_expression" "check_expression" (defArgs st_check_expression) (defBody st_check_expression) (defScope st_check_expression) .none kV dc pm an cd ct) ⟨us, []⟩ = pure ((["thing"] : List Str).zip us) := match us, h with | [_], _ => rfl
theorem bd_size (kV dc pm : Value) (an : Option Addr) (cd ct : Value) (us : List Value) (h : us.length = (["expression"] : List Str).length) : bindArgs (PySem.W.fnOf "size" "size" (defArgs st_size) (defBody st_size) (defScope st_size) .none kV dc pm an cd ct) ⟨us, []⟩ = pure ((["expression"] : List Str).zip us) := match us, h with | [_], _ => rfl
theorem bd_turned_of (kV dc pm : Value) (an : Option Addr) (cd ct : Value) (us : List Value) (h : us.length = (["thing"] : List Str).length) : bindArgs (PySem.W.fnOf "turned_of" "turned_of" (defArgs st_turned_of) (defBody st_turned_of) (defScope st_turned_of) .none kV dc pm an cd ct) ⟨us, []⟩ = pure ((["thing"] : List Str).zip us) := match us, h with | [_], _ => rfl
theorem bd_turned_expression (kV dc pm : Value) (an : Option Addr) (cd ct : Value) (us : List Value) (h : us.length = (["expression"] : List Str).length) : bindArgs (PySem.W.fnOf "turned_expression" "turned_expression" (defArgs st_turned_expression) (defBody st_turned_expression) (defScope st_turned_expression) .none kV dc pm an cd ct) ⟨us, []⟩ = pure ((["expression"] : List Str).zip us) := match us, h with | [_], _ => rfl
theorem bd__law_mixed (kV dc pm : Value) (an : Option Addr) (cd ct : Value) (us : List Value) (h : us.length = (["cell", "turn"] : List Str).length) : bindArgs (PySem.W.fnOf "_law_mixed" "_law_mixed" (defArgs st__law_mixed) (defBody st__law_mixed) (defScope st__law_mixed) .none kV dc pm an cd ct) ⟨us, []⟩ = pure ((["cell", "turn"] : List Str).zip us) := match us, h with | [_, _], _ => rfl
theorem bd__law_hand (kV dc pm : Value) (an : Option Addr) (cd ct : Value) (us : List Value) (h : us.length = (["script"] : List Str).length) : bindArgs (PySem.W.fnOf "_law_hand" "_law_hand" (defArgs st__law_hand) (defBody st__law_hand) (defScope st__law_hand) .none kV dc pm an cd ct) ⟨us, []⟩ = pure ((["script"] : List Str).zip us) := match us, h with | [_], _ => rfl
theorem bd__law_draw (kV dc pm : Value) (an : Option Addr) (cd ct : Value) (us : List Value) (h : us.length = (["hand", "many"] : List Str).length) : bindArgs (PySem.W.fnOf "_law_draw" "_law_draw" (defArgs st__law_draw) (defBody st__law_draw) (defScope st__law_draw) .none kV dc pm an cd ct) ⟨us, []⟩ = pure ((["hand", "many"] : List Str).zip us) := match us, h with | [_, _], _ => rfl
theorem bd__law_letters (kV dc pm : Value) (an : Option Addr) (cd ct : Value) (us : List Value) (h : us.length = (["hand", "many"] : List Str).length) : bindArgs (PySem.W.fnOf "_law_letters" "_law_letters" (defArgs st__law_letters) (defBody st__law_letters) (defScope st__law_letters) .none kV dc pm an cd ct) ⟨us, []⟩ = pure ((["hand", "many"] : List Str).zip us) := match us, h with | [_, _], _ => rfl
theorem bd__law_words (kV dc pm : Value) (an : Option Addr) (cd ct : Value) (us : List Value) (h : us.length = (["hand"] : List Str).length) : bindArgs (PySem.W.fnOf "_law_words" "_law_words" (defArgs st__law_words) (defBody st__law_words) (defScope st__law_words) .none kV dc pm an cd ct) ⟨us, []⟩ = pure ((["hand"] : List Str).zip us) := match us, h with | [_], _ => rfl
theorem bd__law_worths (kV dc pm : Value) (an : Option Addr) (cd ct : Value) (us : List Value) (h : us.length = (["hand"] : List Str).length) : bindArgs (PySem.W.fnOf "_law_worths" "_law_worths" (defArgs st__law_worths) (defBody st__law_worths) (defScope st__law_worths) .none kV dc pm an cd ct) ⟨us, []⟩ = pure ((["hand"] : List Str).zip us) := match us, h with | [_], _ => rfl
theorem bd__law_atom (kV dc pm : Value) (an : Option Addr) (cd ct : Value) (us : List Value) (h : us.length = (["hand", "words", "worths"] : List Str).length) : bindArgs (PySem.W.fnOf "_law_atom" "_law_atom" (defArgs st__law_atom) (defBody st__law_atom) (defScope st__law_atom) .none kV dc pm an cd ct) ⟨us, []⟩ = pure ((["hand", "words", "worths"] : List Str).zip us) := match us, h with | [_, _, _], _ => rfl
theorem bd__law_expression (kV dc pm : Value) (an : Option Addr) (cd ct : Value) (us : List Value) (h : us.length = (["hand", "words", "worths", "room", "deep"] : List Str).length) : bindArgs (PySem.W.fnOf "_law_expression" "_law_expression" (defArgs st__law_expression) (defBody st__law_expression) (defScope st__law_expression) .none kV dc pm an cd ct) ⟨us, []⟩ = pure ((["hand", "words", "worths", "room", "deep"] : List Str).zip us) := match us, h with | [_, _, _, _, _], _ => rfl
theorem bd__law_is (kV dc pm : Value) (an : Option Addr) (cd ct : Value) (us : List Value) (h : us.length = (["told", "due"] : List Str).length) : bindArgs (PySem.W.fnOf "_law_is" "_law_is" (defArgs st__law_is) (defBody st__law_is) (defScope st__law_is) .none kV dc pm an cd ct) ⟨us, []⟩ = pure ((["told", "due"] : List Str).zip us) := match us, h with | [_, _], _ => rfl
theorem bd__law_parts (kV dc pm : Value) (an : Option Addr) (cd ct : Value) (us : List Value) (h : us.length = (["thing"] : List Str).length) : bindArgs (PySem.W.fnOf "_law_parts" "_law_parts" (defArgs st__law_parts) (defBody st__law_parts) (defScope st__law_parts) .none kV dc pm an cd ct) ⟨us, []⟩ = pure ((["thing"] : List Str).zip us) := match us, h with | [_], _ => rfl
theorem bd__law_is_whole (kV dc pm : Value) (an : Option Addr) (cd ct : Value) (us : List Value) (h : us.length = (["thing", "least", "most"] : List Str).length) : bindArgs (PySem.W.fnOf "_law_is_whole" "_law_is_whole" (defArgs st__law_is_whole) (defBody st__law_is_whole) (defScope st__law_is_whole) .none kV dc pm an cd ct) ⟨us, []⟩ = pure ((["thing", "least", "most"] : List Str).zip us) := match us, h with | [_, _, _], _ => rfl
theorem bd__law_is_word (kV dc pm : Value) (an : Option Addr) (cd ct : Value) (us : List Value) (h : us.length = (["thing"] : List Str).length) : bindArgs (PySem.W.fnOf "_law_is_word" "_law_is_word" (defArgs st__law_is_word) (defBody st__law_is_word) (defScope st__law_is_word) .none kV dc pm an cd ct) ⟨us, []⟩ = pure ((["thing"] : List Str).zip us) := match us, h with | [_], _ => rfl
theorem bd__law_is_lone (kV dc pm : Value) (an : Option Addr) (cd ct : Value) (us : List Value) (h : us.length = (["thing"] : List Str).length) : bindArgs (PySem.W.fnOf "_law_is_lone" "_law_is_lone" (defArgs st__law_is_lone) (defBody st__law_is_lone) (defScope st__law_is_lone) .none kV dc pm an cd ct) ⟨us, []⟩ = pure ((["thing"] : List Str).zip us) := match us, h with | [_], _ => rfl
theorem bd__law_sizes (kV dc pm : Value) (an : Option Addr) (cd ct : Value) (us : List Value) (h : us.length = (["thing"] : List Str).length) : bindArgs (PySem.W.fnOf "_law_sizes" "_law_sizes" (defArgs st__law_sizes) (defBody st__law_sizes) (defScope st__law_sizes) .none kV dc pm an cd ct) ⟨us, []⟩ = pure ((["thing"] : List Str).zip us) := match us, h with | [_], _ => rfl
theorem bd__law_tower (kV dc pm : Value) (an : Option Addr) (cd ct : Value) (us : List Value) (h : us.length = (["hand", "thing", "many"] : List Str).length) : bindArgs (PySem.W.fnOf "_law_tower" "_law_tower" (defArgs st__law_tower) (defBody st__law_tower) (defScope st__law_tower) .none kV dc pm an cd ct) ⟨us, []⟩ = pure ((["hand", "thing", "many"] : List Str).zip us) := match us, h with | [_, _, _], _ => rfl
theorem bd__law_row (kV dc pm : Value) (an : Option Addr) (cd ct : Value) (us : List Value) (h : us.length = (["hand", "word", "atom", "many"] : List Str).length) : bindArgs (PySem.W.fnOf "_law_row" "_law_row" (defArgs st__law_row) (defBody st__law_row) (defScope st__law_row) .none kV dc pm an cd ct) ⟨us, []⟩ = pure ((["hand", "word", "atom", "many"] : List Str).zip us) := match us, h with | [_, _, _, _], _ => rfl
theorem bd__law_at_bounds (kV dc pm : Value) (an : Option Addr) (cd ct : Value) (us : List Value) (h : us.length = (["hand", "atom"] : List Str).length) : bindArgs (PySem.W.fnOf "_law_at_bounds" "_law_at_bounds" (defArgs st__law_at_bounds) (defBody st__law_at_bounds) (defScope st__law_at_bounds) .none kV dc pm an cd ct) ⟨us, []⟩ = pure ((["hand", "atom"] : List Str).zip us) := match us, h with | [_, _], _ => rfl
theorem bd__law_odd (kV dc pm : Value) (an : Option Addr) (cd ct : Value) (us : List Value) (h : us.length = (["hand", "thing"] : List Str).length) : bindArgs (PySem.W.fnOf "_law_odd" "_law_odd" (defArgs st__law_odd) (defBody st__law_odd) (defScope st__law_odd) .none kV dc pm an cd ct) ⟨us, []⟩ = pure ((["hand", "thing"] : List Str).zip us) := match us, h with | [_, _], _ => rfl
theorem bd__law_bent (kV dc pm : Value) (an : Option Addr) (cd ct : Value) (us : List Value) (h : us.length = (["hand", "thing", "deep"] : List Str).length) : bindArgs (PySem.W.fnOf "_law_bent" "_law_bent" (defArgs st__law_bent) (defBody st__law_bent) (defScope st__law_bent) .none kV dc pm an cd ct) ⟨us, []⟩ = pure ((["hand", "thing", "deep"] : List Str).zip us) := match us, h with | [_, _, _], _ => rfl
theorem bd__law_back (kV dc pm : Value) (an : Option Addr) (cd ct : Value) (us : List Value) (h : us.length = (["thing"] : List Str).length) : bindArgs (PySem.W.fnOf "_law_back" "_law_back" (defArgs st__law_back) (defBody st__law_back) (defScope st__law_back) .none kV dc pm an cd ct) ⟨us, []⟩ = pure ((["thing"] : List Str).zip us) := match us, h with | [_], _ => rfl
theorem bd__law_told (kV dc pm : Value) (an : Option Addr) (cd ct : Value) (us : List Value) (h : us.length = (["which", "thing"] : List Str).length) : bindArgs (PySem.W.fnOf "_law_told" "_law_told" (defArgs st__law_told) (defBody st__law_told) (defScope st__law_told) .none kV dc pm an cd ct) ⟨us, []⟩ = pure ((["which", "thing"] : List Str).zip us) := match us, h with | [_, _], _ => rfl
theorem bd__law_is_right (kV dc pm : Value) (an : Option Addr) (cd ct : Value) (us : List Value) (h : us.length = (["thing"] : List Str).length) : bindArgs (PySem.W.fnOf "_law_is_right" "_law_is_right" (defArgs st__law_is_right) (defBody st__law_is_right) (defScope st__law_is_right) .none kV dc pm an cd ct) ⟨us, []⟩ = pure ((["thing"] : List Str).zip us) := match us, h with | [_], _ => rfl
theorem bd_law (kV dc pm : Value) (an : Option Addr) (cd ct : Value) (us : List Value) (h : us.length = (["script"] : List Str).length) : bindArgs (PySem.W.fnOf "law" "law" (defArgs st_law) (defBody st_law) (defScope st_law) .none kV dc pm an cd ct) ⟨us, []⟩ = pure ((["script"] : List Str).zip us) := match us, h with | [_], _ => rfl
theorem cls_then {K : PySem.W.Frag} {h : Heap} {mg : Str → Option Value} {R : Prop} {C0 C1 C2 C3 : Addr} (X : K.In h) (G : h.Ns mainGlobals mg) (g0 : PySem.W.nsIn K mainGlobals "NoExpression" = some (some (.ref C0))) (g1 : PySem.W.nsIn K mainGlobals "StoreError" = some (some (.ref C1))) (g2 : PySem.W.nsIn K mainGlobals "NoPath" = some (some (.ref C2))) (g3 : PySem.W.nsIn K mainGlobals "BadSigns" = some (some (.ref C3))) (e0 : PySem.W.excIn K C0 [.type "ValueError", .type "Exception", .type "BaseException", .type "object"] "ValueError.__new__" = true) (kc0 : PySem.W.keepIn K (.ref C0) = true) (b0 : PySem.W.subIn K (.ref C0) (.type "BaseException") = some true) (t0 : PySem.W.typeIn K (.ref C0) = some (.type "type")) (x10 : PySem.W.findIn K (.ref C0) "__getattribute__" = some (some (.builtin "BaseException.__getattribute__"))) (x20 : PySem.W.findIn K (.ref C0) "__getattr__" = some none) (x40 : PySem.W.hasDictIn K C0 = true) (x50 : PySem.W.findIn K (.ref C0) "__class__" = some (some (.builtin "object.__class__"))) (x60 : PySem.W.specialIn K (.builtin "object.__class__") "__get__" = some (some (.builtin "getset_descriptor.__get__"))) (x70 : PySem.W.takesIn K (.builtin "object.__class__") = some true) (x80 : PySem.W.mroIn K C0 (.type "object") = some true) (s0_1 : PySem.W.subIn K (.ref C0) (.ref C1) = some true) (u0_1 : PySem.W.isClsIn K C1 = true) (v0_1 : PySem.W.typeIn K (.ref C1) = some (.type "type")) (s0_2 : PySem.W.subIn K (.ref C0) (.ref C2) = some false) (u0_2 : PySem.W.isClsIn K C2 = true) (v0_2 : PySem.W.typeIn K (.ref C2) = some (.type "type")) (w0_2 : C0 ≠ C2) (s0_3 : PySem.W.subIn K (.ref C0) (.ref C3) = some false) (u0_3 : PySem.W.isClsIn K C3 = true) (v0_3 : PySem.W.typeIn K (.ref C3) = some (.type "type")) (w0_3 : C0 ≠ C3) (m10_0 : PySem.W.subIn K (.ref C0) (.type "BaseException") = some true) (m20_0 : PySem.W.hasDictIn K C0 = true) (m30_0 : PySem.W.typeIn K (.ref C0) = some (.type "type")) (m40_0 : PySem.W.subIn K (.ref C0) (.ref C0) = some true) (r : ∀ cl, CTxt K mg cl → R) : R :=
  r (fun k => [C0, C1, C2, C3].getD k 0) ⟨PySem.W.mg_of X G g0, PySem.W.mg_of X G g1, PySem.W.mg_of X G g2, PySem.W.mg_of X G g3, e0, kc0, b0, t0, ⟨x10, x20, b0, x40, x50, x60, x70, x80⟩, kit_own s0_1 u0_1 v0_1 (fun z => by cases z), kit_own s0_2 u0_2 v0_2 (fun _ => w0_2), kit_own s0_3 u0_3 v0_3 (fun _ => w0_3), PySem.W.exm_ref m10_0 m20_0 m30_0 m40_0⟩
end K63
open PySem PySem.W PyProof.Rows
set_option maxRecDepth 100000 in
set_option maxHeartbeats 0 in
theorem PySem.Challenge.cw_waysinstep_k63_whole_expressions_judged_holds : PySem.Challenge.rw_waysinstep_k63_whole_expressions_judged.Holds := by
  w_on; o_law; k_head; (case hw => w_witness2)
  k_fill
  refine Sm.walk_G (l := PySem.Challenge.rw_waysinstep_k63_whole_expressions_judged) (n := 63) (k := 55) (x := "script") (sp := fun K cl => Sm.spM K cl 1 K63.m_law) rfl (by decide) rfl ⟨rfl, by decide, by decide⟩ (fun w h Y => PySem.W.kIn_of Y) ?F ?S
  case S =>
    exact fun K cl H ι a ns hl hb e hS => Sm.sp_law K63.law_true K cl H ι a ns hl hb e hS
  case F =>
    intro w mg fa h KX G hmg
    refine' Sm.df_then (x := "is_integer") (st := K63.st_is_integer) (ps := ["thing"]) KX G ?a0 ?l0 ?c0 ?k0 K63.bd_is_integer ?r0
    (case a0 => k_is)
    (case l0 => k_is)
    (case c0 => k_is)
    (case k0 => k_is)
    intro f0 fd0 D0
    refine' Sm.df_then (x := "is_within") (st := K63.st_is_within) (ps := ["thing", "least", "most"]) KX G ?a1 ?l1 ?c1 ?k1 K63.bd_is_within ?r1
    (case a1 => k_is)
    (case l1 => k_is)
    (case c1 => k_is)
    (case k1 => k_is)
    intro f1 fd1 D1
    refine' Sm.df_then (x := "is_worth") (st := K63.st_is_worth) (ps := ["thing"]) KX G ?a2 ?l2 ?c2 ?k2 K63.bd_is_worth ?r2
    (case a2 => k_is)
    (case l2 => k_is)
    (case c2 => k_is)
    (case k2 => k_is)
    intro f2 fd2 D2
    refine' Sm.df_then (x := "are_letters") (st := K63.st_are_letters) (ps := ["thing", "many"]) KX G ?a3 ?l3 ?c3 ?k3 K63.bd_are_letters ?r3
    (case a3 => k_is)
    (case l3 => k_is)
    (case c3 => k_is)
    (case k3 => k_is)
    intro f3 fd3 D3
    refine' Sm.df_then (x := "is_word") (st := K63.st_is_word) (ps := ["thing"]) KX G ?a4 ?l4 ?c4 ?k4 K63.bd_is_word ?r4
    (case a4 => k_is)
    (case l4 => k_is)
    (case c4 => k_is)
    (case k4 => k_is)
    intro f4 fd4 D4
    refine' Sm.df_then (x := "is_atom") (st := K63.st_is_atom) (ps := ["thing"]) KX G ?a5 ?l5 ?c5 ?k5 K63.bd_is_atom ?r5
    (case a5 => k_is)
    (case l5 => k_is)
    (case c5 => k_is)
    (case k5 => k_is)
    intro f5 fd5 D5
    refine' Sm.df_then (x := "parts_of") (st := K63.st_parts_of) (ps := ["thing"]) KX G ?a6 ?l6 ?c6 ?k6 K63.bd_parts_of ?r6
    (case a6 => k_is)
    (case l6 => k_is)
    (case c6 => k_is)
    (case k6 => k_is)
    intro f6 fd6 D6
    refine' Sm.df_then (x := "is_kind") (st := K63.st_is_kind) (ps := ["thing"]) KX G ?a7 ?l7 ?c7 ?k7 K63.bd_is_kind ?r7
    (case a7 => k_is)
    (case l7 => k_is)
    (case c7 => k_is)
    (case k7 => k_is)
    intro f7 fd7 D7
    refine' Sm.df_then (x := "is_sign") (st := K63.st_is_sign) (ps := ["thing"]) KX G ?a8 ?l8 ?c8 ?k8 K63.bd_is_sign ?r8
    (case a8 => k_is)
    (case l8 => k_is)
    (case c8 => k_is)
    (case k8 => k_is)
    intro f8 fd8 D8
    refine' Sm.df_then (x := "size_within") (st := K63.st_size_within) (ps := ["thing", "deep"]) KX G ?a9 ?l9 ?c9 ?k9 K63.bd_size_within ?r9
    (case a9 => k_is)
    (case l9 => k_is)
    (case c9 => k_is)
    (case k9 => k_is)
    intro f9 fd9 D9
    refine' Sm.df_then (x := "size_of") (st := K63.st_size_of) (ps := ["thing"]) KX G ?a10 ?l10 ?c10 ?k10 K63.bd_size_of ?r10
    (case a10 => k_is)
    (case l10 => k_is)
    (case c10 => k_is)
    (case k10 => k_is)
    intro f10 fd10 D10
    refine' Sm.df_then (x := "is_expression") (st := K63.st_is_expression) (ps := ["thing"]) KX G ?a11 ?l11 ?c11 ?k11 K63.bd_is_expression ?r11
    (case a11 => k_is)
    (case l11 => k_is)
    (case c11 => k_is)
    (case k11 => k_is)
    intro f11 fd11 D11
    refine' Sm.df_then (x := "check_expression") (st := K63.st_check_expression) (ps := ["thing"]) KX G ?a12 ?l12 ?c12 ?k12 K63.bd_check_expression ?r12
    (case a12 => k_is)
    (case l12 => k_is)
    (case c12 => k_is)
    (case k12 => k_is)
    intro f12 fd12 D12
    refine' Sm.df_then (x := "size") (st := K63.st_size) (ps := ["expression"]) KX G ?a13 ?l13 ?c13 ?k13 K63.bd_size ?r13
    (case a13 => k_is)
    (case l13 => k_is)
    (case c13 => k_is)
    (case k13 => k_is)
    intro f13 fd13 D13
    refine' Sm.df_then (x := "turned_of") (st := K63.st_turned_of) (ps := ["thing"]) KX G ?a14 ?l14 ?c14 ?k14 K63.bd_turned_of ?r14
    (case a14 => k_is)
    (case l14 => k_is)
    (case c14 => k_is)
    (case k14 => k_is)
    intro f14 fd14 D14
    refine' Sm.df_then (x := "turned_expression") (st := K63.st_turned_expression) (ps := ["expression"]) KX G ?a15 ?l15 ?c15 ?k15 K63.bd_turned_expression ?r15
    (case a15 => k_is)
    (case l15 => k_is)
    (case c15 => k_is)
    (case k15 => k_is)
    intro f15 fd15 D15
    refine' Sm.df_then (x := "_law_mixed") (st := K63.st__law_mixed) (ps := ["cell", "turn"]) KX G ?a16 ?l16 ?c16 ?k16 K63.bd__law_mixed ?r16
    (case a16 => k_is)
    (case l16 => k_is)
    (case c16 => k_is)
    (case k16 => k_is)
    intro f16 fd16 D16
    refine' Sm.df_then (x := "_law_hand") (st := K63.st__law_hand) (ps := ["script"]) KX G ?a17 ?l17 ?c17 ?k17 K63.bd__law_hand ?r17
    (case a17 => k_is)
    (case l17 => k_is)
    (case c17 => k_is)
    (case k17 => k_is)
    intro f17 fd17 D17
    refine' Sm.df_then (x := "_law_draw") (st := K63.st__law_draw) (ps := ["hand", "many"]) KX G ?a18 ?l18 ?c18 ?k18 K63.bd__law_draw ?r18
    (case a18 => k_is)
    (case l18 => k_is)
    (case c18 => k_is)
    (case k18 => k_is)
    intro f18 fd18 D18
    refine' Sm.df_then (x := "_law_letters") (st := K63.st__law_letters) (ps := ["hand", "many"]) KX G ?a19 ?l19 ?c19 ?k19 K63.bd__law_letters ?r19
    (case a19 => k_is)
    (case l19 => k_is)
    (case c19 => k_is)
    (case k19 => k_is)
    intro f19 fd19 D19
    refine' Sm.df_then (x := "_law_words") (st := K63.st__law_words) (ps := ["hand"]) KX G ?a20 ?l20 ?c20 ?k20 K63.bd__law_words ?r20
    (case a20 => k_is)
    (case l20 => k_is)
    (case c20 => k_is)
    (case k20 => k_is)
    intro f20 fd20 D20
    refine' Sm.df_then (x := "_law_worths") (st := K63.st__law_worths) (ps := ["hand"]) KX G ?a21 ?l21 ?c21 ?k21 K63.bd__law_worths ?r21
    (case a21 => k_is)
    (case l21 => k_is)
    (case c21 => k_is)
    (case k21 => k_is)
    intro f21 fd21 D21
    refine' Sm.df_then (x := "_law_atom") (st := K63.st__law_atom) (ps := ["hand", "words", "worths"]) KX G ?a22 ?l22 ?c22 ?k22 K63.bd__law_atom ?r22
    (case a22 => k_is)
    (case l22 => k_is)
    (case c22 => k_is)
    (case k22 => k_is)
    intro f22 fd22 D22
    refine' Sm.df_then (x := "_law_expression") (st := K63.st__law_expression) (ps := ["hand", "words", "worths", "room", "deep"]) KX G ?a23 ?l23 ?c23 ?k23 K63.bd__law_expression ?r23
    (case a23 => k_is)
    (case l23 => k_is)
    (case c23 => k_is)
    (case k23 => k_is)
    intro f23 fd23 D23
    refine' Sm.df_then (x := "_law_is") (st := K63.st__law_is) (ps := ["told", "due"]) KX G ?a24 ?l24 ?c24 ?k24 K63.bd__law_is ?r24
    (case a24 => k_is)
    (case l24 => k_is)
    (case c24 => k_is)
    (case k24 => k_is)
    intro f24 fd24 D24
    refine' Sm.df_then (x := "_law_parts") (st := K63.st__law_parts) (ps := ["thing"]) KX G ?a25 ?l25 ?c25 ?k25 K63.bd__law_parts ?r25
    (case a25 => k_is)
    (case l25 => k_is)
    (case c25 => k_is)
    (case k25 => k_is)
    intro f25 fd25 D25
    refine' Sm.df_then (x := "_law_is_whole") (st := K63.st__law_is_whole) (ps := ["thing", "least", "most"]) KX G ?a26 ?l26 ?c26 ?k26 K63.bd__law_is_whole ?r26
    (case a26 => k_is)
    (case l26 => k_is)
    (case c26 => k_is)
    (case k26 => k_is)
    intro f26 fd26 D26
    refine' Sm.df_then (x := "_law_is_word") (st := K63.st__law_is_word) (ps := ["thing"]) KX G ?a27 ?l27 ?c27 ?k27 K63.bd__law_is_word ?r27
    (case a27 => k_is)
    (case l27 => k_is)
    (case c27 => k_is)
    (case k27 => k_is)
    intro f27 fd27 D27
    refine' Sm.df_then (x := "_law_is_lone") (st := K63.st__law_is_lone) (ps := ["thing"]) KX G ?a28 ?l28 ?c28 ?k28 K63.bd__law_is_lone ?r28
    (case a28 => k_is)
    (case l28 => k_is)
    (case c28 => k_is)
    (case k28 => k_is)
    intro f28 fd28 D28
    refine' Sm.df_then (x := "_law_sizes") (st := K63.st__law_sizes) (ps := ["thing"]) KX G ?a29 ?l29 ?c29 ?k29 K63.bd__law_sizes ?r29
    (case a29 => k_is)
    (case l29 => k_is)
    (case c29 => k_is)
    (case k29 => k_is)
    intro f29 fd29 D29
    refine' Sm.df_then (x := "_law_tower") (st := K63.st__law_tower) (ps := ["hand", "thing", "many"]) KX G ?a30 ?l30 ?c30 ?k30 K63.bd__law_tower ?r30
    (case a30 => k_is)
    (case l30 => k_is)
    (case c30 => k_is)
    (case k30 => k_is)
    intro f30 fd30 D30
    refine' Sm.df_then (x := "_law_row") (st := K63.st__law_row) (ps := ["hand", "word", "atom", "many"]) KX G ?a31 ?l31 ?c31 ?k31 K63.bd__law_row ?r31
    (case a31 => k_is)
    (case l31 => k_is)
    (case c31 => k_is)
    (case k31 => k_is)
    intro f31 fd31 D31
    refine' Sm.df_then (x := "_law_at_bounds") (st := K63.st__law_at_bounds) (ps := ["hand", "atom"]) KX G ?a32 ?l32 ?c32 ?k32 K63.bd__law_at_bounds ?r32
    (case a32 => k_is)
    (case l32 => k_is)
    (case c32 => k_is)
    (case k32 => k_is)
    intro f32 fd32 D32
    refine' Sm.df_then (x := "_law_odd") (st := K63.st__law_odd) (ps := ["hand", "thing"]) KX G ?a33 ?l33 ?c33 ?k33 K63.bd__law_odd ?r33
    (case a33 => k_is)
    (case l33 => k_is)
    (case c33 => k_is)
    (case k33 => k_is)
    intro f33 fd33 D33
    refine' Sm.df_then (x := "_law_bent") (st := K63.st__law_bent) (ps := ["hand", "thing", "deep"]) KX G ?a34 ?l34 ?c34 ?k34 K63.bd__law_bent ?r34
    (case a34 => k_is)
    (case l34 => k_is)
    (case c34 => k_is)
    (case k34 => k_is)
    intro f34 fd34 D34
    refine' Sm.df_then (x := "_law_back") (st := K63.st__law_back) (ps := ["thing"]) KX G ?a35 ?l35 ?c35 ?k35 K63.bd__law_back ?r35
    (case a35 => k_is)
    (case l35 => k_is)
    (case c35 => k_is)
    (case k35 => k_is)
    intro f35 fd35 D35
    refine' Sm.df_then (x := "_law_told") (st := K63.st__law_told) (ps := ["which", "thing"]) KX G ?a36 ?l36 ?c36 ?k36 K63.bd__law_told ?r36
    (case a36 => k_is)
    (case l36 => k_is)
    (case c36 => k_is)
    (case k36 => k_is)
    intro f36 fd36 D36
    refine' Sm.df_then (x := "_law_is_right") (st := K63.st__law_is_right) (ps := ["thing"]) KX G ?a37 ?l37 ?c37 ?k37 K63.bd__law_is_right ?r37
    (case a37 => k_is)
    (case l37 => k_is)
    (case c37 => k_is)
    (case k37 => k_is)
    intro f37 fd37 D37
    refine' Sm.df_then (x := "law") (st := K63.st_law) (ps := ["script"]) KX G ?a38 ?l38 ?c38 ?k38 K63.bd_law ?r38
    (case a38 => k_is)
    (case l38 => k_is)
    (case c38 => k_is)
    (case k38 => k_is)
    intro f38 fd38 D38
    refine' Sm.str_then (x := "LETTERS") (i := "abcdefghijklmnopqrstuvwxyz") KX G ?ca0 ?cr0
    (case ca0 => k_is)
    intro t0 c0
    refine' Sm.int_then (x := "MOST_WORTH") (i := 1000000000000000000) KX G ?ca1 ?cr1
    (case ca1 => k_is)
    intro t1 c1
    refine' Sm.int_then (x := "WORD_LETTERS") (i := 2) KX G ?ca2 ?cr2
    (case ca2 => k_is)
    intro t2 c2
    refine' Sm.int_then (x := "MOST_DEEP") (i := 30) KX G ?ca3 ?cr3
    (case ca3 => k_is)
    intro t3 c3
    refine' Sm.int_then (x := "MOST_SIZE") (i := 300) KX G ?ca4 ?cr4
    (case ca4 => k_is)
    intro t4 c4
    refine' Sm.int_then (x := "MOST_TIMES") (i := 9) KX G ?ca5 ?cr5
    (case ca5 => k_is)
    intro t5 c5
    refine' Sm.tup_then (x := "SIGNS") (xs := [.str "<", .str "=", .str ">"]) (ds := [.str "<", .str "=", .str ">"]) KX G ?ca6 ?cl6 ?cz6 ?cv6 (fun _ _ => .cons (.str _) (.cons (.str _) (.cons (.str _) (.nil)))) ?cr6
    (case ca6 => k_is); (case cl6 => k_is); (case cz6 => exact (by decide)); (case cv6 => exact .cons ⟨_, rfl⟩ (.cons ⟨_, rfl⟩ (.cons ⟨_, rfl⟩ (.nil))))
    intro t6 c6 k6
    refine' Sm.tup_then (x := "ALONE") (xs := [.str "any", .str "here"]) (ds := [.str "any", .str "here"]) KX G ?ca7 ?cl7 ?cz7 ?cv7 (fun _ _ => .cons (.str _) (.cons (.str _) (.nil))) ?cr7
    (case ca7 => k_is); (case cl7 => k_is); (case cz7 => exact (by decide)); (case cv7 => exact .cons ⟨_, rfl⟩ (.cons ⟨_, rfl⟩ (.nil)))
    intro t7 c7 k7
    refine' Sm.tup_then (x := "NAMED") (xs := [.str "word", .str "back"]) (ds := [.str "word", .str "back"]) KX G ?ca8 ?cl8 ?cz8 ?cv8 (fun _ _ => .cons (.str _) (.cons (.str _) (.nil))) ?cr8
    (case ca8 => k_is); (case cl8 => k_is); (case cz8 => exact (by decide)); (case cv8 => exact .cons ⟨_, rfl⟩ (.cons ⟨_, rfl⟩ (.nil)))
    intro t8 c8 k8
    refine' Sm.tup_then (x := "PAIRED") (xs := [.str "then", .str "or"]) (ds := [.str "then", .str "or"]) KX G ?ca9 ?cl9 ?cz9 ?cv9 (fun _ _ => .cons (.str _) (.cons (.str _) (.nil))) ?cr9
    (case ca9 => k_is); (case cl9 => k_is); (case cz9 => exact (by decide)); (case cv9 => exact .cons ⟨_, rfl⟩ (.cons ⟨_, rfl⟩ (.nil)))
    intro t9 c9 k9
    refine' Sm.tup_then (x := "LONE") (xs := [.str "star", .str "plus", .str "maybe"]) (ds := [.str "star", .str "plus", .str "maybe"]) KX G ?ca10 ?cl10 ?cz10 ?cv10 (fun _ _ => .cons (.str _) (.cons (.str _) (.cons (.str _) (.nil)))) ?cr10
    (case ca10 => k_is); (case cl10 => k_is); (case cz10 => exact (by decide)); (case cv10 => exact .cons ⟨_, rfl⟩ (.cons ⟨_, rfl⟩ (.cons ⟨_, rfl⟩ (.nil))))
    intro t10 c10 k10
    refine' K63.cls_then KX G ?hh_g0 ?hh_g1 ?hh_g2 ?hh_g3 ?hh_e0 ?hh_kc0 ?hh_b0 ?hh_t0 ?hh_x10 ?hh_x20 ?hh_x40 ?hh_x50 ?hh_x60 ?hh_x70 ?hh_x80 ?hh_s0_1 ?hh_u0_1 ?hh_v0_1 ?hh_s0_2 ?hh_u0_2 ?hh_v0_2 ?hh_w0_2 ?hh_s0_3 ?hh_u0_3 ?hh_v0_3 ?hh_w0_3 ?hh_m10_0 ?hh_m20_0 ?hh_m30_0 ?hh_m40_0 ?hh_R
    (case hh_g0 => k_is)
    (case hh_g1 => k_is)
    (case hh_g2 => k_is)
    (case hh_g3 => k_is)
    (case hh_e0 => k_exc)
    (case hh_kc0 => k_is)
    (case hh_b0 => k_is)
    (case hh_t0 => k_is)
    (case hh_x10 => k_is)
    (case hh_x20 => k_is)
    (case hh_x40 => k_is)
    (case hh_x50 => k_is)
    (case hh_x60 => k_is)
    (case hh_x70 => k_is)
    (case hh_x80 => k_is)
    (case hh_s0_1 => k_is)
    (case hh_u0_1 => k_is)
    (case hh_v0_1 => k_is)
    (case hh_s0_2 => k_is)
    (case hh_u0_2 => k_is)
    (case hh_v0_2 => k_is)
    (case hh_w0_2 => decide)
    (case hh_s0_3 => k_is)
    (case hh_u0_3 => k_is)
    (case hh_v0_3 => k_is)
    (case hh_w0_3 => decide)
    (case hh_m10_0 => k_is)
    (case hh_m20_0 => k_is)
    (case hh_m30_0 => k_is)
    (case hh_m40_0 => k_is)
    intro cl CT
    have n_abs : mg "abs" = none := by
      refine' Sm.free_of KX G ?z
      (case z => k_is)
    have n_all : mg "all" = none := by
      refine' Sm.free_of KX G ?z
      (case z => k_is)
    have n_bool : mg "bool" = none := by
      refine' Sm.free_of KX G ?z
      (case z => k_is)
    have n_int : mg "int" = none := by
      refine' Sm.free_of KX G ?z
      (case z => k_is)
    have n_isinstance : mg "isinstance" = none := by
      refine' Sm.free_of KX G ?z
      (case z => k_is)
    have n_len : mg "len" = none := by
      refine' Sm.free_of KX G ?z
      (case z => k_is)
    have n_list : mg "list" = none := by
      refine' Sm.free_of KX G ?z
      (case z => k_is)
    have n_max : mg "max" = none := by
      refine' Sm.free_of KX G ?z
      (case z => k_is)
    have n_min : mg "min" = none := by
      refine' Sm.free_of KX G ?z
      (case z => k_is)
    have n_range : mg "range" = none := by
      refine' Sm.free_of KX G ?z
      (case z => k_is)
    have n_repr : mg "repr" = none := by
      refine' Sm.free_of KX G ?z
      (case z => k_is)
    have n_str : mg "str" = none := by
      refine' Sm.free_of KX G ?z
      (case z => k_is)
    have n_sum : mg "sum" = none := by
      refine' Sm.free_of KX G ?z
      (case z => k_is)
    have n_tuple : mg "tuple" = none := by
      refine' Sm.free_of KX G ?z
      (case z => k_is)
    have T : K63.Txt _ mg cl (fun k => [f0, f1, f2, f3, f4, f5, f6, f7, f8, f9, f10, f11, f12, f13, f14, f15, f16, f17, f18, f19, f20, f21, f22, f23, f24, f25, f26, f27, f28, f29, f30, f31, f32, f33, f34, f35, f36, f37, f38].getD k 0) (fun k => [0, 0, 0, 0, 0, 0, t6, t7, t8, t9, t10].getD k 0) (fun k => [t0, t1, t2, t3, t4, t5, 0, 0, 0, 0, 0].getD k 0) (fun k => [fd0, fd1, fd2, fd3, fd4, fd5, fd6, fd7, fd8, fd9, fd10, fd11, fd12, fd13, fd14, fd15, fd16, fd17, fd18, fd19, fd20, fd21, fd22, fd23, fd24, fd25, fd26, fd27, fd28, fd29, fd30, fd31, fd32, fd33, fd34, fd35, fd36, fd37, fd38].getD k fd0) := { CT with d_is_integer := D0, d_is_within := D1, d_is_worth := D2, d_are_letters := D3, d_is_word := D4, d_is_atom := D5, d_parts_of := D6, d_is_kind := D7, d_is_sign := D8, d_size_within := D9, d_size_of := D10, d_is_expression := D11, d_check_expression := D12, d_size := D13, d_turned_of := D14, d_turned_expression := D15, d__law_mixed := D16, d__law_hand := D17, d__law_draw := D18, d__law_letters := D19, d__law_words := D20, d__law_worths := D21, d__law_atom := D22, d__law_expression := D23, d__law_is := D24, d__law_parts := D25, d__law_is_whole := D26, d__law_is_word := D27, d__law_is_lone := D28, d__law_sizes := D29, d__law_tower := D30, d__law_row := D31, d__law_at_bounds := D32, d__law_odd := D33, d__law_bent := D34, d__law_back := D35, d__law_told := D36, d__law_is_right := D37, d_law := D38, n_abs := n_abs, n_all := n_all, n_bool := n_bool, n_int := n_int, n_isinstance := n_isinstance, n_len := n_len, n_list := n_list, n_max := n_max, n_min := n_min, n_range := n_range, n_repr := n_repr, n_str := n_str, n_sum := n_sum, n_tuple := n_tuple, c_LETTERS := c0, c_MOST_WORTH := c1, c_WORD_LETTERS := c2, c_MOST_DEEP := c3, c_MOST_SIZE := c4, c_MOST_TIMES := c5, c_SIGNS := c6, c_ALONE := c7, c_NAMED := c8, c_PAIRED := c9, c_LONE := c10, k_SIGNS := k6, k_ALONE := k7, k_NAMED := k8, k_PAIRED := k9, k_LONE := k10 }
    have ef := hmg.symm.trans D38.gl
    cases ef
    exact ⟨cl, _, fun s u => D38.bt s [u] rfl, fun base _ _ => K63.ok_law T⟩

