import PyProof.Rows.All
import Wide.All
import OpenK.AllK
import Wide.FinOn
import HandS.ForMost
import HandS.Exc
import HandS.ExcOwn
import HandS.TryOnly
import HandS.WordsExc
import HandS.IsInst
import HandS.ExcIs
import HandS.Style
import HandS.Wide
import HandS.Deep
import HandS.TupAny
import HandS.EndBits
import HandS.Text
import PySem.Challenge.RW_hushduel_k08_sides_exchanged
set_option Elab.async false
set_option linter.all false
set_option maxRecDepth 100000
set_option maxHeartbeats 4000000
/-! DLa: data without the heap, and how the heap bears it -/
namespace DL
open PySem L2
/-! ### 1. words -/
/-- the classes of refusal -/
inductive EC | DuelError | NoNumber | NoText | TooGreat | NoPlan | NoWord | NoPlace | NoName | NoRow | NoShares | Unlike | Forgets
  deriving DecidableEq
structure Exn where
  c : EC
  fs : List (Str × PyData) := []
inductive Slot where
  | val (d : PyData) | own (d : PyData) | bor (d : PyData) | lent (d : PyData) | exn (x : Exn)
abbrev DEnv := List (Option Slot)
inductive Res (α : Type) where
  | ok (a : α) | exc (x : Exn) | stuck
inductive Out where
  | nx (δ : DEnv) | rt (s : Slot) | rm (s : Slot) (d : PyData) | bk (δ : DEnv) | ct (δ : DEnv) | ex (x : Exn) (δ : DEnv) | stuck
def Res.bind {α β : Type} (r : Res α) (f : α → Res β) : Res β := match r with
  | .ok a => f a
  | .exc x => .exc x
  | .stuck => .stuck
theorem bind_ok {α β : Type} (a : α) (f : α → Res β) : (Res.ok a).bind f = f a := rfl
theorem bind_exc {α β : Type} (x : Exn) (f : α → Res β) : (Res.exc x : Res α).bind f = .exc x := rfl
theorem bind_stuck {α β : Type} (f : α → Res β) : (Res.stuck : Res α).bind f = .stuck := rfl
/-! ### 2. how a heap bears data -/
def keyD : Key → PyData
  | .inl i => .int i
  | .inr s => .str s
def tkeyD (k : List Key) : PyData := .tuple (k.map keyD)
mutual
inductive Rep (K : PySem.W.Frag) (G : Hp) : V → PyData → Prop
  | non : Rep K G .non .none
  | bl (b : Bool) : Rep K G (.bl b) (.bool b)
  | int (i : Int) : Rep K G (.int i) (.int i)
  | str (x : Str) : Rep K G (.str x) (.str x)
  | lst {a : Addr} {xs : List V} {ds : List PyData} : SqL K G a xs → RepL K G xs ds → Rep K G (.ref a) (.list ds)
  | tup {a : Addr} {xs : List V} {ds : List PyData} : SqT K G a xs → RepL K G xs ds → Rep K G (.ref a) (.tuple ds)
  | dk {a : Addr} {l : List (Key × V)} {ds : List (PyData × PyData)} : G a = some (.dK l) → RepK K G l ds → Rep K G (.ref a) (.dict ds)
  | dt {a : Addr} {l : List (List Key × V)} {ds : List (PyData × PyData)} : G a = some (.dT l) → RepT K G l ds → Rep K G (.ref a) (.dict ds)
inductive RepL (K : PySem.W.Frag) (G : Hp) : List V → List PyData → Prop
  | nil : RepL K G [] []
  | cons {v : V} {vs : List V} {d : PyData} {ds : List PyData} : Rep K G v d → RepL K G vs ds → RepL K G (v :: vs) (d :: ds)
inductive RepK (K : PySem.W.Frag) (G : Hp) : List (Key × V) → List (PyData × PyData) → Prop
  | nil : RepK K G [] []
  | cons {k : Key} {v : V} {vs : List (Key × V)} {d : PyData} {ds : List (PyData × PyData)} : Rep K G v d → RepK K G vs ds → RepK K G ((k, v) :: vs) ((keyD k, d) :: ds)
inductive RepT (K : PySem.W.Frag) (G : Hp) : List (List Key × V) → List (PyData × PyData) → Prop
  | nil : RepT K G [] []
  | cons {k : List Key} {v : V} {vs : List (List Key × V)} {d : PyData} {ds : List (PyData × PyData)} : Rep K G v d → RepT K G vs ds → RepT K G ((k, v) :: vs) ((tkeyD k, d) :: ds)
end
section
variable {K : PySem.W.Frag} {G G' : Hp}
theorem rd_mono (s : Same G G') {a : Addr} {o : HO} (h : Rd G a o) : Rd G' a o := by
  rcases h with h | ⟨u, h⟩
  · exact .inl (s _ _ h)
  · exact .inr ⟨u, s _ _ h⟩
theorem sqL_mono (s : Same G G') {a : Addr} {xs : List V} (h : SqL K G a xs) : SqL K G' a xs := by
  rcases h with h | h
  · exact .inl (rd_mono s h)
  · exact .inr h
theorem sqT_mono (s : Same G G') {a : Addr} {xs : List V} (h : SqT K G a xs) : SqT K G' a xs := by
  rcases h with h | h
  · exact .inl (rd_mono s h)
  · exact .inr h
mutual
theorem Rep.mono (s : Same G G') : ∀ {d : PyData} {v : V}, Rep K G v d → Rep K G' v d
  | .none, _, .non => .non
  | .bool _, _, .bl b => .bl b
  | .int _, _, .int i => .int i
  | .str _, _, .str x => .str x
  | .list _, _, .lst h r => .lst (sqL_mono s h) (RepL.mono s r)
  | .tuple _, _, .tup h r => .tup (sqT_mono s h) (RepL.mono s r)
  | .dict _, _, .dk h r => .dk (s _ _ h) (RepK.mono s r)
  | .dict _, _, .dt h r => .dt (s _ _ h) (RepT.mono s r)
theorem RepL.mono (s : Same G G') : ∀ {ds : List PyData} {vs : List V}, RepL K G vs ds → RepL K G' vs ds
  | [], _, .nil => .nil
  | _ :: _, _, .cons h r => .cons (Rep.mono s h) (RepL.mono s r)
theorem RepK.mono (s : Same G G') : ∀ {ds : List (PyData × PyData)} {vs : List (Key × V)}, RepK K G vs ds → RepK K G' vs ds
  | [], _, .nil => .nil
  | _ :: _, _, .cons h r => .cons (Rep.mono s h) (RepK.mono s r)
theorem RepT.mono (s : Same G G') : ∀ {ds : List (PyData × PyData)} {vs : List (List Key × V)}, RepT K G vs ds → RepT K G' vs ds
  | [], _, .nil => .nil
  | _ :: _, _, .cons h r => .cons (Rep.mono s h) (RepT.mono s r)
end
theorem RepL.length : ∀ {ds : List PyData} {vs : List V}, RepL K G vs ds → vs.length = ds.length
  | [], _, .nil => rfl
  | _ :: _, _, .cons _ r => by rw [List.length_cons, List.length_cons, r.length]
theorem RepL.get : ∀ {ds : List PyData} {vs : List V} {i : Nat} {d : PyData}, RepL K G vs ds → ds[i]? = some d → ∃ v, vs[i]? = some v ∧ Rep K G v d
  | [], _, i, _, .nil, e => by simp at e
  | _ :: _, _, 0, _, .cons h _, e => by simp at e; subst e; exact ⟨_, rfl, h⟩
  | _ :: _, _, i + 1, _, .cons _ r, e => by
    obtain ⟨v, h1, h2⟩ := RepL.get (i := i) r (by simpa using e)
    exact ⟨v, by simpa using h1, h2⟩
theorem RepL.get' : ∀ {ds : List PyData} {vs : List V} {i : Nat} {v : V}, RepL K G vs ds → vs[i]? = some v → ∃ d, ds[i]? = some d ∧ Rep K G v d
  | [], _, i, _, .nil, e => by simp at e
  | _ :: _, _, 0, _, .cons h _, e => by simp at e; subst e; exact ⟨_, rfl, h⟩
  | _ :: _, _, i + 1, _, .cons _ r, e => by
    obtain ⟨v, h1, h2⟩ := RepL.get' (i := i) r (by simpa using e)
    exact ⟨v, by simpa using h1, h2⟩
theorem RepL.append : ∀ {ds es : List PyData} {vs us : List V}, RepL K G vs ds → RepL K G us es → RepL K G (vs ++ us) (ds ++ es)
  | [], _, _, _, .nil, s => s
  | _ :: _, _, _, _, .cons h r, s => .cons h (RepL.append r s)
theorem RepL.take : ∀ {ds : List PyData} {vs : List V} (n : Nat), RepL K G vs ds → RepL K G (vs.take n) (ds.take n)
  | _, _, 0, _ => .nil
  | [], _, n + 1, .nil => .nil
  | _ :: _, _, n + 1, .cons h r => .cons h (RepL.take n r)
theorem RepL.drop : ∀ {ds : List PyData} {vs : List V} (n : Nat), RepL K G vs ds → RepL K G (vs.drop n) (ds.drop n)
  | _, _, 0, r => r
  | [], _, n + 1, .nil => .nil
  | _ :: _, _, n + 1, .cons h r => RepL.drop n r
theorem RepL.reverse : ∀ {ds : List PyData} {vs : List V}, RepL K G vs ds → RepL K G vs.reverse ds.reverse
  | [], _, .nil => .nil
  | _ :: _, _, .cons h r => by
    rw [List.reverse_cons, List.reverse_cons]
    exact (RepL.reverse r).append (.cons h .nil)
theorem RepL.snoc {ds : List PyData} {vs : List V} {d : PyData} {v : V} (r : RepL K G vs ds) (h : Rep K G v d) : RepL K G (vs ++ [v]) (ds ++ [d]) := r.append (.cons h .nil)
theorem RepL.set : ∀ {ds : List PyData} {vs : List V} (i : Nat) {d : PyData} {v : V}, RepL K G vs ds → Rep K G v d → RepL K G (vs.set i v) (ds.set i d)
  | [], _, _, _, _, .nil, _ => .nil
  | _ :: _, _, 0, _, _, .cons _ r, h => .cons h r
  | _ :: _, _, i + 1, _, _, .cons q r, h => .cons q (RepL.set i r h)
end
/-! ### 3. a top cell: a list or dict that may change, its items in G -/
def Top (K : PySem.W.Frag) (G H : Hp) (a : Addr) : PyData → Prop
  | .list ds => ∃ xs, H a = some (.lst xs) ∧ RepL K G xs ds
  | .dict ds => (∃ l, H a = some (.dK l) ∧ RepK K G l ds) ∨ (∃ l, H a = some (.dT l) ∧ RepT K G l ds)
  | _ => False
/-- readable: borne by G, or a top cell in H -/
def RdR (K : PySem.W.Frag) (G H : Hp) (v : V) (d : PyData) : Prop := Rep K G v d ∨ ∃ a, v = .ref a ∧ Top K G H a d
section
variable {K : PySem.W.Frag} {G G' H H' : Hp} {a : Addr} {d : PyData} {v : V}
theorem Top.some (h : Top K G H a d) : ∃ o, H a = some o := by
  cases d with
  | list ds => obtain ⟨_, e, _⟩ := h; exact ⟨_, e⟩
  | dict ds => rcases h with ⟨_, e, _⟩ | ⟨_, e, _⟩ <;> exact ⟨_, e⟩
  | none => exact h.elim
  | bool _ => exact h.elim
  | int _ => exact h.elim
  | str _ => exact h.elim
  | tuple _ => exact h.elim
theorem Top.ne (h : Top K G H a d) : H a ≠ none := by
  obtain ⟨o, e⟩ := h.some
  rw [e]
  exact fun z => nomatch z
theorem Top.mono' (g : Same G G') (e : H' a = H a) (h : Top K G H a d) : Top K G' H' a d := by
  cases d with
  | list ds => obtain ⟨xs, q, r⟩ := h; exact ⟨xs, e.trans q, r.mono g⟩
  | dict ds =>
    rcases h with ⟨l, q, r⟩ | ⟨l, q, r⟩
    · exact .inl ⟨l, e.trans q, r.mono g⟩
    · exact .inr ⟨l, e.trans q, r.mono g⟩
  | none => exact h.elim
  | bool _ => exact h.elim
  | int _ => exact h.elim
  | str _ => exact h.elim
  | tuple _ => exact h.elim
theorem Top.mono (g : Same G G') (s : Same H H') (h : Top K G H a d) : Top K G' H' a d := by
  obtain ⟨o, e⟩ := h.some
  exact h.mono' g ((s _ _ e).trans e.symm)
theorem RdR.mono (g : Same G G') (s : Same H H') (h : RdR K G H v d) : RdR K G' H' v d := by
  rcases h with h | ⟨a, e, h⟩
  · exact .inl (h.mono g)
  · exact .inr ⟨a, e, h.mono g s⟩
/-- a top cell becomes lasting -/
theorem Top.freeze (n : G a = none) (gh : Same G H) (h : Top K G H a d) : ∃ G', Same G G' ∧ Same G' H ∧ Rep K G' (.ref a) d ∧ ∀ b, b ≠ a → G' b = G b := by
  obtain ⟨o, e⟩ := h.some
  have s1 : Same G (upd G a o) := fun b u q => by rw [upd_ne (ne_of_none q n)]; exact q
  have s2 : Same (upd G a o) H := fun b u q => by
    by_cases hb : b = a
    · subst hb; rw [upd_same] at q; rw [← q]; exact e
    · rw [upd_ne hb] at q; exact gh _ _ q
  refine ⟨upd G a o, s1, s2, ?_, fun b hb => upd_ne hb⟩
  cases d with
  | list ds =>
    obtain ⟨xs, q, r⟩ := h
    rw [e] at q; cases q
    exact .lst (.inl (.inl upd_same)) (r.mono s1)
  | dict ds =>
    rcases h with ⟨l, q, r⟩ | ⟨l, q, r⟩
    · rw [e] at q; cases q
      exact .dk upd_same (r.mono s1)
    · rw [e] at q; cases q
      exact .dt upd_same (r.mono s1)
  | none => exact h.elim
  | bool _ => exact h.elim
  | int _ => exact h.elim
  | str _ => exact h.elim
  | tuple _ => exact h.elim
end
/-! ### 4. steps -/
/-- from (G, H) to (G', H'): all stays, what lasts newly is new -/
structure Stp (G H G' H' : Hp) : Prop where
  g : Same G G'
  h : Same H H'
  gh : Same G' H'
  fr : ∀ a, G a = none → H a ≠ none → G' a = none
section
variable {G H G1 H1 G2 H2 : Hp}
theorem Stp.refl (s : Same G H) : Stp G H G H := ⟨Same.refl _, Same.refl _, s, fun _ e _ => e⟩
theorem Stp.trans (a : Stp G H G1 H1) (b : Stp G1 H1 G2 H2) : Stp G H G2 H2 :=
  ⟨a.g.trans b.g, a.h.trans b.h, b.gh, fun x e n => b.fr x (a.fr x e n) fun z => n (a.h.free z)⟩
/-- a new lasting object -/
theorem Stp.new {p : Addr} {o : HO} (s : Same G H) (n : H p = none) : Stp G H (upd G p o) (upd H p o) := by
  have ng : G p = none := s.free n
  refine ⟨fun b u q => ?_, fun b u q => ?_, fun b u q => ?_, fun b e h => ?_⟩
  · rw [upd_ne (ne_of_none q ng)]; exact q
  · rw [upd_ne (ne_of_none q n)]; exact q
  · by_cases hb : b = p
    · subst hb; rw [upd_same] at q ⊢; exact q
    · rw [upd_ne hb] at q ⊢; exact s _ _ q
  · have hb : b ≠ p := fun z => h (by rw [z]; exact n)
    rw [upd_ne hb]; exact e
/-- a new object of one's own -/
theorem Stp.newH {p : Addr} {o : HO} (s : Same G H) (n : H p = none) : Stp G H G (upd H p o) := by
  refine ⟨Same.refl _, fun b u q => ?_, fun b u q => ?_, fun b e h => e⟩
  · rw [upd_ne (ne_of_none q n)]; exact q
  · rw [upd_ne (ne_of_none (s _ _ q) n)]; exact s _ _ q
end
/-! ### 5. results -/
def ResR (K : PySem.W.Frag) (G H : Hp) : Slot → V → Prop
  | .val d, v => Rep K G v d
  | .own d, v => ∃ a, v = .ref a ∧ G a = none ∧ Top K G H a d
  | .bor d, v => ∃ a, v = .ref a ∧ Top K G H a d
  | .lent _, _ => False
  | .exn _, _ => False
/-- .. what is one's own is new since H0 -/
def ResF (K : PySem.W.Frag) (H0 G H : Hp) : Slot → V → Prop
  | .val d, v => Rep K G v d
  | .own d, v => ∃ a, v = .ref a ∧ G a = none ∧ H0 a = none ∧ Top K G H a d
  | .bor d, v => ∃ a, v = .ref a ∧ Top K G H a d
  | .lent _, _ => False
  | .exn _, _ => False
def Slot.rd : Slot → Res PyData
  | .val d => .ok d
  | .own d => .ok d
  | .bor d => .ok d
  | .lent _ => .stuck
  | .exn _ => .stuck
def Slot.vl : Slot → Res PyData
  | .val d => .ok d
  | .own d => .ok d
  | .bor _ => .stuck
  | .lent _ => .stuck
  | .exn _ => .stuck
section
variable {K : PySem.W.Frag} {H0 G H G1 H1 G2 H2 : Hp} {s : Slot} {v : V}
theorem ResF.rd (h : ResF K H0 G H s v) : ∃ d, s.rd = .ok d ∧ RdR K G H v d := by
  cases s with
  | val d => exact ⟨d, rfl, .inl h⟩
  | own d => obtain ⟨a, e, _, _, t⟩ := h; exact ⟨d, rfl, .inr ⟨a, e, t⟩⟩
  | bor d => obtain ⟨a, e, t⟩ := h; exact ⟨d, rfl, .inr ⟨a, e, t⟩⟩
  | lent d => exact h.elim
  | exn x => exact h.elim
theorem ResF.vl {d : PyData} (st : Stp G H G1 H1) (h : ResF K H G1 H1 s v) (e : s.vl = .ok d) : ∃ G2, Stp G H G2 H1 ∧ Same G1 G2 ∧ Rep K G2 v d := by
  cases s with
  | val d' =>
    cases e
    exact ⟨G1, st, Same.refl _, h⟩
  | own d' =>
    cases e
    obtain ⟨a, ev, n, n0, t⟩ := h
    obtain ⟨G2, s1, s2, r, hb⟩ := t.freeze n st.gh
    subst ev
    refine ⟨G2, ⟨st.g.trans s1, st.h, s2, fun x ex hx => ?_⟩, s1, r⟩
    have hxa : x ≠ a := fun z => hx (by rw [z]; exact n0)
    rw [hb x hxa]
    exact st.fr x ex hx
  | bor d' => cases e
  | lent d' => cases e
  | exn x => cases e
theorem ResF.mono0 (s0 : Same H0 H1) (h : ResF K H1 G H s v) : ResF K H0 G H s v := by
  cases s with
  | val d => exact h
  | own d => obtain ⟨a, e, n, n0, t⟩ := h; exact ⟨a, e, n, s0.free n0, t⟩
  | bor d => exact h
  | lent d => exact h
  | exn x => exact h
end
/-! ### 6. a frame's state -/
/-- the law's fixed things: the written part, the classes of refusal, what is held in an except suite -/
structure Cn where
  K : PySem.W.Frag
  ec : EC → Addr
  A : Addr → Exn → Prop := fun _ _ => False
  L : Option Addr := none
def SlR (C : Cn) (B G H : Hp) : Slot → V → Prop
  | .val d, v => Rep C.K G v d
  | .own d, v => ∃ a, v = .ref a ∧ G a = none ∧ (B a = none ∧ C.L ≠ some a) ∧ Top C.K G H a d
  | .bor d, v => ∃ a, v = .ref a ∧ B a ≠ none ∧ Top C.K G H a d
  | .lent d, v => ∃ a, v = .ref a ∧ G a = none ∧ C.L = some a ∧ Top C.K G H a d
  | .exn x, v => ∃ a, v = .ref a ∧ C.A a x
theorem lent_off {δ : DEnv} {i j : Nat} {o : Option Slot} {d : PyData} (ho : ∀ d, o ≠ some (.lent d)) (e : (δ.set i o)[j]? = some (some (.lent d))) : δ[j]? = some (some (.lent d)) := by
  by_cases hj : i = j
  · subst hj
    rw [List.getElem?_set] at e
    split at e
    · split at e
      · cases e; exact (ho d rfl).elim
      · cases e
    · rename_i z; exact (z rfl).elim
  · rw [List.getElem?_set_ne hj] at e; exact e
structure StR (C : Cn) (B G0 G H : Hp) (σ : St) (δ : DEnv) : Prop where
  bh : Same B H
  g0 : Same G0 G
  gh : Same G H
  fr : ∀ a, G0 a = none → B a ≠ none → G a = none
  len : σ.length = δ.length
  lb : ∀ a, C.L = some a → B a = none ∧ H a ≠ none
  lu : ∀ (i j : Nat) (d e : PyData), δ[i]? = some (some (.lent d)) → δ[j]? = some (some (.lent e)) → i = j
  sl : ∀ (i : Nat) (s : Slot), δ[i]? = some (some s) → ∃ v, σ[i]? = some (some v) ∧ SlR C B G H s v
  ap : ∀ (i j : Nat) (d e : PyData) (a : Addr), i ≠ j → δ[i]? = some (some (.own d)) → δ[j]? = some (some (.own e)) → σ[i]? = some (some (.ref a)) → σ[j]? ≠ some (some (.ref a))
section
variable {C : Cn} {B G0 G H G' H' : Hp} {σ : St} {δ : DEnv}
theorem SlR.step {s : Slot} {v : V} (st : Stp G H G' H') (h : SlR C B G H s v) : SlR C B G' H' s v := by
  cases s with
  | val d => exact Rep.mono st.g h
  | own d => obtain ⟨a, e, n, nb, t⟩ := h; exact ⟨a, e, st.fr a n t.ne, nb, t.mono st.g st.h⟩
  | bor d => obtain ⟨a, e, nb, t⟩ := h; exact ⟨a, e, nb, t.mono st.g st.h⟩
  | lent d => obtain ⟨a, e, n, nl, t⟩ := h; exact ⟨a, e, st.fr a n t.ne, nl, t.mono st.g st.h⟩
  | exn x => exact h
theorem Same.ne {H H' : Hp} (s : Same H H') {a : Addr} (h : H a ≠ none) : H' a ≠ none := fun z => h (s.free z)
theorem StR.step (S : StR C B G0 G H σ δ) (st : Stp G H G' H') : StR C B G0 G' H' σ δ :=
  ⟨S.bh.trans st.h, S.g0.trans st.g, st.gh, fun a e n => st.fr a (S.fr a e n) (fun z => n (S.bh.free z)), S.len, (fun a e => ⟨(S.lb a e).1, Same.ne st.h (S.lb a e).2⟩), S.lu,
    fun i s e => let ⟨v, q, r⟩ := S.sl i s e; ⟨v, q, r.step st⟩, S.ap⟩
/-- another word for what stood ahead -/
theorem StR.base (S : StR C B G0 G H σ δ) : StR C B G G H σ δ :=
  ⟨S.bh, Same.refl _, S.gh, fun _ e _ => e, S.len, S.lb, S.lu, S.sl, S.ap⟩
theorem StR.unbase (S : StR C B G0 G H σ δ) {σ' : St} {δ' : DEnv} (T : StR C B G G' H' σ' δ') : StR C B G0 G' H' σ' δ' :=
  ⟨T.bh, S.g0.trans T.g0, T.gh, fun a e n => T.fr a (S.fr a e n) n, T.len, T.lb, T.lu, T.sl, T.ap⟩
/-- the frame's end against its entry -/
theorem StR.end (S : StR C B G0 G H σ δ) : Stp G0 B G H := ⟨S.g0, S.bh, S.gh, S.fr⟩
/-- a slot gets a value -/
theorem StR.setVal (S : StR C B G0 G H σ δ) {i : Nat} {v : V} {d : PyData} (r : Rep C.K G v d) : StR C B G0 G H (σ.set i (some v)) (δ.set i (some (.val d))) := by
  refine ⟨S.bh, S.g0, S.gh, S.fr, by simp [S.len], S.lb, fun j k d1 d2 e1 e2 => S.lu j k d1 d2 (lent_off (by intro _ z; cases z) e1) (lent_off (by intro _ z; cases z) e2), fun j s e => ?_, fun j k d1 d2 a hjk e1 e2 e3 => ?_⟩
  · by_cases hj : i = j
    · subst hj
      rw [List.getElem?_set] at e
      split at e
      · split at e
        · rename_i _ hl
          cases e
          exact ⟨v, by rw [List.getElem?_set_self (by rw [S.len]; exact hl)], r⟩
        · cases e
      · rename_i z; exact (z rfl).elim
    · rw [List.getElem?_set_ne hj] at e
      obtain ⟨u, q, z⟩ := S.sl j s e
      exact ⟨u, by rw [List.getElem?_set_ne hj]; exact q, z⟩
  · by_cases hj : i = j
    · subst hj
      rw [List.getElem?_set] at e1
      split at e1
      · split at e1
        · cases e1
        · cases e1
      · rename_i z; exact (z rfl).elim
    · by_cases hk : i = k
      · subst hk
        rw [List.getElem?_set] at e2
        split at e2
        · split at e2
          · cases e2
          · cases e2
        · rename_i z; exact (z rfl).elim
      · rw [List.getElem?_set_ne hj] at e1 e3
        rw [List.getElem?_set_ne hk] at e2 ⊢
        exact S.ap j k d1 d2 a hjk e1 e2 e3
/-- a slot gets a new object of one's own: nothing else in sight stands there -/
theorem StR.setOwn (S : StR C B G0 G H σ δ) {i : Nat} {a : Addr} {d : PyData} (n : G a = none) (nb : B a = none ∧ C.L ≠ some a) (t : Top C.K G H a d) (na : ∀ (j : Nat) (e : PyData), δ[j]? = some (some (.own e)) → σ[j]? ≠ some (some (.ref a))) :
    StR C B G0 G H (σ.set i (some (.ref a))) (δ.set i (some (.own d))) := by
  refine ⟨S.bh, S.g0, S.gh, S.fr, by simp [S.len], S.lb, fun j k d1 d2 e1 e2 => S.lu j k d1 d2 (lent_off (by intro _ z; cases z) e1) (lent_off (by intro _ z; cases z) e2), fun j s e => ?_, fun j k d1 d2 b hjk e1 e2 e3 => ?_⟩
  · by_cases hj : i = j
    · subst hj
      rw [List.getElem?_set] at e
      split at e
      · split at e
        · rename_i _ hl
          cases e
          exact ⟨.ref a, by rw [List.getElem?_set_self (by rw [S.len]; exact hl)], a, rfl, n, nb, t⟩
        · cases e
      · rename_i z; exact (z rfl).elim
    · rw [List.getElem?_set_ne hj] at e
      obtain ⟨u, q, z⟩ := S.sl j s e
      exact ⟨u, by rw [List.getElem?_set_ne hj]; exact q, z⟩
  · by_cases hj : i = j
    · subst hj
      have hk : i ≠ k := hjk
      rw [List.getElem?_set_ne hk] at e2 ⊢
      have hl : i < σ.length := by
        have := (List.getElem?_eq_some_iff.mp e1).1
        rw [List.length_set, ← S.len] at this; exact this
      rw [List.getElem?_set_self hl] at e3
      cases e3
      exact na k d2 e2
    · by_cases hk : i = k
      · subst hk
        rw [List.getElem?_set_ne hj] at e1 e3
        intro z
        have hl : i < σ.length := by
          have := (List.getElem?_eq_some_iff.mp z).1
          rw [List.length_set] at this; exact this
        rw [List.getElem?_set_self hl] at z
        cases z
        exact na j d1 e1 e3
      · rw [List.getElem?_set_ne hj] at e1 e3
        rw [List.getElem?_set_ne hk] at e2 ⊢
        exact S.ap j k d1 d2 b hjk e1 e2 e3
/-- a slot is forgotten -/
theorem StR.setNone (S : StR C B G0 G H σ δ) {i : Nat} (o : Option V) : StR C B G0 G H (σ.set i o) (δ.set i none) := by
  have off : ∀ (j : Nat) (s : Slot), (δ.set i none)[j]? = some (some s) → i ≠ j ∧ δ[j]? = some (some s) := fun j s e => by
    by_cases hj : i = j
    · subst hj
      rw [List.getElem?_set] at e
      split at e
      · split at e
        · cases e
        · cases e
      · rename_i z; exact (z rfl).elim
    · rw [List.getElem?_set_ne hj] at e
      exact ⟨hj, e⟩
  refine ⟨S.bh, S.g0, S.gh, S.fr, by simp [S.len], S.lb, fun j k d1 d2 e1 e2 => S.lu j k d1 d2 (lent_off (by intro _ z; cases z) e1) (lent_off (by intro _ z; cases z) e2), fun j s e => ?_, fun j k d1 d2 a hjk e1 e2 e3 => ?_⟩
  · obtain ⟨hj, e⟩ := off j s e
    obtain ⟨u, q, z⟩ := S.sl j s e
    exact ⟨u, by rw [List.getElem?_set_ne hj]; exact q, z⟩
  · obtain ⟨hj, e1⟩ := off j _ e1
    obtain ⟨hk, e2⟩ := off k _ e2
    rw [List.getElem?_set_ne hj] at e3
    rw [List.getElem?_set_ne hk]
    exact S.ap j k d1 d2 a hjk e1 e2 e3
/-- an object of one's own is changed -/
theorem StR.write (S : StR C B G0 G H σ δ) {i : Nat} {a : Addr} {d d' : PyData} {o : HO} (hi : δ[i]? = some (some (.own d))) (ha : σ[i]? = some (some (.ref a))) (t : Top C.K G (upd H a o) a d') :
    StR C B G0 G (upd H a o) σ (δ.set i (some (.own d'))) := by
  obtain ⟨v, q, b, ev, n, nb, tb⟩ := S.sl i _ hi
  rw [ha] at q; cases q; cases ev
  have keepG : Same G (upd H a o) := fun b u q => by rw [upd_ne (ne_of_none q n)]; exact S.gh _ _ q
  have keepB : Same B (upd H a o) := fun b u q => by rw [upd_ne (ne_of_none q nb.1)]; exact S.bh _ _ q
  have hli : i < δ.length := (List.getElem?_eq_some_iff.mp hi).1
  have off : ∀ (j : Nat) (s : Slot), i ≠ j → (δ.set i (some (.own d')))[j]? = some (some s) → δ[j]? = some (some s) := fun j s hj e => by
    rw [List.getElem?_set_ne hj] at e; exact e
  refine ⟨keepB, S.g0, keepG, S.fr, by simp [S.len], fun c e => ⟨(S.lb c e).1, by rw [upd_ne (fun w => nb.2 (by rw [← w]; exact e))]; exact (S.lb c e).2⟩, fun j k d1 d2 e1 e2 => S.lu j k d1 d2 (lent_off (by intro _ z; cases z) e1) (lent_off (by intro _ z; cases z) e2), fun j s e => ?_, fun j k d1 d2 b hjk e1 e2 e3 => ?_⟩
  · by_cases hj : i = j
    · subst hj
      rw [List.getElem?_set_self hli] at e
      cases e
      exact ⟨_, ha, a, rfl, n, nb, t⟩
    · have e' := off j s hj e
      obtain ⟨u, q, z⟩ := S.sl j s e'
      refine ⟨u, q, ?_⟩
      cases s with
      | val d2 => exact z
      | own d2 =>
        obtain ⟨b, eb, n2, nb2, t2⟩ := z
        subst eb
        have hba : b ≠ a := fun w => by
          subst w
          exact S.ap i j d d2 b hj hi e' ha q
        exact ⟨b, rfl, n2, nb2, t2.mono' (Same.refl _) (upd_ne hba)⟩
      | bor d2 =>
        obtain ⟨b, eb, nb2, t2⟩ := z
        subst eb
        have hba : b ≠ a := fun w => nb2 (by rw [w]; exact nb.1)
        exact ⟨b, rfl, nb2, t2.mono' (Same.refl _) (upd_ne hba)⟩
      | lent d2 =>
        obtain ⟨b, eb, n2, nl2, t2⟩ := z
        subst eb
        have hba : b ≠ a := fun w => nb.2 (by rw [← w]; exact nl2)
        exact ⟨b, rfl, n2, nl2, t2.mono' (Same.refl _) (upd_ne hba)⟩
      | exn x => exact z
  · have own' : ∀ (l : Nat) (d3 : PyData), (δ.set i (some (.own d')))[l]? = some (some (.own d3)) → ∃ d4, δ[l]? = some (some (.own d4)) := fun l d3 e => by
      by_cases hl : i = l
      · subst hl; exact ⟨d, hi⟩
      · exact ⟨d3, off l _ hl e⟩
    obtain ⟨d3, e1⟩ := own' j d1 e1
    obtain ⟨d4, e2⟩ := own' k d2 e2
    exact S.ap j k d3 d4 b hjk e1 e2 e3
/-- an object of one's own becomes lasting -/
theorem StR.freeze (S : StR C B G0 G H σ δ) {i : Nat} {d : PyData} (hi : δ[i]? = some (some (.own d))) : ∃ G', StR C B G0 G' H σ (δ.set i (some (.val d))) := by
  obtain ⟨v, q, a, ev, n, nb, t⟩ := S.sl i _ hi
  subst ev
  obtain ⟨G', s1, s2, r, hb⟩ := t.freeze n S.gh
  have hli : i < δ.length := (List.getElem?_eq_some_iff.mp hi).1
  have off : ∀ (j : Nat) (s : Slot), i ≠ j → (δ.set i (some (.val d)))[j]? = some (some s) → δ[j]? = some (some s) := fun j s hj e => by
    rw [List.getElem?_set_ne hj] at e; exact e
  refine ⟨G', S.bh, S.g0.trans s1, s2, fun x e z => ?_, by simp [S.len], S.lb, fun j k d1 d2 e1 e2 => S.lu j k d1 d2 (lent_off (by intro _ z; cases z) e1) (lent_off (by intro _ z; cases z) e2), fun j s e => ?_, fun j k d1 d2 b hjk e1 e2 e3 => ?_⟩
  · have hx : x ≠ a := fun w => z (by rw [w]; exact nb.1)
    rw [hb x hx]; exact S.fr x e z
  · by_cases hj : i = j
    · subst hj
      rw [List.getElem?_set_self hli] at e
      cases e
      exact ⟨_, q, r⟩
    · have e' := off j s hj e
      obtain ⟨u, q', z⟩ := S.sl j s e'
      refine ⟨u, q', ?_⟩
      cases s with
      | val d2 => exact Rep.mono s1 z
      | own d2 =>
        obtain ⟨b, eb, n2, nb2, t2⟩ := z
        subst eb
        have hba : b ≠ a := fun w => by
          subst w
          exact S.ap i j d d2 b hj hi e' q q'
        exact ⟨b, rfl, by rw [hb b hba]; exact n2, nb2, t2.mono' s1 rfl⟩
      | bor d2 =>
        obtain ⟨b, eb, nb2, t2⟩ := z
        exact ⟨b, eb, nb2, t2.mono' s1 rfl⟩
      | lent d2 =>
        obtain ⟨b, eb, n2, nl2, t2⟩ := z
        subst eb
        have hba : b ≠ a := fun w => nb.2 (by rw [← w]; exact nl2)
        exact ⟨b, rfl, by rw [hb b hba]; exact n2, nl2, t2.mono' s1 rfl⟩
      | exn x => exact z
  · have own' : ∀ (l : Nat) (d3 : PyData), (δ.set i (some (.val d)))[l]? = some (some (.own d3)) → δ[l]? = some (some (.own d3)) := fun l d3 e => by
      by_cases hl : i = l
      · subst hl; rw [List.getElem?_set_self hli] at e; cases e
      · exact off l _ hl e
    exact S.ap j k d1 d2 b hjk (own' j d1 e1) (own' k d2 e2) e3
/-- the lent object is changed -/
theorem StR.writeL (S : StR C B G0 G H σ δ) {i : Nat} {a : Addr} {d d' : PyData} {o : HO} (hi : δ[i]? = some (some (.lent d))) (ha : σ[i]? = some (some (.ref a))) (t : Top C.K G (upd H a o) a d') :
    StR C B G0 G (upd H a o) σ (δ.set i (some (.lent d'))) := by
  obtain ⟨v, q, b, ev, n, nl, tb⟩ := S.sl i _ hi
  rw [ha] at q; cases q; cases ev
  have nb := (S.lb a nl).1
  have keepG : Same G (upd H a o) := fun b u q => by rw [upd_ne (ne_of_none q n)]; exact S.gh _ _ q
  have keepB : Same B (upd H a o) := fun b u q => by rw [upd_ne (ne_of_none q nb)]; exact S.bh _ _ q
  have hli : i < δ.length := (List.getElem?_eq_some_iff.mp hi).1
  have off : ∀ (j : Nat) (s : Slot), i ≠ j → (δ.set i (some (.lent d')))[j]? = some (some s) → δ[j]? = some (some s) := fun j s hj e => by
    rw [List.getElem?_set_ne hj] at e; exact e
  refine ⟨keepB, S.g0, keepG, S.fr, by simp [S.len], fun c e => ⟨(S.lb c e).1, by rw [nl] at e; cases e; exact t.ne⟩, fun j k d1 d2 e1 e2 => ?_, fun j s e => ?_, fun j k d1 d2 b hjk e1 e2 e3 => ?_⟩
  · have fw : ∀ (l : Nat) (d3 : PyData), (δ.set i (some (.lent d')))[l]? = some (some (.lent d3)) → l = i := fun l d3 e => by
      by_cases hl : i = l
      · exact hl.symm
      · exact (S.lu i l d d3 hi (off l _ hl e)).symm
    rw [fw j d1 e1, fw k d2 e2]
  · by_cases hj : i = j
    · subst hj
      rw [List.getElem?_set_self hli] at e
      cases e
      exact ⟨_, ha, a, rfl, n, nl, t⟩
    · have e' := off j s hj e
      obtain ⟨u, q, z⟩ := S.sl j s e'
      refine ⟨u, q, ?_⟩
      cases s with
      | val d2 => exact z
      | own d2 =>
        obtain ⟨b, eb, n2, nb2, t2⟩ := z
        subst eb
        have hba : b ≠ a := fun w => nb2.2 (by rw [w]; exact nl)
        exact ⟨b, rfl, n2, nb2, t2.mono' (Same.refl _) (upd_ne hba)⟩
      | bor d2 =>
        obtain ⟨b, eb, nb2, t2⟩ := z
        subst eb
        have hba : b ≠ a := fun w => nb2 (by rw [w]; exact nb)
        exact ⟨b, rfl, nb2, t2.mono' (Same.refl _) (upd_ne hba)⟩
      | lent d2 => exact (hj (S.lu i j d d2 hi e')).elim
      | exn x => exact z
  · have own' : ∀ (l : Nat) (d3 : PyData), (δ.set i (some (.lent d')))[l]? = some (some (.own d3)) → δ[l]? = some (some (.own d3)) := fun l d3 e => by
      by_cases hl : i = l
      · subst hl; rw [List.getElem?_set_self hli] at e; cases e
      · exact off l _ hl e
    exact S.ap j k d1 d2 b hjk (own' j d1 e1) (own' k d2 e2) e3
end
end DL
/-! DLb: what code does, said over data: expressions -/
namespace DL
open PySem L2
/-! ### 1. soundness -/
structure Ax where
  ec : EC → Addr
  A : Addr → Exn → Prop := fun _ _ => False
  L : Option Addr := none
abbrev cn (X : Cx) (a : Ax) : Cn := ⟨X.K, a.ec, a.A, a.L⟩
def FldR (K : PySem.W.Frag) (G H : Hp) (fs : List (Str × PyData)) (d : Option Addr) : Prop :=
  match fs with
  | [] => d = none
  | _ => ∃ dd vs, d = some dd ∧ H dd = some (.xd vs) ∧ vs.map (·.1) = fs.map (·.1) ∧ RepL K G (vs.map (·.2)) (fs.map (·.2))
def ExR (C : Cn) (G H : Hp) (x : Exn) (cls : Value) (d : Option Addr) : Prop := cls = .ref (C.ec x.c) ∧ FldR C.K G H x.fs d
/-- what is wanted of a result -/
def ROk {α β : Type} (C : Cn) (W : WX) (σ : St) (G H : Hp) (rel : Hp → Hp → α → β → Prop) (r : Res α) (Q : β → Hp → Prop) : Prop :=
  match r with
  | .ok a => ∀ v G' H', Stp G H G' H' → rel G' H' a v → Q v H'
  | .exc x => ∀ cls d G' H', Stp G H G' H' → ExR C G' H' x cls d → W cls d σ H'
  | .stuck => False
/-- t does what m says -/
def Snd {α β : Type} (C : Cn) (W : WX) (rel : Hp → Hp → Hp → α → β → Prop) (t : St → Hp → (β → Hp → Prop) → Prop) (m : DEnv → Res α) : Prop :=
  ∀ B G0 G H σ δ, StR C B G0 G H σ δ → ∀ Q, ROk C W σ G H (rel H) (m δ) Q → t σ H Q
abbrev relE (K : PySem.W.Frag) : Hp → Hp → Hp → Slot → V → Prop := fun H0 G H s v => ResF K H0 G H s v
abbrev relV (K : PySem.W.Frag) : Hp → Hp → Hp → PyData → V → Prop := fun _ G _ d v => Rep K G v d
abbrev relD (K : PySem.W.Frag) : Hp → Hp → Hp → PyData → V → Prop := fun _ G H d v => RdR K G H v d
abbrev relB : Hp → Hp → Hp → Bool → Bool → Prop := fun _ _ _ a b => a = b
abbrev relL (K : PySem.W.Frag) : Hp → Hp → Hp → List PyData → List V → Prop := fun _ G _ ds vs => RepL K G vs ds
def ArgR (K : PySem.W.Frag) (G H : Hp) : Slot → V → Prop
  | .val d, v => Rep K G v d
  | .bor d, v => ∃ a, v = .ref a ∧ Top K G H a d
  | _, _ => False
abbrev ArgsR (K : PySem.W.Frag) (G H : Hp) : List Slot → List V → Prop := Paired (ArgR K G H)
abbrev relS (K : PySem.W.Frag) : Hp → Hp → Hp → List Slot → List V → Prop := fun _ G H ss vs => ArgsR K G H ss vs
section
variable {C : Cn} {W : WX} {σ : St} {G H G1 H1 : Hp} {α β γ ε : Type}
theorem ROk.exc_step {rel : Hp → Hp → α → β → Prop} {x : Exn} {Q : β → Hp → Prop} (st : Stp G H G1 H1) (h : ROk C W σ G H rel (.exc x) Q) {rel' : Hp → Hp → γ → ε → Prop} {Q' : ε → Hp → Prop} : ROk C W σ G1 H1 rel' (.exc x) Q' :=
  fun cls d G' H' s r => h cls d G' H' (st.trans s) r
theorem snd_bind {rel1 : Hp → Hp → Hp → α → β → Prop} {rel2 : Hp → Hp → Hp → γ → ε → Prop} (down : ∀ H0 H1 G H a v, Same H0 H1 → rel2 H1 G H a v → rel2 H0 G H a v) {t1 : St → Hp → (β → Hp → Prop) → Prop} {m1 : DEnv → Res α} (h1 : Snd C W rel1 t1 m1)
    {t2 : β → St → Hp → (ε → Hp → Prop) → Prop} {m2 : α → DEnv → Res γ}
    (h2 : ∀ a v B G0 G H σ δ H0, StR C B G0 G H σ δ → rel1 H0 G H a v → ∀ Q, ROk C W σ G H (rel2 H) (m2 a δ) Q → t2 v σ H Q) :
    Snd C W rel2 (fun σ H Q => t1 σ H fun v H1 => t2 v σ H1 Q) (fun δ => (m1 δ).bind fun a => m2 a δ) := by
  intro B G0 G H σ δ S Q hq
  refine h1 B G0 G H σ δ S _ ?_
  show ROk C W σ G H (rel1 H) (m1 δ) _
  have hq' : ROk C W σ G H (rel2 H) ((m1 δ).bind fun a => m2 a δ) Q := hq
  generalize m1 δ = r at hq'
  cases r with
  | stuck => exact hq'.elim
  | exc x => exact fun cls d G' H' st r => hq' cls d G' H' st r
  | ok a =>
    intro v G' H' st r
    refine h2 a v B G0 G' H' σ δ H (S.step st) r Q ?_
    have hq2 : ROk C W σ G H (rel2 H) (m2 a δ) Q := hq'
    generalize m2 a δ = r2 at hq2
    cases r2 with
    | stuck => exact hq2.elim
    | exc x => exact fun cls d G2 H2 s2 r => hq2 cls d G2 H2 (st.trans s2) r
    | ok c => exact fun u G2 H2 s2 r => hq2 u G2 H2 (st.trans s2) (down _ _ _ _ _ _ st.h r)
/-- a pure end: nothing is done -/
theorem rok_ok {rel : Hp → Hp → α → β → Prop} {a : α} {Q : β → Hp → Prop} (h : ROk C W σ G H rel (.ok a) Q) (s : Same G H) {v : β} (r : rel G H a v) : Q v H := h v G H (Stp.refl s) r
theorem downE {K : PySem.W.Frag} : ∀ H0 H1 G H a v, Same H0 H1 → relE K H1 G H a v → relE K H0 G H a v := fun _ _ _ _ _ _ s r => ResF.mono0 s r
theorem downV {K : PySem.W.Frag} : ∀ H0 H1 G H a v, Same H0 H1 → relV K H1 G H a v → relV K H0 G H a v := fun _ _ _ _ _ _ _ r => r
theorem downD {K : PySem.W.Frag} : ∀ H0 H1 G H a v, Same H0 H1 → relD K H1 G H a v → relD K H0 G H a v := fun _ _ _ _ _ _ _ r => r
theorem downB : ∀ H0 H1 G H a v, Same H0 H1 → relB H1 G H a v → relB H0 G H a v := fun _ _ _ _ _ _ _ r => r
theorem downL {K : PySem.W.Frag} : ∀ H0 H1 G H a v, Same H0 H1 → relL K H1 G H a v → relL K H0 G H a v := fun _ _ _ _ _ _ _ r => r
theorem downS {K : PySem.W.Frag} : ∀ H0 H1 G H a v, Same H0 H1 → relS K H1 G H a v → relS K H0 G H a v := fun _ _ _ _ _ _ _ r => r
/-- a slot's result as a value that may last, as a readable one -/
theorem snd_v {t : TE} {m : DEnv → Res Slot} (h : Snd C W (relE C.K) t m) : Snd C W (relV C.K) t (fun δ => (m δ).bind Slot.vl) := by
  intro B G0 G H σ δ S Q hq
  refine h B G0 G H σ δ S Q ?_
  have hq' : ROk C W σ G H (relV C.K H) ((m δ).bind Slot.vl) Q := hq
  generalize m δ = r at hq'
  cases r with
  | stuck => exact hq'.elim
  | exc x => exact hq'
  | ok s =>
    intro v G' H' st r
    have hq2 : ROk C W σ G H (relV C.K H) s.vl Q := hq'
    cases e : s.vl with
    | stuck => rw [e] at hq2; exact hq2.elim
    | exc x => cases s <;> cases e
    | ok d =>
      rw [e] at hq2
      obtain ⟨G2, s2, _, rp⟩ := ResF.vl st r e
      exact hq2 v G2 H' s2 rp
theorem snd_d {t : TE} {m : DEnv → Res Slot} (h : Snd C W (relE C.K) t m) : Snd C W (relD C.K) t (fun δ => (m δ).bind Slot.rd) := by
  intro B G0 G H σ δ S Q hq
  refine h B G0 G H σ δ S Q ?_
  have hq' : ROk C W σ G H (relD C.K H) ((m δ).bind Slot.rd) Q := hq
  generalize m δ = r at hq'
  cases r with
  | stuck => exact hq'.elim
  | exc x => exact hq'
  | ok s =>
    intro v G' H' st r
    have hq2 : ROk C W σ G H (relD C.K H) s.rd Q := hq'
    obtain ⟨d, e, rd⟩ := ResF.rd r
    rw [e] at hq2
    exact hq2 v G' H' st rd
end
/-! ### 2. judgements -/
abbrev ME := DEnv → Res Slot
abbrev MD := DEnv → Res PyData
abbrev MT := DEnv → Res Bool
abbrev ML := DEnv → Res (List PyData)
def DE (X : Cx) (a : Ax) (W : WX) (e : Expr) (m : ME) : Prop := ∃ t, PE X e t ∧ Snd (cn X a) W (relE X.K) t m
def DV (X : Cx) (a : Ax) (W : WX) (e : Expr) (m : MD) : Prop := ∃ t, PE X e t ∧ Snd (cn X a) W (relV X.K) t m
def DR (X : Cx) (a : Ax) (W : WX) (e : Expr) (m : MD) : Prop := ∃ t, PE X e t ∧ Snd (cn X a) W (relD X.K) t m
def DT (X : Cx) (a : Ax) (W : WX) (e : Expr) (m : MT) : Prop := ∃ t, PT X e t ∧ Snd (cn X a) W relB t m
def DA (X : Cx) (a : Ax) (W : WX) (es : List Expr) (m : ML) : Prop := ∃ t, PA X es t ∧ Snd (cn X a) W (relL X.K) t m
def DAS (X : Cx) (a : Ax) (W : WX) (es : List Expr) (m : DEnv → Res (List Slot)) : Prop := ∃ t, PA X es t ∧ Snd (cn X a) W (relS X.K) t m
def mV (m : ME) : MD := fun δ => (m δ).bind Slot.vl
def mR (m : ME) : MD := fun δ => (m δ).bind Slot.rd
/-- a value as a slot -/
def Res.v (r : Res PyData) : Res Slot := r.bind fun d => .ok (.val d)
section
variable {X : Cx} {a : Ax} {W : WX} {e e1 e2 e3 : Expr} {es : List Expr} {pos : Pos}
theorem dv {m : ME} (h : DE X a W e m) : DV X a W e (mV m) := let ⟨t, p, s⟩ := h; ⟨t, p, snd_v s⟩
theorem dr {m : ME} (h : DE X a W e m) : DR X a W e (mR m) := let ⟨t, p, s⟩ := h; ⟨t, p, snd_d s⟩
/-! names and constants -/
def mVar (i : Nat) : ME := fun δ => match δ[i]? with
  | some (some (.val d)) => .ok (.val d)
  | some (some (.own d)) => .ok (.bor d)
  | some (some (.bor d)) => .ok (.bor d)
  | some (some (.lent d)) => .ok (.bor d)
  | _ => .stuck
theorem snd_var {C : Cn} {i : Nat} : Snd C W (relE C.K) (tVar i) (mVar i) := by
  intro B G0 G H σ δ S Q hq
  have hq' : ROk C W σ G H (relE C.K H) (mVar i δ) Q := hq
  unfold mVar at hq'
  split at hq'
  · rename_i d e
    obtain ⟨v, q, r⟩ := S.sl i _ e
    exact ⟨v, q, hq' v G H (Stp.refl S.gh) r⟩
  · rename_i d e
    obtain ⟨v, q, b, ev, n, nb, t⟩ := S.sl i _ e
    exact ⟨v, q, hq' v G H (Stp.refl S.gh) ⟨b, ev, t⟩⟩
  · rename_i d e
    obtain ⟨v, q, b, ev, nb, t⟩ := S.sl i _ e
    exact ⟨v, q, hq' v G H (Stp.refl S.gh) ⟨b, ev, t⟩⟩
  · rename_i d e
    obtain ⟨v, q, b, ev, n, nl, t⟩ := S.sl i _ e
    exact ⟨v, q, hq' v G H (Stp.refl S.gh) ⟨b, ev, t⟩⟩
  · exact hq'.elim
theorem de_var (i : Nat) {x : Str} {pos : Pos} (hN : X.N[i]? = some x := by rfl) (hv : Vis X.env.scope x := by first | exact Or.inl rfl | exact Or.inr (Or.inl rfl) | exact Or.inr (Or.inr rfl)) (hd : (x == ("__debug__" : Str)) = false := by decide)
    (hcd : (x == ("__classdict__" : Str)) = false := by decide) : DE X a W (.Name x pos) (mVar i) := ⟨_, pe_var hN hv hd hcd, snd_var⟩
/-- a value that is known -/
def mC (d : PyData) : ME := fun _ => .ok (.val d)
theorem snd_c {C : Cn} {v : V} {d : PyData} (h : ∀ G, Rep C.K G v d) : Snd C W (relE C.K) (tC v) (mC d) := fun B G0 G H σ δ S Q hq => hq v G H (Stp.refl S.gh) (h G)
theorem de_int {i j} : DE X a W (.Constant (.int i) j pos) (mC (.int i)) := ⟨_, pe_int, snd_c fun _ => .int i⟩
theorem de_bl {b j} : DE X a W (.Constant (.bool b) j pos) (mC (.bool b)) := ⟨_, pe_bl, snd_c fun _ => .bl b⟩
theorem de_non {j} : DE X a W (.Constant .none j pos) (mC .none) := ⟨_, pe_non, snd_c fun _ => .non⟩
theorem de_str {x j} : DE X a W (.Constant (.str x) j pos) (mC (.str x)) := ⟨_, pe_str, snd_c fun _ => .str x⟩
/-- a module's constant -/
theorem de_glob {x : Str} {v : V} {u : Value} {d : PyData} (hg : Gl X x) (hm : X.mg x = some u) (r : RelV v u) (h : ∀ G, Rep X.K G v d) (hd : (x == ("__debug__" : Str)) = false := by decide) : DE X a W (.Name x pos) (mC d) := ⟨_, pe_glob hg hm r hd, snd_c h⟩
/-! operators -/
/-- f tells what the rule r does -/
def OpS (K : PySem.W.Frag) (r : R2) (f : PyData → PyData → Res Slot) : Prop :=
  ∀ (G H : Hp) (x y : V) (d e : PyData) (s : Slot) (Q : VK), Same G H → RdR K G H x d → RdR K G H y e → f d e = .ok s → (∀ v G' H', Stp G H G' H' → ResF K H G' H' s v → Q v H') → r x y H Q
/-- f never refuses -/
def NoExc (f : PyData → PyData → Res Slot) : Prop := ∀ d e x, f d e ≠ .exc x
def mB (f : PyData → PyData → Res Slot) (ma mb : MD) : ME := fun δ => (ma δ).bind fun d => (mb δ).bind fun e => f d e
theorem snd_op {C : Cn} {r : R2} {f : PyData → PyData → Res Slot} (hf : OpS C.K r f) (hn : NoExc f) {ta tb : TE} {ma mb : MD} (ha : Snd C W (relD C.K) ta ma) (hb : Snd C W (relD C.K) tb mb) : Snd C W (relE C.K) (tOp r ta tb) (mB f ma mb) := by
  refine snd_bind (rel1 := relD C.K) (rel2 := relE C.K) downE ha (t2 := fun x σ H Q => tb σ H fun y H2 => r x y H2 Q) (m2 := fun d δ => (mb δ).bind fun e => f d e) ?_
  intro d x B G0 G H σ δ H0 S rd Q hq
  refine hb B G0 G H σ δ S _ ?_
  have hq' : ROk C W σ G H (relE C.K H) ((mb δ).bind fun e => f d e) Q := hq
  generalize mb δ = rb at hq'
  cases rb with
  | stuck => exact hq'.elim
  | exc z => exact hq'
  | ok e =>
    intro y G' H' st ry
    have hq2 : ROk C W σ G H (relE C.K H) (f d e) Q := hq'
    cases ef : f d e with
    | stuck => rw [ef] at hq2; exact hq2.elim
    | exc z => exact (hn d e z ef).elim
    | ok s =>
      rw [ef] at hq2
      exact hf G' H' x y d e s Q st.gh (rd.mono st.g st.h) ry ef fun v G2 H2 s2 rv => hq2 v G2 H2 (st.trans s2) (rv.mono0 st.h)
theorem de_op {op : Operator} {r : R2} {f : PyData → PyData → Res Slot} (hf : OpS X.K r f) (hn : NoExc f) (ho : OpR X (binaryOp op) r) {ma mb : MD} (ha : DR X a W e1 ma) (hb : DR X a W e2 mb) : DE X a W (.BinOp e1 op e2 pos) (mB f ma mb) :=
  let ⟨_, pa, sa⟩ := ha; let ⟨_, pb, sb⟩ := hb; ⟨_, pe_op ho pa pb, snd_op (C := cn X a) hf hn sa sb⟩
theorem de_cmp {op : CmpOp} {r : R2} {f : PyData → PyData → Res Slot} (hf : OpS X.K r f) (hn : NoExc f) (ho : OpR X (compareOp op) r) {ma mb : MD} (ha : DR X a W e1 ma) (hb : DR X a W e2 mb) (hm : behindInMarks op e2 = false) : DE X a W (.Compare e1 [op] [e2] pos) (mB f ma mb) :=
  let ⟨_, pa, sa⟩ := ha; let ⟨_, pb, sb⟩ := hb; ⟨_, pe_cmpR ho pa pb hm, snd_op (C := cn X a) hf hn sa sb⟩
/-- the truth of a slot that holds a bool -/
def Slot.bl : Slot → Res Bool
  | .val (.bool b) => .ok b
  | _ => .stuck
def mTest (m : ME) : MT := fun δ => (m δ).bind Slot.bl
theorem snd_test {C : Cn} {t : TE} {m : ME} (h : Snd C W (relE C.K) t m) : Snd C W relB (tTest t) (mTest m) := by
  intro B G0 G H σ δ S Q hq
  refine h B G0 G H σ δ S _ ?_
  have hq' : ROk C W σ G H (relB H) ((m δ).bind Slot.bl) Q := hq
  generalize m δ = r at hq'
  cases r with
  | stuck => exact hq'.elim
  | exc x => exact hq'
  | ok s =>
    intro v G' H' st r
    have hq2 : ROk C W σ G H (relB H) s.bl Q := hq'
    unfold Slot.bl at hq2
    split at hq2
    · have r' : Rep C.K G' v (.bool _) := r
      cases r'
      exact ⟨_, rfl, hq2 _ G' H' st rfl⟩
    · exact hq2.elim
theorem dt_cmp {op : CmpOp} {r : R2} {f : PyData → PyData → Res Slot} (hf : OpS X.K r f) (hn : NoExc f) (ho : OpR X (compareOp op) r) {ma mb : MD} (ha : DR X a W e1 ma) (hb : DR X a W e2 mb) (hm : behindInMarks op e2 = false) : DT X a W (.Compare e1 [op] [e2] pos) (mTest (mB f ma mb)) :=
  let ⟨_, pa, sa⟩ := ha; let ⟨_, pb, sb⟩ := hb; ⟨_, pt_cmpR ho pa pb hm, snd_test (C := cn X a) (snd_op (C := cn X a) hf hn sa sb)⟩
/-- an expression that gives a bool, as a test -/
theorem dt_val {m : ME} (h : DE X a W e m) (he : ∀ whole, isTrue e X.env whole = (do let v ← whole; standAt e.pos; holding [v] (truthy v)) := by intro _; rfl) : DT X a W e (mTest m) :=
  let ⟨_, p, s⟩ := h; ⟨_, pt_val p he, snd_test (C := cn X a) s⟩
/-! and, or, not -/
def mAnd (m n : MT) : MT := fun δ => (m δ).bind fun b => if b = true then n δ else .ok false
def mOr (m n : MT) : MT := fun δ => (m δ).bind fun b => if b = true then .ok true else n δ
def mNot (m : MT) : MT := fun δ => (m δ).bind fun b => .ok (!b)
theorem snd_and {C : Cn} {t u : TT} {m n : MT} (h : Snd C W relB t m) (k : Snd C W relB u n) : Snd C W relB (tAnd t u) (mAnd m n) := by
  refine snd_bind (rel1 := relB) (rel2 := relB) downB h (t2 := fun c σ H Q => if c = true then u σ H Q else Q false H) (m2 := fun b δ => if b = true then n δ else .ok false) ?_
  intro b c B G0 G H σ δ H0 S e Q hq
  cases e
  cases b with
  | true =>
    show u σ H Q
    exact k B G0 G H σ δ S Q hq
  | false =>
    show Q false H
    exact hq false G H (Stp.refl S.gh) rfl
theorem snd_or {C : Cn} {t u : TT} {m n : MT} (h : Snd C W relB t m) (k : Snd C W relB u n) : Snd C W relB (tOr t u) (mOr m n) := by
  refine snd_bind (rel1 := relB) (rel2 := relB) downB h (t2 := fun c σ H Q => if c = true then Q true H else u σ H Q) (m2 := fun b δ => if b = true then .ok true else n δ) ?_
  intro b c B G0 G H σ δ H0 S e Q hq
  cases e
  cases b with
  | true =>
    show Q true H
    exact hq true G H (Stp.refl S.gh) rfl
  | false =>
    show u σ H Q
    exact k B G0 G H σ δ S Q hq
theorem snd_not {C : Cn} {t : TT} {m : MT} (h : Snd C W relB t m) : Snd C W relB (tNot t) (mNot m) := by
  refine snd_bind (rel1 := relB) (rel2 := relB) downB h (t2 := fun c σ H Q => Q (!c) H) (m2 := fun b δ => .ok (!b)) ?_
  intro b c B G0 G H σ δ H0 S e Q hq
  cases e
  exact hq (!b) G H (Stp.refl S.gh) rfl
def DW (X : Cx) (a : Ax) (W : WX) (e : Expr) (m : MT) : Prop := ∃ t, PW X e t ∧ Snd (cn X a) W relB t m
theorem dw_and1 {m : MT} (h : DT X a W e m) : DW X a W (.BoolOp .And [e] pos) m := let ⟨t, p, s⟩ := h; ⟨t, pw_and1 p, s⟩
theorem dw_or1 {m : MT} (h : DT X a W e m) : DW X a W (.BoolOp .Or [e] pos) m := let ⟨t, p, s⟩ := h; ⟨t, pw_or1 p, s⟩
theorem dw_and {m n : MT} (h : DT X a W e m) (k : DW X a W (.BoolOp .And (e2 :: es) pos) n) : DW X a W (.BoolOp .And (e :: e2 :: es) pos) (mAnd m n) :=
  let ⟨_, p, s⟩ := h; let ⟨_, q, u⟩ := k; ⟨_, pw_and p q, snd_and s u⟩
theorem dw_or {m n : MT} (h : DT X a W e m) (k : DW X a W (.BoolOp .Or (e2 :: es) pos) n) : DW X a W (.BoolOp .Or (e :: e2 :: es) pos) (mOr m n) :=
  let ⟨_, p, s⟩ := h; let ⟨_, q, u⟩ := k; ⟨_, pw_or p q, snd_or s u⟩
theorem dt_w {m : MT} (h : DW X a W e m) : DT X a W e m := let ⟨t, p, s⟩ := h; ⟨t, p.pt, s⟩
theorem dt_not {m : MT} (h : DT X a W e m) : DT X a W (.UnaryOp .Not e pos) (mNot m) := let ⟨_, p, s⟩ := h; ⟨_, pt_not p, snd_not s⟩
/-- .. as values: bools -/
def mAndV (m n : ME) : ME := fun δ => (mTest m δ).bind fun b => if b = true then n δ else .ok (.val (.bool false))
def mOrV (m n : ME) : ME := fun δ => (mTest m δ).bind fun b => if b = true then .ok (.val (.bool true)) else n δ
def mNotV (m : ME) : ME := fun δ => (mTest m δ).bind fun b => .ok (.val (.bool (!b)))
theorem snd_andV {C : Cn} {t u : TE} {m n : ME} (h : Snd C W (relE C.K) t m) (k : Snd C W (relE C.K) u n) : Snd C W (relE C.K) (tAndV t u) (mAndV m n) := by
  intro B G0 G H σ δ S Q hq
  refine snd_test h B G0 G H σ δ S (fun c H1 => if c = true then u σ H1 Q else Q (.bl false) H1) ?_
  have hq' : ROk C W σ G H (relE C.K H) ((mTest m δ).bind fun b => if b = true then n δ else .ok (.val (.bool false))) Q := hq
  generalize mTest m δ = r at hq'
  cases r with
  | stuck => exact hq'.elim
  | exc x => exact hq'
  | ok b =>
    intro c G' H' st e
    cases e
    cases b with
    | true =>
      show u σ H' Q
      refine k B G0 G' H' σ δ (S.step st) Q ?_
      have hq2 : ROk C W σ G H (relE C.K H) (n δ) Q := hq'
      generalize n δ = r2 at hq2
      cases r2 with
      | stuck => exact hq2.elim
      | exc x => exact fun cls d G2 H2 s2 r => hq2 cls d G2 H2 (st.trans s2) r
      | ok c => exact fun v G2 H2 s2 r => hq2 v G2 H2 (st.trans s2) (ResF.mono0 st.h r)
    | false =>
      show Q (.bl false) H'
      exact hq' _ G' H' st (Rep.bl false)
theorem snd_orV {C : Cn} {t u : TE} {m n : ME} (h : Snd C W (relE C.K) t m) (k : Snd C W (relE C.K) u n) : Snd C W (relE C.K) (tOrV t u) (mOrV m n) := by
  intro B G0 G H σ δ S Q hq
  refine snd_test h B G0 G H σ δ S (fun c H1 => if c = true then Q (.bl true) H1 else u σ H1 Q) ?_
  have hq' : ROk C W σ G H (relE C.K H) ((mTest m δ).bind fun b => if b = true then .ok (.val (.bool true)) else n δ) Q := hq
  generalize mTest m δ = r at hq'
  cases r with
  | stuck => exact hq'.elim
  | exc x => exact hq'
  | ok b =>
    intro c G' H' st e
    cases e
    cases b with
    | false =>
      show u σ H' Q
      refine k B G0 G' H' σ δ (S.step st) Q ?_
      have hq2 : ROk C W σ G H (relE C.K H) (n δ) Q := hq'
      generalize n δ = r2 at hq2
      cases r2 with
      | stuck => exact hq2.elim
      | exc x => exact fun cls d G2 H2 s2 r => hq2 cls d G2 H2 (st.trans s2) r
      | ok c => exact fun v G2 H2 s2 r => hq2 v G2 H2 (st.trans s2) (ResF.mono0 st.h r)
    | true =>
      show Q (.bl true) H'
      exact hq' _ G' H' st (Rep.bl true)
theorem snd_notV {C : Cn} {t : TE} {m : ME} (h : Snd C W (relE C.K) t m) : Snd C W (relE C.K) (tNotV t) (mNotV m) := by
  intro B G0 G H σ δ S Q hq
  refine snd_test h B G0 G H σ δ S (fun c H1 => Q (.bl (!c)) H1) ?_
  have hq' : ROk C W σ G H (relE C.K H) ((mTest m δ).bind fun b => .ok (.val (.bool (!b)))) Q := hq
  generalize mTest m δ = r at hq'
  cases r with
  | stuck => exact hq'.elim
  | exc x => exact hq'
  | ok b =>
    intro c G' H' st e
    cases e
    exact hq' _ G' H' st (Rep.bl _)
theorem de_one {op} {m : ME} (h : DE X a W e m) : DE X a W (.BoolOp op [e] pos) m := let ⟨t, p, s⟩ := h; ⟨t, pe_one p, s⟩
theorem de_and {m n : ME} (h : DE X a W e m) (k : DE X a W (.BoolOp .And (e2 :: es) pos) n) : DE X a W (.BoolOp .And (e :: e2 :: es) pos) (mAndV m n) :=
  let ⟨_, p, s⟩ := h; let ⟨_, q, u⟩ := k; ⟨_, pe_and p q, snd_andV (C := cn X a) s u⟩
theorem de_or {m n : ME} (h : DE X a W e m) (k : DE X a W (.BoolOp .Or (e2 :: es) pos) n) : DE X a W (.BoolOp .Or (e :: e2 :: es) pos) (mOrV m n) :=
  let ⟨_, p, s⟩ := h; let ⟨_, q, u⟩ := k; ⟨_, pe_or p q, snd_orV (C := cn X a) s u⟩
theorem de_not {m : ME} (h : DE X a W e m) : DE X a W (.UnaryOp .Not e pos) (mNotV m) := let ⟨_, p, s⟩ := h; ⟨_, pe_not p, snd_notV (C := cn X a) s⟩
/-- a if t else b -/
def mIte (c : MT) (m n : ME) : ME := fun δ => (c δ).bind fun b => if b = true then m δ else n δ
theorem snd_ite {C : Cn} {tc : TT} {t u : TE} {c : MT} {m n : ME} (hc : Snd C W relB tc c) (h : Snd C W (relE C.K) t m) (k : Snd C W (relE C.K) u n) : Snd C W (relE C.K) (tIf tc t u) (mIte c m n) := by
  refine snd_bind (rel1 := relB) (rel2 := relE C.K) downE hc (t2 := fun c σ H Q => if c = true then t σ H Q else u σ H Q) (m2 := fun b δ => if b = true then m δ else n δ) ?_
  intro b c B G0 G H σ δ H0 S e Q hq
  cases e
  cases b with
  | true =>
    show t σ H Q
    exact h B G0 G H σ δ S Q hq
  | false =>
    show u σ H Q
    exact k B G0 G H σ δ S Q hq
theorem de_ite {c : MT} {m n : ME} (hc : DT X a W e1 c) (h : DE X a W e2 m) (k : DE X a W e3 n) : DE X a W (.IfExp e1 e2 e3 pos) (mIte c m n) :=
  let ⟨_, pc, sc⟩ := hc; let ⟨_, p, s⟩ := h; let ⟨_, q, u⟩ := k; ⟨_, pe_ifExp pc p q, snd_ite (C := cn X a) sc s u⟩
/-! argument lists, displays -/
def mNil : ML := fun _ => .ok []
def mCons (m : MD) (n : ML) : ML := fun δ => (m δ).bind fun d => (n δ).bind fun ds => .ok (d :: ds)
theorem snd_nil {C : Cn} : Snd C W (relL C.K) tNil mNil := fun B G0 G H σ δ S Q hq => hq [] G H (Stp.refl S.gh) .nil
theorem snd_cons {C : Cn} {t : TE} {u : TA} {m : MD} {n : ML} (h : Snd C W (relV C.K) t m) (k : Snd C W (relL C.K) u n) : Snd C W (relL C.K) (tCons t u) (mCons m n) := by
  refine snd_bind (rel1 := relV C.K) (rel2 := relL C.K) downL h (t2 := fun x σ H Q => u σ H fun xs H2 => Q (x :: xs) H2) (m2 := fun d δ => (n δ).bind fun ds => .ok (d :: ds)) ?_
  intro d x B G0 G H σ δ H0 S r Q hq
  refine k B G0 G H σ δ S _ ?_
  have hq' : ROk C W σ G H (relL C.K H) ((n δ).bind fun ds => .ok (d :: ds)) Q := hq
  generalize n δ = rn at hq'
  cases rn with
  | stuck => exact hq'.elim
  | exc z => exact hq'
  | ok ds => exact fun xs G' H' st rs => hq' (x :: xs) G' H' st (.cons (r.mono st.g) rs)
theorem da_nil : DA X a W [] mNil := ⟨_, pa_nil, snd_nil⟩
theorem da_cons {m : MD} {n : ML} (h : DV X a W e m) (k : DA X a W es n) (hs : starEach (e :: es) X.env = (false, eval e X.env) :: starEach es X.env := by rfl) : DA X a W (e :: es) (mCons m n) :=
  let ⟨_, p, s⟩ := h; let ⟨_, q, u⟩ := k; ⟨_, pa_cons p q hs, snd_cons (C := cn X a) s u⟩
def fits {α : Type} (ds : List α) : Bool := decide (ds.length ≤ sizeLine)
def mTup (m : ML) : ME := fun δ => (m δ).bind fun ds => if fits ds = true then .ok (.val (.tuple ds)) else .stuck
def mLst (m : ML) : ME := fun δ => (m δ).bind fun ds => if fits ds = true then .ok (.own (.list ds)) else .stuck
theorem snd_tup {C : Cn} {t : TA} {m : ML} (h : Snd C W (relL C.K) t m) : Snd C W (relE C.K) (tTup t) (mTup m) := by
  refine snd_bind (rel1 := relL C.K) (rel2 := relE C.K) downE h (t2 := fun xs _ H Q => xs.length ≤ sizeLine ∧ ∀ p, H p = none → Q (.ref p) (upd H p (.tup xs))) (m2 := fun ds _ => if fits ds = true then .ok (.val (.tuple ds)) else .stuck) ?_
  intro ds xs B G0 G H σ δ H0 S r Q hq
  by_cases hz : fits ds = true
  · have hq' : ROk C W σ G H (relE C.K H) (if fits ds = true then .ok (.val (.tuple ds)) else .stuck) Q := hq
    rw [if_pos hz] at hq'
    refine ⟨by rw [RepL.length r]; exact of_decide_eq_true hz, fun p hp => ?_⟩
    have st : Stp G H (upd G p (.tup xs)) (upd H p (.tup xs)) := Stp.new S.gh hp
    exact hq' _ _ _ st (Rep.tup (.inl (.inl upd_same)) (RepL.mono st.g r))
  · have hq' : ROk C W σ G H (relE C.K H) (if fits ds = true then .ok (.val (.tuple ds)) else .stuck) Q := hq
    rw [if_neg hz] at hq'
    exact hq'.elim
theorem snd_lst {C : Cn} {t : TA} {m : ML} (h : Snd C W (relL C.K) t m) : Snd C W (relE C.K) (tLst t) (mLst m) := by
  refine snd_bind (rel1 := relL C.K) (rel2 := relE C.K) downE h (t2 := fun xs _ H Q => xs.length ≤ sizeLine ∧ ∀ p, H p = none → Q (.ref p) (upd H p (.lst xs))) (m2 := fun ds _ => if fits ds = true then .ok (.own (.list ds)) else .stuck) ?_
  intro ds xs B G0 G H σ δ H0 S r Q hq
  by_cases hz : fits ds = true
  · have hq' : ROk C W σ G H (relE C.K H) (if fits ds = true then .ok (.own (.list ds)) else .stuck) Q := hq
    rw [if_pos hz] at hq'
    refine ⟨by rw [RepL.length r]; exact of_decide_eq_true hz, fun p hp => ?_⟩
    have st : Stp G H G (upd H p (.lst xs)) := Stp.newH S.gh hp
    exact hq' _ _ _ st ⟨p, rfl, S.gh.free hp, hp, xs, upd_same, r⟩
  · have hq' : ROk C W σ G H (relE C.K H) (if fits ds = true then .ok (.own (.list ds)) else .stuck) Q := hq
    rw [if_neg hz] at hq'
    exact hq'.elim
theorem de_tup {m : ML} {k} (h : DA X a W es m) : DE X a W (.Tuple es k pos) (mTup m) := let ⟨_, p, s⟩ := h; ⟨_, pe_tup p, snd_tup (C := cn X a) s⟩
theorem de_lst {m : ML} (h : DA X a W es m) : DE X a W (.List es pos) (mLst m) := let ⟨_, p, s⟩ := h; ⟨_, pe_lst p, snd_lst (C := cn X a) s⟩
end
end DL
/-! DLc: what code does, said over data: statements, loops, calls, refusals -/
namespace DL
open PySem L2
/-! ### 1. statements -/
abbrev MS := DEnv → Out
def OOk (C : Cn) (W : WX) (B G0 : Hp) (D : Ends) (o : Out) : Prop :=
  match o with
  | .nx δ' => ∀ σ' G' H', StR C B G0 G' H' σ' δ' → D.nx σ' H'
  | .bk δ' => ∀ σ' G' H', StR C B G0 G' H' σ' δ' → D.bk σ' H'
  | .ct δ' => ∀ σ' G' H', StR C B G0 G' H' σ' δ' → D.ct σ' H'
  | .rt s => ∀ v G' H', Stp G0 B G' H' → ResF C.K B G' H' s v → D.rt v H'
  | .rm s d => ∃ a, C.L = some a ∧ ∀ v G' H' dv, s = .val dv → Stp G0 B G' H' → Rep C.K G' v dv → G' a = none → Top C.K G' H' a d → D.rt v H'
  | .ex x δ' => ∀ cls d σ' G' H', StR C B G0 G' H' σ' δ' → ExR C G' H' x cls d → W cls d σ' H'
  | .stuck => False
def SndS (C : Cn) (W : WX) (t : TS) (m : MS) : Prop :=
  ∀ B G0 G H σ δ (D : Ends), StR C B G0 G H σ δ → OOk C W B G0 D (m δ) → t D σ H
def DS (X : Cx) (a : Ax) (W : WX) (st : Stmt) (m : MS) : Prop := ∃ t, PS X st t ∧ SndS (cn X a) W t m
def DSs (X : Cx) (a : Ax) (W : WX) (st : List Stmt) (m : MS) : Prop := ∃ t, PSs X st t ∧ SndS (cn X a) W t m
/-- what an expression's result does next -/
def Res.out {α : Type} (r : Res α) (δ : DEnv) (f : α → Out) : Out := match r with
  | .ok a => f a
  | .exc x => .ex x δ
  | .stuck => .stuck
theorem out_ok {α : Type} (a : α) (δ : DEnv) (f : α → Out) : (Res.ok a).out δ f = f a := rfl
theorem out_exc {α : Type} (x : Exn) (δ : DEnv) (f : α → Out) : (Res.exc x : Res α).out δ f = .ex x δ := rfl
section
variable {C : Cn} {W : WX} {α β : Type} {B G0 G H : Hp} {σ : St} {δ : DEnv} {D : Ends}
/-- an expression, then what its result does -/
theorem snd_out {rel : Hp → Hp → Hp → α → β → Prop} {t : St → Hp → (β → Hp → Prop) → Prop} {m : DEnv → Res α} (h : Snd C W rel t m) (S : StR C B G0 G H σ δ) {f : α → Out} (k : OOk C W B G0 D ((m δ).out δ f)) {R : β → Hp → Prop}
    (hf : ∀ a v G' H', m δ = .ok a → Stp G H G' H' → rel H G' H' a v → OOk C W B G0 D (f a) → R v H') : t σ H R := by
  refine h B G0 G H σ δ S R ?_
  cases e : m δ with
  | stuck => rw [e] at k; exact k.elim
  | exc x => rw [e] at k; exact fun cls d G' H' st r => k cls d σ G' H' (S.step st) r
  | ok a => rw [e] at k; exact fun v G' H' st r => hf a v G' H' e st r k
/-- the state behind nx is a base's -/
theorem OOk.unbase (S : StR C B G0 G H σ δ) {o : Out} (h : OOk C W B G0 D o) : OOk C W B G D o := by
  cases o with
  | nx δ' => exact fun σ' G' H' T => h σ' G' H' (S.unbase T)
  | bk δ' => exact fun σ' G' H' T => h σ' G' H' (S.unbase T)
  | ct δ' => exact fun σ' G' H' T => h σ' G' H' (S.unbase T)
  | rt s => exact fun v G' H' T r => h v G' H' ⟨S.g0.trans T.g, T.h, T.gh, fun a e n => T.fr a (S.fr a e n) n⟩ r
  | rm s d =>
    obtain ⟨a, e, h⟩ := h
    exact ⟨a, e, fun v G' H' dv es T r n t => h v G' H' dv es ⟨S.g0.trans T.g, T.h, T.gh, fun a e n => T.fr a (S.fr a e n) n⟩ r n t⟩
  | ex x δ' => exact fun cls d σ' G' H' T r => h cls d σ' G' H' (S.unbase T) r
  | stuck => exact h
end
def mSeq (m n : MS) : MS := fun δ => match m δ with
  | .nx δ' => n δ'
  | o => o
def mNext : MS := fun δ => .nx δ
section
variable {X : Cx} {a : Ax} {W : WX} {e e1 e2 : Expr} {es : List Expr} {st : Stmt} {sts : List Stmt} {pos : Pos}
theorem sndS_seq {C : Cn} {t u : TS} {m n : MS} (h : SndS C W t m) (k : SndS C W u n) : SndS C W (tSeq t u) (mSeq m n) := by
  intro B G0 G H σ δ D S q
  refine h B G0 G H σ δ { D with nx := u D } S ?_
  have q' : OOk C W B G0 D (match m δ with | .nx δ' => n δ' | o => o) := q
  generalize m δ = o at q'
  cases o with
  | nx δ' => exact fun σ' G' H' T => k B G0 G' H' σ' δ' D T q'
  | bk δ' => exact q'
  | ct δ' => exact q'
  | rt s => exact q'
  | rm s d => exact q'
  | ex x δ' => exact q'
  | stuck => exact q'
theorem dss_nil : DSs X a W [] mNext := ⟨_, pss_nil, fun B G0 G H σ δ D S q => q σ G H S⟩
theorem dss_cons {m n : MS} (h : DS X a W st m) (k : DSs X a W sts n) : DSs X a W (st :: sts) (mSeq m n) := let ⟨_, p, s⟩ := h; let ⟨_, q, u⟩ := k; ⟨_, pss_cons p q, sndS_seq s u⟩
theorem dss_one {m : MS} (h : DS X a W st m) : DSs X a W [st] m := let ⟨_, p, s⟩ := h; ⟨_, pss_one p, s⟩
theorem ds_pass : DS X a W (.Pass pos) mNext := ⟨_, ps_pass, fun B G0 G H σ δ D S q => q σ G H S⟩
def mBk : MS := fun δ => .bk δ
def mCt : MS := fun δ => .ct δ
theorem ds_break : DS X a W (.Break pos) mBk := ⟨_, ps_break, fun B G0 G H σ δ D S q => q σ G H S⟩
theorem ds_continue : DS X a W (.Continue pos) mCt := ⟨_, ps_continue, fun B G0 G H σ δ D S q => q σ G H S⟩
theorem ds_doc {x j pos'} : DS X a W (.Expr (.Constant (.str x) j pos) pos') mNext := ⟨_, ps_doc, fun B G0 G H σ δ D S q => q σ G H S⟩
/-- one's own things at a place become lasting: no code -/
def frz (i : Nat) (δ : DEnv) : DEnv := match δ[i]? with
  | some (some (.own d)) => δ.set i (some (.val d))
  | _ => δ
def mFrz (i : Nat) (m : MS) : MS := fun δ => m (frz i δ)
theorem sndS_frz {C : Cn} {t : TS} {m : MS} (i : Nat) (h : SndS C W t m) : SndS C W t (mFrz i m) := by
  intro B G0 G H σ δ D S q
  have q' : OOk C W B G0 D (m (frz i δ)) := q
  unfold frz at q'
  split at q'
  · rename_i d e
    obtain ⟨G', S'⟩ := S.freeze e
    exact h B G0 G' H σ _ D S' q'
  · exact h B G0 G H σ δ D S q'
theorem ds_frz {m : MS} (i : Nat) (h : DS X a W st m) : DS X a W st (mFrz i m) := let ⟨t, p, s⟩ := h; ⟨t, p, sndS_frz i s⟩
theorem dss_frz {m : MS} (i : Nat) (h : DSs X a W sts m) : DSs X a W sts (mFrz i m) := let ⟨t, p, s⟩ := h; ⟨t, p, sndS_frz i s⟩
/-- an expression for nothing -/
def mDrop (m : ME) : MS := fun δ => (m δ).out δ fun _ => .nx δ
theorem ds_expr {m : ME} (h : DE X a W e m) (hs : swapsWith e none pos.line X.env = pure false := by rfl) : DS X a W (.Expr e pos) (mDrop m) := by
  obtain ⟨t, p, s⟩ := h
  refine ⟨_, ps_expr p hs, fun B G0 G H σ δ D S q => ?_⟩
  refine snd_out s S (R := fun _ H1 => D.nx σ H1) (f := fun _ => .nx δ) q fun _ v G' H' _ st _ k => k σ G' H' (S.step st)
/-- return e -/
def mRet (m : ME) : MS := fun δ => (m δ).out δ fun s => match s with
  | .val d => .rt (.val d)
  | .own d => .rt (.own d)
  | _ => .stuck
theorem ds_ret {m : ME} (h : DE X a W e m) : DS X a W (.Return (some e) pos) (mRet m) := by
  obtain ⟨t, p, s⟩ := h
  refine ⟨_, ps_ret p, fun B G0 G H σ δ D S q => ?_⟩
  refine snd_out s S (R := D.rt) (f := fun s => match s with | .val d => .rt (.val d) | .own d => .rt (.own d) | _ => .stuck) q fun sl v G' H' _ st r k => ?_
  cases sl with
  | val d => exact k v G' H' (S.step st).end r
  | own d =>
    obtain ⟨b, e, n, n0, t⟩ := r
    exact k v G' H' (S.step st).end ⟨b, e, n, S.bh.free n0, t⟩
  | bor d => exact k.elim
  | lent d => exact k.elim
  | exn x => exact k.elim
/-- return x, x a name -/
def mRetN (i : Nat) : MS := fun δ => match δ[i]? with
  | some (some (.val d)) => .rt (.val d)
  | some (some (.own d)) => .rt (.own d)
  | _ => .stuck
theorem ds_retN (i : Nat) {x : Str} {p2 : Pos} (hN : X.N[i]? = some x := by rfl) (hv : Vis X.env.scope x := by first | exact Or.inl rfl | exact Or.inr (Or.inl rfl) | exact Or.inr (Or.inr rfl)) (hd : (x == ("__debug__" : Str)) = false := by decide)
    (hcd : (x == ("__classdict__" : Str)) = false := by decide) : DS X a W (.Return (some (.Name x p2)) pos) (mRetN i) := by
  refine ⟨_, ps_ret (pe_var hN hv hd hcd), fun B G0 G H σ δ D S q => ?_⟩
  have q' : OOk (cn X a) W B G0 D (mRetN i δ) := q
  unfold mRetN at q'
  split at q'
  · rename_i d e
    obtain ⟨v, z, r⟩ := S.sl i _ e
    exact ⟨v, z, q' v G H S.end r⟩
  · rename_i d e
    obtain ⟨v, z, b, ev, n, nb, t⟩ := S.sl i _ e
    exact ⟨v, z, q' v G H S.end ⟨b, ev, n, nb.1, t⟩⟩
  · exact q'.elim
def mRet0 : MS := fun _ => .rt (.val .none)
theorem ds_ret0 : DS X a W (.Return none pos) mRet0 := ⟨_, ps_retN, fun B G0 G H σ δ D S q => q .non G H S.end Rep.non⟩
/-- if -/
def mIf (c : MT) (m n : MS) : MS := fun δ => (c δ).out δ fun b => if b = true then m δ else n δ
theorem ds_if {c : MT} {m n : MS} {s1 s2 : List Stmt} (hc : DT X a W e c) (h : DSs X a W s1 m) (k : DSs X a W s2 n) : DS X a W (.If e s1 s2 pos) (mIf c m n) := by
  obtain ⟨tc, pc, sc⟩ := hc
  obtain ⟨t, p, s⟩ := h
  obtain ⟨u, r, z⟩ := k
  refine ⟨_, ps_if pc p r, fun B G0 G H σ δ D S q => ?_⟩
  refine snd_out sc S (R := fun b H1 => if b = true then t D σ H1 else u D σ H1) (f := fun b => if b = true then m δ else n δ) q fun b c G' H' _ st e k => ?_
  cases e
  cases b with
  | true =>
    show t D σ H'
    exact s B G0 G' H' σ δ D (S.step st) k
  | false =>
    show u D σ H'
    exact z B G0 G' H' σ δ D (S.step st) k
/-- x = e -/
def asgS (i : Nat) (δ : DEnv) : Slot → Out
  | .val d => .nx (δ.set i (some (.val d)))
  | .own d => .nx (δ.set i (some (.own d)))
  | _ => .stuck
def mAsg (i : Nat) (m : ME) : MS := fun δ => (m δ).out δ (asgS i δ)
theorem asg_ok {C : Cn} {B G0 G H G' H' : Hp} {σ : St} {δ : DEnv} {D : Ends} {i : Nat} {s : Slot} {v : V} (S : StR C B G0 G H σ δ) (st : Stp G H G' H') (r : ResF C.K H G' H' s v) (k : OOk C W B G0 D (asgS i δ s)) : D.nx (σ.set i (some v)) H' := by
  cases s with
  | val d => exact k _ G' H' ((S.step st).setVal r)
  | own d =>
    obtain ⟨b, e, n, n0, t⟩ := r
    subst e
    refine k _ G' H' ((S.step st).setOwn n ⟨S.bh.free n0, fun w => (S.lb _ w).2 n0⟩ t fun j d2 e2 e3 => ?_)
    obtain ⟨u, z, c, eu, _, _, tc⟩ := S.sl j _ e2
    rw [e3] at z
    cases z
    cases eu
    exact tc.ne n0
  | bor d => exact k.elim
  | lent d => exact k.elim
  | exn x => exact k.elim
theorem sndS_asg {C : Cn} {t : TE} {m : ME} (i : Nat) (s : Snd C W (relE C.K) t m) : SndS C W (tAsg t (gName i)) (mAsg i m) := by
  intro B G0 G H σ δ D S q
  exact snd_out s S (R := fun x H1 => D.nx (σ.set i (some x)) H1) (f := asgS i δ) q fun sl v G' H' _ st r k => asg_ok S st r k
theorem ds_asg {i : Nat} {x : Str} {m : ME} {pos' : Pos} (hN : X.N.Nodup) (hi : X.N[i]? = some x) (hx : Loc X.env.scope x) (h : DE X a W e m) (hs : swapsWith e (some (.Name x pos')) pos.line X.env = pure false := by rfl)
    (hf : X.fn x = true ∨ X.env.scope.names.lookup x = some .local := by first | exact .inl rfl | exact .inr rfl | assumption) : DS X a W (.Assign [.Name x pos'] e pos) (mAsg i m) :=
  let ⟨_, p, s⟩ := h; ⟨_, ps_set hN hi hx p hs hf, sndS_asg (C := cn X a) i s⟩
/-! ### 2. targets: what they set, the places that they touch -/
abbrev MG := PyData → DEnv → Option DEnv
def Off (vs : List Nat) (σ σ' : St) : Prop := σ'.length = σ.length ∧ ∀ j, j ∉ vs → σ'[j]? = σ[j]?
def SndG (C : Cn) (t : TG) (g : MG) (vs : List Nat) : Prop := ∀ B G0 G H σ δ v d δ' (Q : St → Hp → Prop), StR C B G0 G H σ δ → Rep C.K G v d → g d δ = some δ' → (∀ σ', StR C B G0 G H σ' δ' → Off vs σ σ' → Q σ' H) → t v σ H Q
def SndGs (C : Cn) (t : TGs) (g : List PyData → DEnv → Option DEnv) (vs : List Nat) : Prop := ∀ B G0 G H σ δ us ds δ' (Q : St → Hp → Prop), StR C B G0 G H σ δ → RepL C.K G us ds → g ds δ = some δ' → (∀ σ', StR C B G0 G H σ' δ' → Off vs σ σ' → Q σ' H) → t us σ H Q
def DG (X : Cx) (a : Ax) (e : Expr) (g : MG) (vs : List Nat) : Prop := ∃ t, PG X e t ∧ SndG (cn X a) t g vs
def DGs (X : Cx) (a : Ax) (es : List Expr) (g : List PyData → DEnv → Option DEnv) (vs : List Nat) : Prop := ∃ t, PGs X es t ∧ SndGs (cn X a) t g vs
def mgN (i : Nat) : MG := fun d δ => some (δ.set i (some (.val d)))
def mgNil : List PyData → DEnv → Option DEnv := fun ds δ => match ds with | [] => some δ | _ => none
def mgCons (g : MG) (h : List PyData → DEnv → Option DEnv) : List PyData → DEnv → Option DEnv := fun ds δ => match ds with | d :: r => (g d δ).bind (h r) | [] => none
def mgT (n : Nat) (h : List PyData → DEnv → Option DEnv) : MG := fun d δ => match d with | .tuple ds => if ds.length = n then h ds δ else none | _ => none
theorem dg_name {i : Nat} {x : Str} (hN : X.N.Nodup) (hi : X.N[i]? = some x) (hx : Loc X.env.scope x) (hf : X.fn x = true ∨ X.env.scope.names.lookup x = some .local := by first | exact .inl rfl | exact .inr rfl | assumption) : DG X a (.Name x pos) (mgN i) [i] :=
  ⟨_, pg_name hN hi hx hf, fun B G0 G H σ δ v d δ' Q S r e k => by
    cases e
    exact k _ (S.setVal r) ⟨by simp, fun j hj => List.getElem?_set_ne (fun z => hj (by simp [z]))⟩⟩
theorem dgs_nil : DGs X a [] mgNil [] := ⟨_, pgs_nil, fun B G0 G H σ δ vs ds δ' Q S r e k => by
  cases r with
  | nil => cases e; exact ⟨rfl, k _ S ⟨rfl, fun _ _ => rfl⟩⟩
  | cons _ _ => cases e⟩
theorem dgs_cons {g : MG} {h : List PyData → DEnv → Option DEnv} {us vs : List Nat} (p : DG X a e g us) (q : DGs X a es h vs) (hs : (assignEach (e :: es) X.env).map (·.2) = assign e X.env :: (assignEach es X.env).map (·.2) := by rfl) : DGs X a (e :: es) (mgCons g h) (us ++ vs) := by
  obtain ⟨t, p, s⟩ := p
  obtain ⟨u, q, z⟩ := q
  refine ⟨_, pgs_cons p q hs, fun B G0 G H σ δ vs ds δ' Q S r e k => ?_⟩
  cases r with
  | nil => cases e
  | @cons v vs d ds r rs =>
    have e' : (g d δ).bind (h ds) = some δ' := e
    cases e1 : g d δ with
    | none => rw [e1] at e'; cases e'
    | some δ1 =>
      rw [e1] at e'
      refine ⟨v, vs, rfl, s B G0 G H σ δ v d δ1 _ S r e1 fun σ1 S1 o1 => z B G0 G H σ1 δ1 vs ds δ' Q S1 rs e' fun σ2 S2 o2 => k σ2 S2 ⟨o2.1.trans o1.1, fun j hj => ?_⟩⟩
      rw [List.mem_append, not_or] at hj
      exact (o2.2 j hj.2).trans (o1.2 j hj.1)
theorem dg_tup {k n : Nat} {h : List PyData → DEnv → Option DEnv} {us : List Nat} (hc : X.calm = true) (q : DGs X a es h us) (hn : (assignEach es X.env).length = n := by rfl) (hst : (assignEach es X.env).findIdx? (·.1) = none := by rfl) : DG X a (.Tuple es k pos) (mgT n h) us := by
  obtain ⟨u, q, z⟩ := q
  refine ⟨_, pg_tup hc q hn hst, fun B G0 G H σ δ v d δ' Q S r e k => ?_⟩
  cases r with
  | tup hq rs =>
    have e' : (if _ = n then h _ δ else none) = some δ' := e
    split at e'
    · rename_i hl
      exact ⟨_, _, rfl, sqT_mono S.gh hq, (RepL.length rs).trans hl, z B G0 G H σ δ _ _ δ' Q S rs e' k⟩
    · cases e'
  | lst _ _ => cases e
  | dk _ _ => cases e
  | dt _ _ => cases e
  | non => cases e
  | bl _ => cases e
  | int _ => cases e
  | str _ => cases e
/-- a, b = e and the like -/
def tgtO (g : MG) (δ : DEnv) (d : PyData) : Out := match g d δ with
  | some δ' => .nx δ'
  | none => .stuck
def mAsgG (g : MG) (m : MD) : MS := fun δ => (m δ).out δ (tgtO g δ)
theorem ds_asgG {tg : Expr} {g : MG} {m : MD} (h : DV X a W e m) {vs : List Nat} (hg : DG X a tg g vs) (hs : swapsWithSole [tg] e pos.line X.env = pure false := by rfl) (hw : swappedStores [tg] e X.env = pure none := by rfl)
    (h1 : (assignEach [tg] X.env).map (·.2) = [assign tg X.env] := by rfl) : DS X a W (.Assign [tg] e pos) (mAsgG g m) := by
  obtain ⟨t, p, s⟩ := h
  obtain ⟨u, q, z⟩ := hg
  refine ⟨_, ps_asg p q hs hw h1, fun B G0 G H σ δ D S k => ?_⟩
  refine snd_out s S (R := fun x H1 => u x σ H1 D.nx) (f := tgtO g δ) k fun d v G' H' _ st r k => ?_
  have k' : OOk (cn X a) W B G0 D (tgtO g δ d) := k
  unfold tgtO at k'
  cases e : g d δ with
  | none => rw [e] at k'; exact k'.elim
  | some δ' => rw [e] at k'; exact z B G0 G' H' σ δ v d δ' D.nx (S.step st) r e fun σ' T _ => k' σ' G' H' T
/-! ### 3. for -/
/-- J gives the things of ds, one after another, at any later heap -/
def Gives (C : Cn) (B : Hp) (J : It) (G : Hp) (ds : List PyData) : Prop :=
  ∀ (i : Nat) (G1 H1 : Hp), Same G G1 → Same G1 H1 → Same B H1 →
    (∀ d, ds[i]? = some d → J.go i H1 ∧ ∀ x H', J.yld i H1 x H' → ∃ G2, Stp G1 H1 G2 H' ∧ Rep C.K G2 x d) ∧ (ds.length ≤ i → i ≤ ds.length → J.stop i H1)
def SndI (C : Cn) (W : WX) (wi : TI) (m : ML) : Prop := ∀ B G0 G H σ δ, StR C B G0 G H σ δ → ∀ R : It → Hp → Prop, ROk C W σ G H (fun G' _ ds J => Gives C B J G' ds) (m δ) R → wi σ H R
def DI (X : Cx) (a : Ax) (W : WX) (tg e : Expr) (m : ML) : Prop := ∃ t, PI X tg e t ∧ SndI (cn X a) W t m
def loopO (g : MG) (b : MS) : List PyData → DEnv → Out
  | [], δ => .nx δ
  | d :: ds, δ => match g d δ with
    | none => .stuck
    | some δ1 => match b δ1 with
      | .nx δ2 => loopO g b ds δ2
      | .ct δ2 => loopO g b ds δ2
      | .bk δ2 => .nx δ2
      | o => o
def mFor (g : MG) (it : ML) (b : MS) : MS := fun δ => (it δ).out δ fun ds => loopO g b ds δ
theorem for_ok {C : Cn} {J : It} {g : TG} {mg : MG} {tb : TS} {b : MS} {B G0 G H : Hp} {σ : St} {δ : DEnv} {D : Ends} {ds : List PyData} {vs : List Nat} (hg : SndG C g mg vs) (hb : SndS C W tb b) (S : StR C B G0 G H σ δ) (gv : Gives C B J G ds) (k : OOk C W B G0 D (loopO mg b ds δ)) :
    ∃ Wn : Nat → Nat → St → Hp → Prop, (∃ m, Wn 0 m σ H) ∧ ∀ i m σ H, Wn i m σ H → (J.stop i H ∧ D.nx σ H) ∨ (J.go i H ∧ ∃ N : St → Hp → Prop, (∀ σ' H', N σ' H' → ∃ m', m' < m ∧ Wn (i + 1) m' σ' H') ∧
      ∀ x H', J.yld i H x H' → g x σ H' fun σ2 H2 => tb { D with nx := N, ct := N, bk := D.nx } σ2 H2) := by
  refine ⟨fun i m σ' H' => m + i = ds.length ∧ ∃ G' δ', Same G G' ∧ StR C B G0 G' H' σ' δ' ∧ OOk C W B G0 D (loopO mg b (ds.drop i) δ'), ⟨ds.length, by omega, G, δ, Same.refl _, S, k⟩, ?_⟩
  rintro i m σ1 H1 ⟨hm, G1, δ1, g1, S1, k1⟩
  obtain ⟨go, stop⟩ := gv i G1 H1 g1 S1.gh S1.bh
  by_cases hi : i < ds.length
  · have ed : ds[i]? = some ds[i] := List.getElem?_eq_getElem hi
    obtain ⟨go, yl⟩ := go _ ed
    rw [List.drop_eq_getElem_cons hi] at k1
    refine .inr ⟨go, fun σ' H' => ∃ G' δ', Same G G' ∧ StR C B G0 G' H' σ' δ' ∧ OOk C W B G0 D (loopO mg b (ds.drop (i + 1)) δ'), fun σ' H' n => ⟨m - 1, by omega, by omega, n⟩, fun x H' y => ?_⟩
    obtain ⟨G2, st2, r⟩ := yl x H' y
    have k2 : OOk C W B G0 D (match mg ds[i] δ1 with | none => .stuck | some δ2 => match b δ2 with | .nx δ3 => loopO mg b (ds.drop (i + 1)) δ3 | .ct δ3 => loopO mg b (ds.drop (i + 1)) δ3 | .bk δ3 => .nx δ3 | o => o) := k1
    cases e : mg ds[i] δ1 with
    | none => rw [e] at k2; exact k2.elim
    | some δ2 =>
      rw [e] at k2
      refine hg B G0 G2 H' σ1 δ1 x ds[i] δ2 _ (S1.step st2) r e fun σ2 S2 _ => ?_
      have S2b := S2.base
      refine hb B G2 G2 H' σ2 δ2 _ S2b ?_
      have k3 : OOk C W B G0 D (match b δ2 with | .nx δ3 => loopO mg b (ds.drop (i + 1)) δ3 | .ct δ3 => loopO mg b (ds.drop (i + 1)) δ3 | .bk δ3 => .nx δ3 | o => o) := k2
      generalize b δ2 = o at k3
      have gg : Same G G2 := g1.trans st2.g
      cases o with
      | nx δ3 => exact fun σ3 G3 H3 T => ⟨G3, δ3, gg.trans T.g0, S2.unbase T, k3⟩
      | ct δ3 => exact fun σ3 G3 H3 T => ⟨G3, δ3, gg.trans T.g0, S2.unbase T, k3⟩
      | bk δ3 => exact fun σ3 G3 H3 T => k3 σ3 G3 H3 (S2.unbase T)
      | rt s => exact (OOk.unbase (D := D) (o := .rt s) S2 k3)
      | rm s d => exact (OOk.unbase (D := D) (o := .rm s d) S2 k3)
      | ex x δ3 => exact (OOk.unbase (D := D) (o := .ex x δ3) S2 k3)
      | stuck => exact k3
  · have e : i = ds.length := by omega
    refine .inl ⟨stop (by omega) (by omega), ?_⟩
    rw [List.drop_of_length_le (by omega)] at k1
    exact k1 σ1 G1 H1 S1
theorem ds_for {tg iter : Expr} {body : List Stmt} {g : MG} {it : ML} {b : MS} (hp : PassesOwn (model X.prog X.w) X.A X.env X.xe) (hc : X.calm = true) (hi : DI X a W tg iter it) {vs : List Nat} (hg : DG X a tg g vs) (hb : DSs X a W body b)
    (hs : ∀ x, foldedSetIterable iter X.env x = pure x := by intro _; rfl) : DS X a W (.For tg iter body [] pos) (mFor g it b) := by
  obtain ⟨wi, pi, si⟩ := hi
  obtain ⟨tg', pg, sg⟩ := hg
  obtain ⟨tb, pb, sb⟩ := hb
  refine ⟨_, ps_for hp hc pi pg pb hs, fun B G0 G H σ δ D S k => ?_⟩
  refine si B G0 G H σ δ S _ ?_
  have k' : OOk (cn X a) W B G0 D ((it δ).out δ fun ds => loopO g b ds δ) := k
  cases e : it δ with
  | stuck => rw [e] at k'; exact k'.elim
  | exc x => rw [e] at k'; exact fun cls d G' H' st r => k' cls d σ G' H' (S.step st) r
  | ok ds => rw [e] at k'; exact fun J G' H' st gv => for_ok sg sb (S.step st) gv k'
/-! what is walked -/
theorem gives_list {C : Cn} {B G : Hp} {p : Addr} {xs : List V} {ds : List PyData} (h : SqL C.K G p xs) (r : RepL C.K G xs ds) : Gives C B (Itl C.K p) G ds := by
  intro i G1 H1 g s _
  have q : SqL C.K H1 p xs := sqL_mono (g.trans s) h
  refine ⟨fun d e => ?_, fun h1 h2 => ⟨xs, q, by rw [r.length]; exact h1⟩⟩
  obtain ⟨v, ev, rv⟩ := r.get e
  refine ⟨⟨xs, v, q, ev⟩, fun x H' y => ?_⟩
  obtain ⟨e1, y⟩ := y
  subst e1
  have e2 := y xs q
  rw [ev] at e2; cases e2
  exact ⟨G1, Stp.refl s, rv.mono g⟩
theorem gives_tup {C : Cn} {B G : Hp} {p : Addr} {xs : List V} {ds : List PyData} (h : SqT C.K G p xs) (r : RepL C.K G xs ds) : Gives C B (Itt C.K p) G ds := by
  intro i G1 H1 g s _
  have q : SqT C.K H1 p xs := sqT_mono (g.trans s) h
  refine ⟨fun d e => ?_, fun h1 h2 => ⟨xs, q, by rw [r.length]; exact h1⟩⟩
  obtain ⟨v, ev, rv⟩ := r.get e
  refine ⟨⟨xs, v, q, ev⟩, fun x H' y => ?_⟩
  obtain ⟨e1, y⟩ := y
  subst e1
  have e2 := y xs q
  rw [ev] at e2; cases e2
  exact ⟨G1, Stp.refl s, rv.mono g⟩
/-- for x in a list | in a tuple: the reader says which -/
def asList : PyData → Res (List PyData)
  | .list ds => .ok ds
  | _ => .stuck
def asTuple : PyData → Res (List PyData)
  | .tuple ds => .ok ds
  | _ => .stuck
def miL (m : MD) : ML := fun δ => (m δ).bind asList
def miT (m : MD) : ML := fun δ => (m δ).bind asTuple
theorem di_list {tg : Expr} {m : MD} (h : DV X a W e m) : DI X a W tg e (miL m) := by
  obtain ⟨t, p, s⟩ := h
  refine ⟨_, pi_list p, fun B G0 G H σ δ S R q => ?_⟩
  refine s B G0 G H σ δ S _ ?_
  have q' : ROk (cn X a) W σ G H (fun G' _ ds J => Gives (cn X a) B J G' ds) ((m δ).bind asList) R := q
  generalize m δ = r at q'
  cases r with
  | stuck => exact q'.elim
  | exc x => exact q'
  | ok d =>
    intro v G' H' st rp
    cases rp with
    | lst h r => exact ⟨_, rfl, ⟨_, sqL_mono st.gh h⟩, q' _ G' H' st (gives_list (C := cn X a) h r)⟩
    | tup _ _ => exact q'.elim
    | dk _ _ => exact q'.elim
    | dt _ _ => exact q'.elim
    | non => exact q'.elim
    | bl _ => exact q'.elim
    | int _ => exact q'.elim
    | str _ => exact q'.elim
theorem di_tup {tg : Expr} {m : MD} (h : DV X a W e m) : DI X a W tg e (miT m) := by
  obtain ⟨t, p, s⟩ := h
  refine ⟨_, pi_tup p, fun B G0 G H σ δ S R q => ?_⟩
  refine s B G0 G H σ δ S _ ?_
  have q' : ROk (cn X a) W σ G H (fun G' _ ds J => Gives (cn X a) B J G' ds) ((m δ).bind asTuple) R := q
  generalize m δ = r at q'
  cases r with
  | stuck => exact q'.elim
  | exc x => exact q'
  | ok d =>
    intro v G' H' st rp
    cases rp with
    | tup h r => exact ⟨_, rfl, ⟨_, sqT_mono st.gh h⟩, q' _ G' H' st (gives_tup (C := cn X a) h r)⟩
    | lst _ _ => exact q'.elim
    | dk _ _ => exact q'.elim
    | dt _ _ => exact q'.elim
    | non => exact q'.elim
    | bl _ => exact q'.elim
    | int _ => exact q'.elim
    | str _ => exact q'.elim
/-- ranges -/
def rng (lo : Int) (n : Nat) : List PyData := (List.range n).map fun (i : Nat) => PyData.int (lo + (i : Int))
theorem gives_range {C : Cn} {B G : Hp} {lo : Int} {n : Nat} : Gives C B (Itr lo n) G (rng lo n) := by
  intro i G1 H1 g s _
  have hl : (rng lo n).length = n := by simp [rng]
  refine ⟨fun d e => ?_, fun h1 _ => by rw [hl] at h1; exact h1⟩
  have hi : i < n := by
    have := (List.getElem?_eq_some_iff.mp e).1
    rw [hl] at this; exact this
  refine ⟨hi, fun x H' y => ?_⟩
  obtain ⟨e1, e2⟩ := y
  subst e1 e2
  have ed : d = .int (lo + (i : Int)) := by
    have h3 : (rng lo n)[i]? = some (.int (lo + (i : Int))) := by simp [rng, hi]
    rw [h3] at e; cases e; rfl
  subst ed
  exact ⟨G1, Stp.refl s, .int _⟩
def small62 (i : Int) : Bool := decide (-(2 ^ 62) ≤ i ∧ i < 2 ^ 62)
def rng1 : List PyData → Res (List PyData)
  | [.int n] => if small62 n = true then .ok (rng 0 n.toNat) else .stuck
  | _ => .stuck
def rng2 : List PyData → Res (List PyData)
  | [.int lo, .int hi] => if small62 lo = true ∧ small62 hi = true then .ok (rng lo (hi - lo).toNat) else .stuck
  | _ => .stuck
theorem rng1_ok {ds out : List PyData} (h : rng1 ds = .ok out) : ∃ n, ds = [.int n] ∧ small62 n = true ∧ out = rng 0 n.toNat := by
  unfold rng1 at h
  split at h
  · split at h
    · cases h; exact ⟨_, rfl, by assumption, rfl⟩
    · cases h
  · cases h
theorem rng2_ok {ds out : List PyData} (h : rng2 ds = .ok out) : ∃ lo hi, ds = [.int lo, .int hi] ∧ small62 lo = true ∧ small62 hi = true ∧ out = rng lo (hi - lo).toNat := by
  unfold rng2 at h
  split at h
  · split at h
    · rename_i z; cases h; exact ⟨_, _, rfl, z.1, z.2, rfl⟩
    · cases h
  · cases h
theorem rng1_exc {ds : List PyData} {x : Exn} : rng1 ds ≠ .exc x := by
  unfold rng1
  split
  · split <;> (intro h; cases h)
  · intro h; cases h
theorem rng2_exc {ds : List PyData} {x : Exn} : rng2 ds ≠ .exc x := by
  unfold rng2
  split
  · split <;> (intro h; cases h)
  · intro h; cases h
def mRng1 (m : ML) : ML := fun δ => (m δ).bind rng1
def mRng2 (m : ML) : ML := fun δ => (m δ).bind rng2
theorem di_range1 {tg : Expr} {m : ML} {p : Pos} (hg : Gl X "range") (hm : X.mg "range" = none) (h : DA X a W [e] m) (hs : starEach [e] X.env = [(false, eval e X.env)] := by rfl) : DI X a W tg (.Call (.Name "range" p) [e] [] pos) (mRng1 m) := by
  obtain ⟨t, pa, s⟩ := h
  refine ⟨_, pi_range1 hg hm pa hs, fun B G0 G H σ δ S R q => ?_⟩
  refine s B G0 G H σ δ S _ ?_
  have q' : ROk (cn X a) W σ G H (fun G' _ ds J => Gives (cn X a) B J G' ds) ((m δ).bind rng1) R := q
  generalize m δ = r at q'
  cases r with
  | stuck => exact q'.elim
  | exc x => exact q'
  | ok ds =>
    intro vs G' H' st rp
    rw [bind_ok] at q'
    cases er : rng1 ds with
    | stuck => rw [er] at q'; exact q'.elim
    | exc x => exact (rng1_exc er).elim
    | ok out =>
      rw [er] at q'
      obtain ⟨n, e1, hn, e2⟩ := rng1_ok er
      subst e1 e2
      cases rp with
      | cons r0 r1 =>
        cases r0; cases r1
        have hn' := of_decide_eq_true hn
        exact ⟨n, rfl, hn'.1, hn'.2, q' _ G' H' st gives_range⟩
theorem di_range2 {tg : Expr} {m : ML} {p : Pos} (hg : Gl X "range") (hm : X.mg "range" = none) (h : DA X a W [e1, e2] m) (hs : starEach [e1, e2] X.env = [(false, eval e1 X.env), (false, eval e2 X.env)] := by rfl) (hs2 : starEach [e2] X.env = [(false, eval e2 X.env)] := by rfl) :
    DI X a W tg (.Call (.Name "range" p) [e1, e2] [] pos) (mRng2 m) := by
  obtain ⟨t, pa, s⟩ := h
  refine ⟨_, pi_range2 hg hm pa hs hs2, fun B G0 G H σ δ S R q => ?_⟩
  refine s B G0 G H σ δ S _ ?_
  have q' : ROk (cn X a) W σ G H (fun G' _ ds J => Gives (cn X a) B J G' ds) ((m δ).bind rng2) R := q
  generalize m δ = r at q'
  cases r with
  | stuck => exact q'.elim
  | exc x => exact q'
  | ok ds =>
    intro vs G' H' st rp
    rw [bind_ok] at q'
    cases er : rng2 ds with
    | stuck => rw [er] at q'; exact q'.elim
    | exc x => exact (rng2_exc er).elim
    | ok out =>
      rw [er] at q'
      obtain ⟨lo, hi, e1, h1, h2, e2⟩ := rng2_ok er
      subst e1 e2
      cases rp with
      | cons r0 r1 =>
        cases r0
        cases r1 with
        | cons r0 r1 =>
          cases r0; cases r1
          have h1 := of_decide_eq_true h1
          have h2 := of_decide_eq_true h2
          exact ⟨lo, hi, rfl, ⟨h1.1, h1.2, h2.1, h2.2⟩, q' _ G' H' st gives_range⟩
/-! ### 4. while: by any number of turns that ends it -/
def wturn (δ : DEnv) (t : Res Bool) (o : Out) (k : DEnv → Option Out) : Option Out := match t with
  | .stuck => some .stuck
  | .exc x => some (.ex x δ)
  | .ok false => some (.nx δ)
  | .ok true => match o with
    | .nx δ' => k δ'
    | .ct δ' => k δ'
    | .bk δ' => some (.nx δ')
    | .rt s => some (.rt s)
    | .rm s d => some (.rm s d)
    | .ex x δ' => some (.ex x δ')
    | .stuck => some .stuck
def whileN (c : MT) (b : MS) : Nat → DEnv → Option Out
  | 0, _ => none
  | n + 1, δ => wturn δ (c δ) (b δ) (whileN c b n)
theorem wturn_mono {δ : DEnv} {t : Res Bool} {o r : Out} {k k' : DEnv → Option Out} (h : ∀ δ r, k δ = some r → k' δ = some r) (e : wturn δ t o k = some r) : wturn δ t o k' = some r := by
  cases t with
  | stuck => exact e
  | exc x => exact e
  | ok b =>
    cases b with
    | false => exact e
    | true => cases o <;> first | exact e | exact h _ _ e
theorem whileN_mono {c : MT} {b : MS} : ∀ {n m : Nat} {δ : DEnv} {o : Out}, n ≤ m → whileN c b n δ = some o → whileN c b m δ = some o
  | 0, _, _, _, _, h => nomatch h
  | n + 1, 0, _, _, hl, _ => absurd hl (by omega)
  | n + 1, m + 1, δ, o, hl, h => wturn_mono (fun _ _ e => whileN_mono (by omega) e) h
open Classical in
noncomputable def mWhile (c : MT) (b : MS) : MS := fun δ => if h : ∃ n o, whileN c b n δ = some o then Classical.choose (Classical.choose_spec h) else .stuck
theorem mWhile_of {c : MT} {b : MS} {n : Nat} {δ : DEnv} {o : Out} (h : whileN c b n δ = some o) : mWhile c b δ = o := by
  have hx : ∃ n o, whileN c b n δ = some o := ⟨n, o, h⟩
  unfold mWhile
  rw [dif_pos hx]
  have hs := Classical.choose_spec (Classical.choose_spec hx)
  have h1 := whileN_mono (Nat.le_max_left n (Classical.choose hx)) h
  have h2 := whileN_mono (Nat.le_max_right n (Classical.choose hx)) hs
  rw [h1] at h2
  exact (Option.some.inj h2).symm
theorem mWhile_some {c : MT} {b : MS} {δ : DEnv} (h : mWhile c b δ ≠ .stuck) : ∃ n, whileN c b n δ = some (mWhile c b δ) := by
  by_cases hx : ∃ n o, whileN c b n δ = some o
  · obtain ⟨n, o, e⟩ := hx
    exact ⟨n, by rw [mWhile_of e]; exact e⟩
  · exact (h (by unfold mWhile; rw [dif_neg hx])).elim
def wgo (o : Out) (k : DEnv → Out) : Out := match o with
  | .nx δ' => k δ'
  | .ct δ' => k δ'
  | .bk δ' => .nx δ'
  | o => o
/-- one turn -/
theorem mWhile_eq (c : MT) (b : MS) (δ : DEnv) : mWhile c b δ = (c δ).out δ fun t => if t = true then wgo (b δ) (mWhile c b) else .nx δ := by
  have go : ∀ δ', (∀ n, whileN c b (n + 1) δ = whileN c b n δ') → mWhile c b δ = mWhile c b δ' := fun δ' h => by
    by_cases hs : mWhile c b δ' = .stuck
    · by_cases hs2 : mWhile c b δ = .stuck
      · rw [hs, hs2]
      · obtain ⟨n, e⟩ := mWhile_some hs2
        cases n with
        | zero => cases e
        | succ n => rw [h n] at e; exact (mWhile_of e).symm
    · obtain ⟨n, e⟩ := mWhile_some hs
      exact mWhile_of (n := n + 1) (by rw [h n]; exact e)
  have one : ∀ n, whileN c b (n + 1) δ = wturn δ (c δ) (b δ) (whileN c b n) := fun _ => rfl
  cases ec : c δ with
  | stuck => exact mWhile_of (n := 1) (by rw [one, ec]; rfl)
  | exc x => exact mWhile_of (n := 1) (by rw [one, ec]; rfl)
  | ok t =>
    cases t with
    | false => exact mWhile_of (n := 1) (by rw [one, ec]; rfl)
    | true =>
      rw [out_ok, if_pos rfl]
      cases eb : b δ with
      | nx δ' => exact go δ' fun n => by rw [one, ec, eb]; rfl
      | ct δ' => exact go δ' fun n => by rw [one, ec, eb]; rfl
      | bk δ' => exact mWhile_of (n := 1) (by rw [one, ec, eb]; rfl)
      | rt s => exact mWhile_of (n := 1) (by rw [one, ec, eb]; rfl)
      | rm s d => exact mWhile_of (n := 1) (by rw [one, ec, eb]; rfl)
      | ex x δ' => exact mWhile_of (n := 1) (by rw [one, ec, eb]; rfl)
      | stuck => exact mWhile_of (n := 1) (by rw [one, ec, eb]; rfl)
theorem sndS_while {C : Cn} {tc : TT} {tb : TS} {c : MT} {b : MS} (hc : Snd C W relB tc c) (hb : SndS C W tb b) : SndS C W (tWhile tc tb) (mWhile c b) := by
  intro B G0 G H σ δ D S k
  have hs : mWhile c b δ ≠ .stuck := fun z => by rw [z] at k; exact k.elim
  obtain ⟨n, e⟩ := mWhile_some hs
  refine ⟨fun m σ' H' => ∃ G' δ' o, StR C B G0 G' H' σ' δ' ∧ whileN c b m δ' = some o ∧ OOk C W B G0 D o, ⟨n, G, δ, _, S, e, k⟩, ?_⟩
  rintro m σ1 H1 ⟨G1, δ1, o, S1, e1, k1⟩
  cases m with
  | zero => cases e1
  | succ m =>
    have e1 : wturn δ1 (c δ1) (b δ1) (whileN c b m) = some o := e1
    refine hc B G0 G1 H1 σ1 δ1 S1 _ ?_
    generalize c δ1 = t at e1
    cases t with
    | stuck => cases e1; exact k1
    | exc x => cases e1; exact fun cls d G' H' st r => k1 cls d σ1 G' H' (S1.step st) r
    | ok t =>
      intro t' G' H' st ee
      cases ee
      cases t with
      | false =>
        show D.nx σ1 H'
        cases e1
        exact k1 σ1 G' H' (S1.step st)
      | true =>
        show ∃ N : St → Hp → Prop, (∀ σ' H', N σ' H' → ∃ m', m' < m + 1 ∧ ∃ G' δ' o, StR C B G0 G' H' σ' δ' ∧ whileN c b m' δ' = some o ∧ OOk C W B G0 D o) ∧ tb { D with nx := N, ct := N, bk := D.nx } σ1 H'
        refine ⟨fun σ' H' => ∃ G' δ' o, StR C B G0 G' H' σ' δ' ∧ whileN c b m δ' = some o ∧ OOk C W B G0 D o, fun σ' H' n => ⟨m, Nat.lt_succ_self m, n⟩, ?_⟩
        refine hb B G0 G' H' σ1 δ1 _ (S1.step st) ?_
        generalize b δ1 = ob at e1
        cases ob with
        | nx δ2 => exact fun σ2 G2 H2 T => ⟨G2, δ2, o, T, e1, k1⟩
        | ct δ2 => exact fun σ2 G2 H2 T => ⟨G2, δ2, o, T, e1, k1⟩
        | bk δ2 => cases e1; exact fun σ2 G2 H2 T => k1 σ2 G2 H2 T
        | rt s => cases e1; exact k1
        | rm s d => cases e1; exact k1
        | ex x δ2 => cases e1; exact k1
        | stuck => cases e1; exact k1
theorem ds_while {c : MT} {b : MS} {body : List Stmt} (hp : PassesOwn (model X.prog X.w) X.A X.env X.xe) (hc : DT X a W e c) (hb : DSs X a W body b) : DS X a W (.While e body [] pos) (mWhile c b) :=
  let ⟨_, pc, sc⟩ := hc; let ⟨_, p, s⟩ := hb; ⟨_, ps_while hp pc p, sndS_while sc s⟩
/-! ### 5. defs and calls -/
abbrev F := List Slot → Res Slot
def spD (C : Cn) (f : F) : Sp := fun vs H Q E => ∃ G ss, Same G H ∧ ArgsR C.K G H ss vs ∧ ROk C (fun cls d _ H' => E cls d H') [] G H (relE C.K H) (f ss) Q
def Out.res : Out → Res Slot
  | .rt s => .ok s
  | .nx _ => .ok (.val .none)
  | .ex x _ => .exc x
  | _ => .stuck
def start0 (n : Nat) (ss : List Slot) : DEnv := ss.map some ++ List.replicate (n - ss.length) none
/-- a def of n slots with that body, called with k arguments -/
def mDef (n k : Nat) (b : MS) : F := fun ss => if ss.length = k then (b (start0 n ss)).res else .stuck
theorem ArgsR.length {K : PySem.W.Frag} {G H : Hp} : ∀ {ss : List Slot} {vs : List V}, ArgsR K G H ss vs → ss.length = vs.length := fun r => Paired.length r
theorem ArgsR.get {K : PySem.W.Frag} {G H : Hp} : ∀ {ss : List Slot} {vs : List V} {i : Nat} {s : Slot}, ArgsR K G H ss vs → ss[i]? = some s → ∃ v, vs[i]? = some v ∧ ArgR K G H s v
  | _, _, _, _, .nil, e => by simp at e
  | _, _, 0, _, .cons r _, e => by simp at e; subst e; exact ⟨_, rfl, r⟩
  | _, _, i + 1, _, .cons _ t, e => by
    obtain ⟨u, h1, h2⟩ := ArgsR.get (i := i) t (by simpa using e)
    exact ⟨u, by simpa using h1, h2⟩
theorem start_ok {C : Cn} (hL : C.L = none) {G H : Hp} {N : List Str} {ss : List Slot} {vs : List V} (gh : Same G H) (r : ArgsR C.K G H ss vs) : StR C H G G H (L2.start N vs) (start0 N.length ss) := by
  have hl := ArgsR.length r
  have own : ∀ (i : Nat) (s : Slot), (start0 N.length ss)[i]? = some (some s) → ss[i]? = some s := fun i s e => by
    unfold start0 at e
    by_cases hi : i < ss.length
    · rw [List.getElem?_append_left (by simpa using hi), List.getElem?_map] at e
      cases q : ss[i]? with
      | none => rw [q] at e; cases e
      | some u => rw [q] at e; cases e; rfl
    · rw [List.getElem?_append_right (by simpa using hi)] at e
      have := List.mem_of_getElem? e
      rw [List.mem_replicate] at this
      cases this.2
  refine ⟨Same.refl _, Same.refl _, gh, fun _ e _ => e, ?_, fun a e => (by rw [hL] at e; cases e), fun i j d e e1 _ => ?_, fun i s e => ?_, fun i j d e c _ e1 _ _ => ?_⟩
  · unfold L2.start start0
    simp [hl]
  · obtain ⟨v, q, z⟩ := ArgsR.get r (own i _ e1)
    exact z.elim
  · obtain ⟨v, q, z⟩ := ArgsR.get r (own i s e)
    refine ⟨v, ?_, ?_⟩
    · unfold L2.start
      have hi : i < vs.length := (List.getElem?_eq_some_iff.mp q).1
      rw [List.getElem?_append_left (by simpa using hi), List.getElem?_map, q]
      rfl
    · cases s with
      | val d => exact z
      | own d => exact z.elim
      | bor d => obtain ⟨b, eb, t⟩ := z; exact ⟨b, eb, t.ne, t⟩
      | lent d => exact z.elim
      | exn x => exact z.elim
  · obtain ⟨v, q, z⟩ := ArgsR.get r (own i _ e1)
    exact z.elim
section
variable {P : Program} {w : World} {K : PySem.W.Frag} {mg : Str → Option Value} {base : Heap}
/-- THE RULE for a def -/
theorem fn_d {ax : Ax} {x qual : Str} {st : Stmt} {f : Addr} {fd : FuncData} {N ps : List Str} {k : Nat} {b : MS} (F0 : Fun K x qual st f fd) (S : FnScope N ps (defScope st))
    (hbody : ∀ (cdv : Value) (A : Around) (outer : List Env) (s : Shared) (H : Hp) (E : XK), Room k (A.deeper (PyProof.Rows.envOfC qual (defScope st) s.heap.objs.size f cdv)) →
      DSs (cxOf (L2.CX P w) P w K mg base N qual (defScope st) f cdv A outer s H E) ax (fun cls d _ H' => E cls d H') (defBody st) b) (hA : ax.A = fun _ _ => False) (hL : ax.L = none := by rfl) :
    FnOk P w K mg base (L2.CX P w) (k + 1) f fd ps (spD ⟨K, ax.ec, ax.A, none⟩ (mDef N.length ps.length b)) := by
  refine F0.okX S (fun vs H Q E h => ?_) (fun cdv A outer s H vs Q E hr h => ?_)
  · obtain ⟨G, ss, gh, r, q⟩ := h
    have hl := ArgsR.length r
    unfold mDef at q
    split at q
    · rename_i z; rw [← hl]; exact z
    · exact q.elim
  · obtain ⟨t, p, snd⟩ := hbody cdv A outer s H E hr
    obtain ⟨G, ss, gh, r, q⟩ := h
    refine ⟨t, p, ?_⟩
    unfold mDef at q
    split at q
    · refine snd H G G H _ (start0 N.length ss) _ (start_ok hL gh r) ?_
      generalize b (start0 N.length ss) = o at q
      cases o with
      | nx δ' => exact fun σ' G' H' T => q .non G' H' T.end Rep.non
      | bk δ' => exact q.elim
      | ct δ' => exact q.elim
      | rt sl => exact fun v G' H' T rr => q v G' H' T rr
      | rm sl d => exact q.elim
      | ex x δ' => exact fun cls d σ' G' H' T rr => q cls d G' H' T.end rr
      | stuck => exact q.elim
    · exact q.elim
end
/-- arguments as slots: a value, or one's own thing lent -/
def Slot.arg : Slot → Res Slot
  | .val d => .ok (.val d)
  | .own d => .ok (.val d)
  | .bor d => .ok (.bor d)
  | .lent _ => .stuck
  | .exn _ => .stuck
def mANil : DEnv → Res (List Slot) := fun _ => .ok []
def mACons (m : ME) (n : DEnv → Res (List Slot)) : DEnv → Res (List Slot) := fun δ => (m δ).bind fun s => s.arg.bind fun s => (n δ).bind fun ss => .ok (s :: ss)
theorem ArgsR.mono {K : PySem.W.Frag} {G H G' H' : Hp} (g : Same G G') (h : Same H H') : ∀ {ss : List Slot} {vs : List V}, ArgsR K G H ss vs → ArgsR K G' H' ss vs
  | _, _, .nil => .nil
  | s :: _, _, .cons r t => .cons (by
      cases s with
      | val d => exact Rep.mono g r
      | own d => exact r.elim
      | bor d => obtain ⟨b, e, t⟩ := r; exact ⟨b, e, t.mono g h⟩
      | lent d => exact r.elim
      | exn x => exact r.elim) (ArgsR.mono g h t)
theorem ResF.arg {K : PySem.W.Frag} {G H G1 H1 : Hp} {s s' : Slot} {v : V} (st : Stp G H G1 H1) (h : ResF K H G1 H1 s v) (e : s.arg = .ok s') : ∃ G2, Stp G H G2 H1 ∧ ArgR K G2 H1 s' v := by
  cases s with
  | val d => cases e; exact ⟨G1, st, h⟩
  | own d =>
    cases e
    obtain ⟨G2, s2, _, r⟩ := ResF.vl (d := d) st h rfl
    exact ⟨G2, s2, r⟩
  | bor d => cases e; exact ⟨G1, st, h⟩
  | lent d => cases e
  | exn x => cases e
theorem das_nil : DAS X a W [] mANil := ⟨_, pa_nil, fun B G0 G H σ δ S Q hq => hq [] G H (Stp.refl S.gh) .nil⟩
theorem das_cons {m : ME} {n : DEnv → Res (List Slot)} (h : DE X a W e m) (k : DAS X a W es n) (hs : starEach (e :: es) X.env = (false, eval e X.env) :: starEach es X.env := by rfl) : DAS X a W (e :: es) (mACons m n) := by
  obtain ⟨t, p, s⟩ := h
  obtain ⟨u, q, z⟩ := k
  refine ⟨_, pa_cons p q hs, ?_⟩
  intro B G0 G H σ δ S Q hq
  refine s B G0 G H σ δ S _ ?_
  have hq' : ROk (cn X a) W σ G H (relS X.K H) ((m δ).bind fun s => s.arg.bind fun s => (n δ).bind fun ss => .ok (s :: ss)) Q := hq
  generalize m δ = r at hq'
  cases r with
  | stuck => exact hq'.elim
  | exc x => exact hq'
  | ok sl =>
    intro v G1 H1 st1 r1
    have hq2 : ROk (cn X a) W σ G H (relS X.K H) (sl.arg.bind fun s => (n δ).bind fun ss => .ok (s :: ss)) Q := hq'
    cases ea : sl.arg with
    | stuck => rw [ea] at hq2; exact hq2.elim
    | exc x => cases sl <;> cases ea
    | ok s' =>
      rw [ea] at hq2
      obtain ⟨G2, st2, r2⟩ := ResF.arg st1 r1 ea
      refine z B G0 G2 H1 σ δ (S.step st2) _ ?_
      have hq3 : ROk (cn X a) W σ G H (relS X.K H) ((n δ).bind fun ss => .ok (s' :: ss)) Q := hq2
      generalize n δ = rn at hq3
      cases rn with
      | stuck => exact hq3.elim
      | exc x => exact fun cls d G3 H3 s3 r => hq3 cls d G3 H3 (st2.trans s3) r
      | ok ss =>
        intro vs G3 H3 st3 r3
        refine hq3 (v :: vs) G3 H3 (st2.trans st3) (.cons ?_ r3)
        have := ArgsR.mono (K := X.K) st3.g st3.h (ss := [s']) (vs := [v]) (.cons r2 .nil)
        cases this with
        | cons h _ => exact h
def mCall (f : F) (m : DEnv → Res (List Slot)) : ME := fun δ => (m δ).bind f
theorem de_call {x : Str} {f : F} {k : Nat} {fa : Addr} {fd : FuncData} {ps : List Str} {p : Pos} {m : DEnv → Res (List Slot)} (F0 : FnOk X.prog X.w X.K X.mg X.base (L2.CX X.prog X.w) k fa fd ps (spD ⟨X.K, a.ec, fun _ _ => False, none⟩ f)) (hr : Room k X.A) (hg : Gl X x) (hm : X.mg x = some (.ref fa))
    (hk : PySem.W.keepIn X.K (.ref fa) = true) (hb : Binds X.K fd ps []) (tk : Takes X W) (h : DAS X a W (e :: es) m) (hdb : (x == ("__debug__" : Str)) = false := by decide) (he : starEach (e :: es) X.env = (false, eval e X.env) :: starEach es X.env := by rfl)
    (hpl : (backTo pos (starEach es X.env)).any (·.1) = false := by rfl) : DE X a W (.Call (.Name x p) (e :: es) [] pos) (mCall f m) := by
  obtain ⟨t, pa, s⟩ := h
  refine ⟨_, pe_callS F0 hr hg hm hk hb (fun σ => passAt tk σ) pa hdb he hpl, ?_⟩
  intro B G0 G H σ δ S Q hq
  refine s B G0 G H σ δ S _ ?_
  have hq' : ROk (cn X a) W σ G H (relE X.K H) ((m δ).bind f) Q := hq
  generalize m δ = r at hq'
  cases r with
  | stuck => exact hq'.elim
  | exc x => exact hq'
  | ok ss =>
    intro vs G1 H1 st1 r1
    refine ⟨G1, ss, st1.gh, r1, ?_⟩
    have hq2 : ROk (cn X a) W σ G H (relE X.K H) (f ss) Q := hq'
    generalize f ss = rf at hq2
    cases rf with
    | stuck => exact hq2.elim
    | exc x => exact fun cls d G2 H2 s2 r => hq2 cls d G2 H2 (st1.trans s2) r
    | ok sl => exact fun v G2 H2 s2 r => hq2 v G2 H2 (st1.trans s2) (ResF.mono0 st1.h r)
/-! ### 6. refusals -/
def mRaise (x : Exn) : MS := fun δ => .ex x δ
/-- raise X('..'), X without fields -/
theorem ds_raise {x : Str} {c : EC} {ms : Str} {j : Nat} {p p2 pos' : Pos} (hc : X.calm = true) (tk : Takes X W) (xP : PySem.W.excIn X.K (a.ec c) [.type "ValueError", .type "Exception", .type "BaseException", .type "object"] "ValueError.__new__" = true)
    (gC : X.mg x = some (.ref (a.ec c))) (kC : PySem.W.keepIn X.K (.ref (a.ec c)) = true) (r : Raises X (.ref (a.ec c))) (hg : Gl X x) (hdb : (x == ("__debug__" : Str)) = false := by decide) :
    DS X a W (.Raise (some (.Call (.Name x p) [.Constant (.str ms) j p2] [] pos)) none pos') (mRaise ⟨c, []⟩) :=
  ⟨_, ps_raise hc tk (pmk_own PySem.F.excBase_ValueError xP gC kC r hg hdb), fun B G0 G H σ δ D S q => q _ _ σ G H S ⟨rfl, rfl⟩⟩
end
end DL
/-! DLd: operators and built-ins over data -/
namespace DL
open PySem L2
/-! ### 1. what a readable value is -/
section
variable {K : PySem.W.Frag} {G H : Hp} {v : V}
theorem rdr_int {i : Int} (h : RdR K G H v (.int i)) : v = .int i := by
  rcases h with h | ⟨a, _, t⟩
  · cases h; rfl
  · exact t.elim
theorem rdr_bool {b : Bool} (h : RdR K G H v (.bool b)) : v = .bl b := by
  rcases h with h | ⟨a, _, t⟩
  · cases h; rfl
  · exact t.elim
theorem rdr_str {x : Str} (h : RdR K G H v (.str x)) : v = .str x := by
  rcases h with h | ⟨a, _, t⟩
  · cases h; rfl
  · exact t.elim
theorem rdr_none (h : RdR K G H v .none) : v = .non := by
  rcases h with h | ⟨a, _, t⟩
  · cases h; rfl
  · exact t.elim
theorem rdr_list {ds : List PyData} (g : Same G H) (h : RdR K G H v (.list ds)) : ∃ a xs, v = .ref a ∧ SqL K H a xs ∧ RepL K G xs ds := by
  rcases h with h | ⟨a, e, t⟩
  · cases h with
    | lst q r => exact ⟨_, _, rfl, sqL_mono g q, r⟩
  · obtain ⟨xs, q, r⟩ := t; exact ⟨a, xs, e, .inl (.inl q), r⟩
theorem rdr_tup {ds : List PyData} (g : Same G H) (h : RdR K G H v (.tuple ds)) : ∃ a xs, v = .ref a ∧ SqT K H a xs ∧ RepL K G xs ds := by
  rcases h with h | ⟨a, e, t⟩
  · cases h with
    | tup q r => exact ⟨_, _, rfl, sqT_mono g q, r⟩
  · exact t.elim
theorem rdr_dict {ds : List (PyData × PyData)} (g : Same G H) (h : RdR K G H v (.dict ds)) : ∃ a, v = .ref a ∧ ((∃ l, H a = some (.dK l) ∧ RepK K G l ds) ∨ ∃ l, H a = some (.dT l) ∧ RepT K G l ds) := by
  rcases h with h | ⟨a, e, t⟩
  · cases h with
    | dk q r => exact ⟨_, rfl, .inl ⟨_, g _ _ q, r⟩⟩
    | dt q r => exact ⟨_, rfl, .inr ⟨_, g _ _ q, r⟩⟩
  · exact ⟨a, e, t⟩
mutual
theorem rep_dp (g : Same G H) : ∀ {d : PyData} {v : V}, d.canLay0 = true → Rep K G v d → Dp K H v d
  | .none, _, _, .non => .non
  | .bool _, _, _, .bl b => .bl b
  | .int _, _, _, .int i => .int i
  | .str _, _, _, .str x => .str x
  | .list ds, _, c, .lst h r => .lst (sqL_mono g h) (repL_dp g (by simpa [PyData.canLay0] using c) r)
  | .tuple ds, _, c, .tup h r => .tup (sqT_mono g h) (repL_dp g (by simpa [PyData.canLay0] using c) r)
  | .dict _, _, c, _ => by simp [PyData.canLay0] at c
theorem repL_dp (g : Same G H) : ∀ {ds : List PyData} {vs : List V}, PyData.canLayAll0 ds = true → RepL K G vs ds → DpAll K H vs ds
  | [], _, _, .nil => .nil
  | d :: ds, _, c, .cons h r => by
    have c' : d.canLay0 = true ∧ PyData.canLayAll0 ds = true := by simpa [PyData.canLayAll0] using c
    exact .cons (rep_dp g c'.1 h) (repL_dp g c'.2 r)
end
theorem rdr_dp {d : PyData} (g : Same G H) (c : d.canLay0 = true) (h : RdR K G H v d) : Dp K H v d := by
  rcases h with h | ⟨a, e, t⟩
  · exact rep_dp g c h
  · subst e
    cases d with
    | list ds => obtain ⟨xs, q, r⟩ := t; exact .lst (.inl (.inl q)) (repL_dp g (by simpa [PyData.canLay0] using c) r)
    | dict ds => simp [PyData.canLay0] at c
    | none => exact t.elim
    | bool _ => exact t.elim
    | int _ => exact t.elim
    | str _ => exact t.elim
    | tuple _ => exact t.elim
/-- the built-in type of data -/
def tyD : PyData → String
  | .none => "NoneType"
  | .bool _ => "bool"
  | .int _ => "int"
  | .str _ => "str"
  | .list _ => "list"
  | .tuple _ => "tuple"
  | .dict _ => "dict"
theorem sqL_ty {a : Addr} {xs : List V} (h : SqL K H a xs) : TyX K H (.ref a) (.type "list") := by
  rcases h with (h | ⟨o, h⟩) | ⟨o, its, n, h, hc, _⟩
  · exact .base (.lst h)
  · exact .base (.frz h)
  · exact .kList h hc
theorem sqT_ty {a : Addr} {xs : List V} (h : SqT K H a xs) : TyX K H (.ref a) (.type "tuple") := by
  rcases h with (h | ⟨o, h⟩) | ⟨o, its, n, h, hc, _⟩
  · exact .base (.tup h)
  · exact .fTuple h
  · exact .kTuple h hc
theorem rdr_ty {d : PyData} (g : Same G H) (h : RdR K G H v d) : TyX K H v (.type (tyD d)) := by
  cases d with
  | none => cases rdr_none h; exact .base .non
  | bool b => cases rdr_bool h; exact .base (.bl _)
  | int i => cases rdr_int h; exact .base (.int _)
  | str x => cases rdr_str h; exact .base (.str _)
  | list ds => obtain ⟨a, xs, e, q, _⟩ := rdr_list g h; subst e; exact sqL_ty q
  | tuple ds => obtain ⟨a, xs, e, q, _⟩ := rdr_tup g h; subst e; exact sqT_ty q
  | dict ds =>
    obtain ⟨a, e, q⟩ := rdr_dict g h
    subst e
    rcases q with ⟨l, q, _⟩ | ⟨l, q, _⟩
    · exact .base (.dK q)
    · exact .base (.dT q)
end
/-! ### 2. operators -/
def okV (d : PyData) : Res Slot := .ok (.val d)
def okI (i : Int) : Res Slot := .ok (.val (.int i))
def okB (b : Bool) : Res Slot := .ok (.val (.bool b))
/-- a new list, a new tuple at the end of a rule -/
theorem new_list {K : PySem.W.Frag} {G H : Hp} {xs : List V} {ds : List PyData} {Q : VK} (g : Same G H) (r : RepL K G xs ds) (h : ∀ v G' H', Stp G H G' H' → ResF K H G' H' (.own (.list ds)) v → Q v H') : ∀ p, H p = none → Q (.ref p) (upd H p (.lst xs)) :=
  fun p hp => h _ _ _ (Stp.newH g hp) ⟨p, rfl, g.free hp, hp, xs, upd_same, r⟩
theorem new_tup {K : PySem.W.Frag} {G H : Hp} {xs : List V} {ds : List PyData} {Q : VK} (g : Same G H) (r : RepL K G xs ds) (h : ∀ v G' H', Stp G H G' H' → ResF K H G' H' (.val (.tuple ds)) v → Q v H') : ∀ p, H p = none → Q (.ref p) (upd H p (.tup xs)) :=
  fun p hp => h _ _ _ (Stp.new g hp) (Rep.tup (.inl (.inl upd_same)) (r.mono (Stp.new g hp).g))
section
variable {X : Cx}
/-- list + list, any that are read -/
def rCatG (K : PySem.W.Frag) : R2 := fun x y H Q => ∃ a b xs ys, x = .ref a ∧ y = .ref b ∧ SqL K H a xs ∧ SqL K H b ys ∧ xs.length + ys.length ≤ sizeLine ∧ ∀ p, H p = none → Q (.ref p) (upd H p (.lst (xs ++ ys)))
theorem op_catG : OpR X (binaryOp .Add) (rCatG X.K) := by
  intro pins s σ H x y v u Q I rx ry h
  obtain ⟨a, b, xs, ys, rfl, rfl, ha, hb, hz, q⟩ := h
  cases rx
  cases ry
  obtain ⟨its, r1, ⟨⟨cls, dd, data, sl⟩, n, ho, hc, _, hd⟩, _⟩ := I.list ha
  obtain ⟨its2, r2, ⟨⟨cls2, dd2, data2, sl2⟩, n2, ho2, hc2, _, hd2⟩, _⟩ := I.list hb
  simp only at hc hd hc2 hd2
  subst hc hd hc2 hd2
  have l1 := r1.length
  have l2 := r2.length
  have e : its.toArray ++ its2.toArray = (its ++ its2).toArray := by simp
  refine concat_meets ⟨_, ho, rfl⟩ ⟨_, ho2, rfl⟩ noFill_list_add seq_list_add PySem.F.slot_list_add PySem.F.entry_list_add (PySem.F.args_list_add_2 _ _) (PyProof.Rows.list_addW a b its.toArray its2.toArray n n2 dd dd2 sl sl2 (by simp only [List.size_toArray]; omega)) ⟨ho, ho2, ?_⟩
  rw [e]
  exact ⟨.ref _, _, I.lnew (t' := s.toks) (r1.append r2) (by rw [List.length_append]; omega), rfl, q _ I.fresh⟩
def addF : PyData → PyData → Res Slot
  | .int i, .int j => okI (i + j)
  | .str x, .str y => if x.length + y.length ≤ sizeLine then okV (.str (x ++ y)) else .stuck
  | .list x, .list y => if x.length + y.length ≤ sizeLine then .ok (.own (.list (x ++ y))) else .stuck
  | .tuple x, .tuple y => if x.length + y.length ≤ sizeLine then okV (.tuple (x ++ y)) else .stuck
  | _, _ => .stuck
def rAddD (K : PySem.W.Frag) : R2 := fun x y H Q => rI0 (fun i j => .int (i + j)) x y H Q ∨ ((∃ i j, x = .str i ∧ y = .str j ∧ i.length + j.length ≤ sizeLine ∧ Q (.str (i ++ j)) H) ∨ (rCatG K x y H Q ∨ rCatA K x y H Q))
theorem op_addD : OpR X (binaryOp .Add) (rAddD X.K) := op_add.or (op_add_str.or (op_catG.or op_catA))
theorem addF_ok {K : PySem.W.Frag} : OpS K (rAddD K) addF := by
  intro G H x y d e s Q g rx ry ef q
  unfold addF at ef
  split at ef
  · cases ef
    cases rdr_int rx; cases rdr_int ry
    exact .inl ⟨_, _, rfl, rfl, q _ G H (Stp.refl g) (Rep.int _)⟩
  · split at ef
    · rename_i hz
      cases ef
      cases rdr_str rx; cases rdr_str ry
      exact .inr (.inl ⟨_, _, rfl, rfl, hz, q _ G H (Stp.refl g) (Rep.str _)⟩)
    · cases ef
  · split at ef
    · rename_i hz
      cases ef
      obtain ⟨a, xs, e1, q1, r1⟩ := rdr_list g rx
      obtain ⟨b, ys, e2, q2, r2⟩ := rdr_list g ry
      exact .inr (.inr (.inl ⟨a, b, xs, ys, e1, e2, q1, q2, by rw [r1.length, r2.length]; exact hz, new_list g (r1.append r2) q⟩))
    · cases ef
  · split at ef
    · rename_i hz
      cases ef
      obtain ⟨a, xs, e1, q1, r1⟩ := rdr_tup g rx
      obtain ⟨b, ys, e2, q2, r2⟩ := rdr_tup g ry
      refine .inr (.inr (.inr ⟨a, b, xs, ys, e1, e2, q1, q2, by rw [r1.length, r2.length]; exact hz, fun h => ?_, fun h1 h2 => ?_, fun h1 h2 => new_tup g (r1.append r2) q⟩))
      · subst h
        cases r1
        rcases ry with ry | ⟨c, _, t⟩
        · subst e2; exact q _ G H (Stp.refl g) ry
        · exact t.elim
      · subst h2
        cases r2
        rcases rx with rx | ⟨c, _, t⟩
        · subst e1; rw [List.append_nil] at q; exact q _ G H (Stp.refl g) rx
        · exact t.elim
    · cases ef
  · cases ef
theorem addF_ne : NoExc addF := fun d e x => by
  unfold addF
  split <;> (try split) <;> (intro h; cases h)
def subF : PyData → PyData → Res Slot
  | .int i, .int j => okI (i - j)
  | _, _ => .stuck
theorem subF_ok {K : PySem.W.Frag} : OpS K (rI0 fun i j => .int (i - j)) subF := by
  intro G H x y d e s Q g rx ry ef q
  unfold subF at ef
  split at ef
  · cases ef
    cases rdr_int rx; cases rdr_int ry
    exact ⟨_, _, rfl, rfl, q _ G H (Stp.refl g) (Rep.int _)⟩
  · cases ef
theorem subF_ne : NoExc subF := fun d e x => by
  unfold subF
  split <;> (intro h; cases h)
/-- products: the model's own line -/
theorem op_mulA : OpR X (binaryOp .Mult) (rI IntMulOk fun i j => .int (i * j)) := opI fun _ _ _ _ _ _ _ hc q => PyProof.Rows.mul_int q hc
instance (i j : Int) : Decidable (IntMulOk i j) := by unfold IntMulOk; infer_instance
/-- list * n, any list that is read -/
def rRepG (K : PySem.W.Frag) : R2 := fun x y H Q => ∃ a k xs, x = .ref a ∧ y = .int k ∧ H a = some (.lst xs) ∧ -(2 ^ 63) ≤ k ∧ k < 2 ^ 63 ∧ xs.length * k.toNat ≤ sizeLine ∧ ∀ p, H p = none → Q (.ref p) (upd H p (.lst (List.replicate k.toNat xs).flatten))
def mulF : PyData → PyData → Res Slot
  | .int i, .int j => if IntMulOk i j then okI (i * j) else .stuck
  | _, _ => .stuck
theorem mulF_ok {K : PySem.W.Frag} : OpS K (rI IntMulOk fun i j => .int (i * j)) mulF := by
  intro G H x y d e s Q g rx ry ef q
  unfold mulF at ef
  split at ef
  · split at ef
    · rename_i hz
      cases ef
      cases rdr_int rx; cases rdr_int ry
      exact ⟨_, _, rfl, rfl, hz, q _ G H (Stp.refl g) (Rep.int _)⟩
    · cases ef
  · cases ef
theorem mulF_ne : NoExc mulF := fun d e x => by
  unfold mulF
  split <;> (try split) <;> (intro h; cases h)
def CDivA (i j : Int) : Prop := j ≠ 0 ∧ Builtin.divisionGoesByPylong i j = false
instance (i j : Int) : Decidable (CDivA i j) := by unfold CDivA; infer_instance
theorem op_fdivA : OpR X (binaryOp .FloorDiv) (rI CDivA fun i j => .int (i.fdiv j)) := opI fun _ _ _ _ _ _ _ hc q => PyProof.Rows.floordiv_int hc.1 q (.inl hc.2)
def divF : PyData → PyData → Res Slot
  | .int i, .int j => if CDivA i j then okI (i.fdiv j) else .stuck
  | _, _ => .stuck
theorem divF_ok {K : PySem.W.Frag} : OpS K (rI CDivA fun i j => .int (i.fdiv j)) divF := by
  intro G H x y d e s Q g rx ry ef q
  unfold divF at ef
  split at ef
  · split at ef
    · rename_i hz
      cases ef
      cases rdr_int rx; cases rdr_int ry
      exact ⟨_, _, rfl, rfl, hz, q _ G H (Stp.refl g) (Rep.int _)⟩
    · cases ef
  · cases ef
theorem divF_ne : NoExc divF := fun d e x => by
  unfold divF
  split <;> (try split) <;> (intro h; cases h)
def modF : PyData → PyData → Res Slot
  | .int i, .int j => if j ≠ 0 then okI (i.fmod j) else .stuck
  | _, _ => .stuck
theorem modF_ok {K : PySem.W.Frag} : OpS K (rI (fun _ j => j ≠ 0) fun i j => .int (i.fmod j)) modF := by
  intro G H x y d e s Q g rx ry ef q
  unfold modF at ef
  split at ef
  · split at ef
    · rename_i hz
      cases ef
      cases rdr_int rx; cases rdr_int ry
      exact ⟨_, _, rfl, rfl, hz, q _ G H (Stp.refl g) (Rep.int _)⟩
    · cases ef
  · cases ef
theorem modF_ne : NoExc modF := fun d e x => by
  unfold modF
  split <;> (try split) <;> (intro h; cases h)
instance (i j : Int) : Decidable (CPow i j) := by unfold CPow; infer_instance
def powF : PyData → PyData → Res Slot
  | .int i, .int j => if CPow i j then okI (i ^ j.toNat) else .stuck
  | _, _ => .stuck
theorem powF_ok {K : PySem.W.Frag} : OpS K (rI CPow fun i j => .int (i ^ j.toNat)) powF := by
  intro G H x y d e s Q g rx ry ef q
  unfold powF at ef
  split at ef
  · split at ef
    · rename_i hz
      cases ef
      cases rdr_int rx; cases rdr_int ry
      exact ⟨_, _, rfl, rfl, hz, q _ G H (Stp.refl g) (Rep.int _)⟩
    · cases ef
  · cases ef
theorem powF_ne : NoExc powF := fun d e x => by
  unfold powF
  split <;> (try split) <;> (intro h; cases h)
/-- == -/
def eqF (d e : PyData) : Res Slot := if SeqAt.shaped d = true ∧ SeqAt.shaped e = true then okB (PyData.eqv d e) else .stuck
def neF (d e : PyData) : Res Slot := if SeqAt.shaped d = true ∧ SeqAt.shaped e = true then okB (!PyData.eqv d e) else .stuck
theorem eqF_ok {K : PySem.W.Frag} : OpS K (rEqD K) eqF := by
  intro G H x y d e s Q g rx ry ef q
  unfold eqF at ef
  split at ef
  · rename_i hz
    cases ef
    exact ⟨d, e, rdr_dp g (SeqAt.canLay_of_shaped hz.1) rx, rdr_dp g (SeqAt.canLay_of_shaped hz.2) ry, hz.1, hz.2, q _ G H (Stp.refl g) (Rep.bl _)⟩
  · cases ef
theorem neF_ok {K : PySem.W.Frag} : OpS K (rNeD K) neF := by
  intro G H x y d e s Q g rx ry ef q
  unfold neF at ef
  split at ef
  · rename_i hz
    cases ef
    exact ⟨d, e, rdr_dp g (SeqAt.canLay_of_shaped hz.1) rx, rdr_dp g (SeqAt.canLay_of_shaped hz.2) ry, hz.1, hz.2, q _ G H (Stp.refl g) (Rep.bl _)⟩
  · cases ef
theorem eqF_ne : NoExc eqF := fun d e x => by
  unfold eqF
  split <;> (intro h; cases h)
theorem neF_ne : NoExc neF := fun d e x => by
  unfold neF
  split <;> (intro h; cases h)
/-- < <= > >= of ints -/
def cmpF (p : Int → Int → Bool) : PyData → PyData → Res Slot
  | .int i, .int j => okB (p i j)
  | _, _ => .stuck
theorem cmpF_ok {K : PySem.W.Frag} {p : Int → Int → Bool} : OpS K (rI0 fun i j => .bl (p i j)) (cmpF p) := by
  intro G H x y d e s Q g rx ry ef q
  unfold cmpF at ef
  split at ef
  · cases ef
    cases rdr_int rx; cases rdr_int ry
    exact ⟨_, _, rfl, rfl, q _ G H (Stp.refl g) (Rep.bl _)⟩
  · cases ef
theorem cmpF_ne {p : Int → Int → Bool} : NoExc (cmpF p) := fun d e x => by
  unfold cmpF
  split <;> (intro h; cases h)
abbrev ltF := cmpF fun i j => decide (i < j)
abbrev leF := cmpF fun i j => decide (i ≤ j)
abbrev gtF := cmpF fun i j => decide (j < i)
abbrev geF := cmpF fun i j => decide (j ≤ i)
/-- is, is not: None, True, False on the right -/
def rIsD : R2 := fun x y H Q => (y = .non ∧ Q (.bl (decide (x = .non))) H) ∨ rIsB x y H Q
def rIsNotD : R2 := fun x y H Q => (y = .non ∧ Q (.bl (!decide (x = .non))) H) ∨ rNotB x y H Q
theorem op_isD : OpR X (compareOp .Is) rIsD := op_isN.or op_isBl
theorem op_isNotD : OpR X (compareOp .IsNot) rIsNotD := op_notN.or op_notBl
def PyData.isNone : PyData → Bool
  | .none => true
  | _ => false
def isF (neg : Bool) : PyData → PyData → Res Slot
  | d, .none => okB (neg != PyData.isNone d)
  | .bool a, .bool b => okB (neg != decide (a = b))
  | _, _ => .stuck
theorem rdr_isNone {K : PySem.W.Frag} {G H : Hp} {v : V} {d : PyData} (g : Same G H) (h : RdR K G H v d) : decide (v = .non) = PyData.isNone d := by
  cases d with
  | none => cases rdr_none h; rfl
  | bool b => cases rdr_bool h; rfl
  | int i => cases rdr_int h; rfl
  | str x => cases rdr_str h; rfl
  | list ds => obtain ⟨a, xs, e, q, _⟩ := rdr_list g h; subst e; rfl
  | tuple ds => obtain ⟨a, xs, e, q, _⟩ := rdr_tup g h; subst e; rfl
  | dict ds => obtain ⟨a, e, q⟩ := rdr_dict g h; subst e; rfl
theorem isF_ok {K : PySem.W.Frag} : OpS K rIsD (isF false) := by
  intro G H x y d e s Q g rx ry ef q
  unfold isF at ef
  split at ef
  · cases ef
    cases rdr_none ry
    refine .inl ⟨rfl, q _ G H (Stp.refl g) ?_⟩
    rw [rdr_isNone g rx]
    simpa using (show ResF K H G H (.val (.bool (PyData.isNone d))) (.bl (PyData.isNone d)) from Rep.bl _)
  · cases ef
    cases rdr_bool rx; cases rdr_bool ry
    refine .inr ⟨_, _, rfl, rfl, q _ G H (Stp.refl g) ?_⟩
    simpa using (show ResF K H G H (.val (.bool (decide (_ = _)))) (.bl (decide (_ = _))) from Rep.bl _)
  · cases ef
theorem isNotF_ok {K : PySem.W.Frag} : OpS K rIsNotD (isF true) := by
  intro G H x y d e s Q g rx ry ef q
  unfold isF at ef
  split at ef
  · cases ef
    cases rdr_none ry
    refine .inl ⟨rfl, q _ G H (Stp.refl g) ?_⟩
    rw [rdr_isNone g rx]
    simpa using (show ResF K H G H (.val (.bool (!PyData.isNone d))) (.bl (!PyData.isNone d)) from Rep.bl _)
  · cases ef
    cases rdr_bool rx; cases rdr_bool ry
    refine .inr ⟨_, _, rfl, rfl, q _ G H (Stp.refl g) ?_⟩
    simpa using (show ResF K H G H (.val (.bool (!decide (_ = _)))) (.bl (!decide (_ = _))) from Rep.bl _)
  · cases ef
theorem isF_ne {neg : Bool} : NoExc (isF neg) := fun d e x => by
  unfold isF
  split <;> (intro h; cases h)
/-! ### 3. subscripts, slices -/
variable {a : Ax} {W : WX} {e e1 e2 e3 : Expr} {es : List Expr} {pos : Pos}
def ixF : PyData → PyData → Res Slot
  | .list ds, .int i => match atI ds i with
    | some d => okV d
    | none => .stuck
  | .tuple ds, .int i => match atI ds i with
    | some d => okV d
    | none => .stuck
  | .str z, .int i => if z.length ≤ sizeLine then (match atI z.cps.toList i with
    | some c => okV (.str ⟨#[c]⟩)
    | none => .stuck) else .stuck
  | _, _ => .stuck
theorem repL_at {K : PySem.W.Frag} {G : Hp} {xs : List V} {ds : List PyData} {i : Int} {d : PyData} (r : RepL K G xs ds) (h : atI ds i = some d) : ∃ v, atI xs i = some v ∧ Rep K G v d := by
  unfold atI at h ⊢
  rw [r.length]
  cases e : ixN ds.length i with
  | none => rw [e] at h; cases h
  | some j =>
    rw [e] at h
    exact r.get h
theorem ixF_ok {K : PySem.W.Frag} : OpS K (rIx K) ixF := by
  intro G H x y d e s Q g rx ry ef q
  unfold ixF at ef
  split at ef
  · split at ef
    · rename_i he
      cases ef
      cases rdr_int ry
      obtain ⟨a, xs, e1, q1, r1⟩ := rdr_list g rx
      obtain ⟨v, hv, rv⟩ := repL_at r1 he
      exact .inl ⟨a, xs, _, v, e1, rfl, q1, hv, q v G H (Stp.refl g) rv⟩
    · cases ef
  · split at ef
    · rename_i he
      cases ef
      cases rdr_int ry
      obtain ⟨a, xs, e1, q1, r1⟩ := rdr_tup g rx
      obtain ⟨v, hv, rv⟩ := repL_at r1 he
      exact .inr (.inl ⟨a, xs, _, v, e1, rfl, q1, hv, q v G H (Stp.refl g) rv⟩)
    · cases ef
  · split at ef
    · rename_i hz
      split at ef
      · rename_i he
        cases ef
        cases rdr_int ry
        cases rdr_str rx
        exact .inr (.inr ⟨_, _, _, rfl, rfl, hz, he, q _ G H (Stp.refl g) (Rep.str _)⟩)
      · cases ef
    · cases ef
  · cases ef
theorem ixF_ne : NoExc ixF := fun d e x => by
  unfold ixF
  split <;> (try split) <;> (try split) <;> (intro h; cases h)
/-- xs[i] of a list, a tuple, a text -/
theorem de_ix {ma mb : MD} (ha : DR X a W e1 ma) (hb : DR X a W e2 mb) (hs : PlainIx e2) : DE X a W (.Subscript e1 e2 pos) (mB ixF ma mb) :=
  let ⟨_, pa, sa⟩ := ha; let ⟨_, pb, sb⟩ := hb; ⟨_, pe_ix ix_seq pa pb hs, snd_op (C := cn X a) ixF_ok ixF_ne sa sb⟩
/-- parts of slices -/
abbrev relO : Hp → Hp → Hp → Option Int → Option Int → Prop := fun _ _ _ o p => o = p
def DO (X : Cx) (a : Ax) (W : WX) (e : Option Expr) (m : DEnv → Res (Option Int)) : Prop := ∃ t, PO X e t ∧ Snd (cn X a) W relO t m
def mO0 : DEnv → Res (Option Int) := fun _ => .ok none
def asI : PyData → Res (Option Int)
  | .int i => .ok (some i)
  | _ => .stuck
def mO (m : MD) : DEnv → Res (Option Int) := fun δ => (m δ).bind asI
theorem do_none : DO X a W none mO0 := ⟨_, po_none, fun B G0 G H σ δ S Q hq => hq none G H (Stp.refl S.gh) rfl⟩
theorem do_some {m : MD} (h : DR X a W e m) : DO X a W (some e) (mO m) := by
  obtain ⟨t, p, s⟩ := h
  refine ⟨_, po_some p, fun B G0 G H σ δ S Q hq => ?_⟩
  refine s B G0 G H σ δ S _ ?_
  have hq' : ROk (cn X a) W σ G H (relO H) ((m δ).bind asI) Q := hq
  generalize m δ = r at hq'
  cases r with
  | stuck => exact hq'.elim
  | exc x => exact hq'
  | ok d =>
    intro v G' H' st r
    have hq2 : ROk (cn X a) W σ G H (relO H) (asI d) Q := hq'
    unfold asI at hq2
    split at hq2
    · exact ⟨_, rdr_int r, hq2 _ G' H' st rfl⟩
    · exact hq2.elim
def cutD (xs : List PyData) (lo hi : Option Int) : List PyData := (xs.drop (HT.sIx xs.length 0 lo)).take (HT.sIx xs.length xs.length hi - HT.sIx xs.length 0 lo)
def slF (d : PyData) (lo hi : Option Int) : Res Slot := match d with
  | .list ds => .ok (.own (.list (cutD ds lo hi)))
  | .tuple ds => okV (.tuple (cutD ds lo hi))
  | .str z => if z.length ≤ sizeLine then okV (.str (cutS z lo hi)) else .stuck
  | _ => .stuck
theorem repL_cut {K : PySem.W.Frag} {G : Hp} {xs : List V} {ds : List PyData} (r : RepL K G xs ds) (lo hi : Option Int) : RepL K G (cutV xs lo hi) (cutD ds lo hi) := by
  unfold cutV cutD
  rw [r.length]
  exact (r.drop _).take _
def rSlD (K : PySem.W.Frag) : V → Option Int → Option Int → Hp → VK → Prop := fun x lo hi H Q => rSlL K x lo hi H Q ∨ (rSlA K x lo hi H Q ∨ rSlS x lo hi H Q)
theorem sl_D : L2.SlR X (rSlD X.K) := L2.SlR.or sl_list (L2.SlR.or sl_tupA sl_str)
theorem cutD_whole {ds : List PyData} {lo hi : Option Int} (h : HT.sIx ds.length 0 lo = 0 ∧ HT.sIx ds.length ds.length hi = ds.length) : cutD ds lo hi = ds := by
  unfold cutD
  rw [h.1, h.2]
  simp
theorem slF_ok {K : PySem.W.Frag} {G H : Hp} {x : V} {d : PyData} {lo hi : Option Int} {s : Slot} {Q : VK} (g : Same G H) (rx : RdR K G H x d) (ef : slF d lo hi = .ok s) (q : ∀ v G' H', Stp G H G' H' → ResF K H G' H' s v → Q v H') : rSlD K x lo hi H Q := by
  unfold slF at ef
  split at ef
  · cases ef
    obtain ⟨b, xs, e1, q1, r1⟩ := rdr_list g rx
    exact .inl ⟨b, xs, e1, q1, new_list g (repL_cut r1 lo hi) q⟩
  · cases ef
    obtain ⟨b, xs, e1, q1, r1⟩ := rdr_tup g rx
    refine .inr (.inl ⟨b, xs, e1, q1, fun hw => ?_, fun hw => new_tup g (repL_cut r1 lo hi) q⟩)
    rw [r1.length] at hw
    rw [cutD_whole hw] at q
    rcases rx with rx | ⟨c, _, t⟩
    · subst e1; exact q _ G H (Stp.refl g) rx
    · exact t.elim
  · split at ef
    · rename_i hz
      cases ef
      cases rdr_str rx
      exact .inr (.inr ⟨_, rfl, hz, q _ G H (Stp.refl g) (Rep.str _)⟩)
    · cases ef
  · cases ef
def mSl (m : MD) (ml mh : DEnv → Res (Option Int)) : ME := fun δ => (m δ).bind fun d => (ml δ).bind fun lo => (mh δ).bind fun hi => slF d lo hi
theorem slF_ne {d : PyData} {lo hi : Option Int} {x : Exn} : slF d lo hi ≠ .exc x := by
  unfold slF
  split <;> (try split) <;> (intro h; cases h)
theorem de_sl {m : MD} {ml mh : DEnv → Res (Option Int)} {lo hi : Option Expr} {p2 : Pos} (h : DR X a W e m) (hl : DO X a W lo ml) (hh : DO X a W hi mh) : DE X a W (.Subscript e (.Slice lo hi none p2) pos) (mSl m ml mh) := by
  obtain ⟨t, p, s⟩ := h
  obtain ⟨tl, pl, sl⟩ := hl
  obtain ⟨th, ph, sh⟩ := hh
  refine ⟨_, pe_slice sl_D p pl ph, ?_⟩
  intro B G0 G H σ δ S Q hq
  refine s B G0 G H σ δ S _ ?_
  have hq' : ROk (cn X a) W σ G H (relE X.K H) ((m δ).bind fun d => (ml δ).bind fun lo => (mh δ).bind fun hi => slF d lo hi) Q := hq
  generalize m δ = r at hq'
  cases r with
  | stuck => exact hq'.elim
  | exc x => exact hq'
  | ok d =>
    intro x G1 H1 st1 rd
    rw [bind_ok] at hq'
    refine sl B G0 G1 H1 σ δ (S.step st1) _ ?_
    generalize ml δ = r at hq'
    cases r with
    | stuck => exact hq'.elim
    | exc x => exact fun cls d G2 H2 s2 r => hq' cls d G2 H2 (st1.trans s2) r
    | ok lo =>
      intro l G2 H2 st2 el
      cases el
      rw [bind_ok] at hq'
      refine sh B G0 G2 H2 σ δ ((S.step st1).step st2) _ ?_
      generalize mh δ = r at hq'
      cases r with
      | stuck => exact hq'.elim
      | exc x => exact fun cls d G3 H3 s3 r => hq' cls d G3 H3 ((st1.trans st2).trans s3) r
      | ok hi =>
        intro u G3 H3 st3 eu
        cases eu
        rw [bind_ok] at hq'
        have st := (st1.trans st2).trans st3
        cases ef : slF d lo hi with
        | stuck => rw [ef] at hq'; exact hq'.elim
        | exc z => exact (slF_ne ef).elim
        | ok sl =>
          rw [ef] at hq'
          exact slF_ok st.gh (rd.mono (st2.trans st3).g (st2.trans st3).h) ef fun v G4 H4 s4 r => hq' v G4 H4 (st.trans s4) (ResF.mono0 st.h r)
end
end DL
/-! DLe: built-ins called, comprehensions, try, methods that change a list -/
namespace DL
open PySem L2
section
variable {X : Cx} {a : Ax} {W : WX} {e e1 e2 e3 : Expr} {es : List Expr} {pos : Pos}
/-! ### 1. arguments that are read; built-ins -/
abbrev RdL (K : PySem.W.Frag) (G H : Hp) : List PyData → List V → Prop := Paired fun d v => RdR K G H v d
abbrev relRL (K : PySem.W.Frag) : Hp → Hp → Hp → List PyData → List V → Prop := fun _ G H ds vs => RdL K G H ds vs
def DRL (X : Cx) (a : Ax) (W : WX) (es : List Expr) (m : ML) : Prop := ∃ t, PA X es t ∧ Snd (cn X a) W (relRL X.K) t m
theorem RdL.mono {K : PySem.W.Frag} {G H G' H' : Hp} (g : Same G G') (h : Same H H') : ∀ {ds : List PyData} {vs : List V}, RdL K G H ds vs → RdL K G' H' ds vs
  | _, _, .nil => .nil
  | _, _, .cons r t => .cons (r.mono g h) (RdL.mono g h t)
theorem drl_nil : DRL X a W [] mNil := ⟨_, pa_nil, fun B G0 G H σ δ S Q hq => hq [] G H (Stp.refl S.gh) .nil⟩
theorem drl_cons {m : MD} {n : ML} (h : DR X a W e m) (k : DRL X a W es n) (hs : starEach (e :: es) X.env = (false, eval e X.env) :: starEach es X.env := by rfl) : DRL X a W (e :: es) (mCons m n) := by
  obtain ⟨t, p, s⟩ := h
  obtain ⟨u, q, z⟩ := k
  refine ⟨_, pa_cons p q hs, ?_⟩
  intro B G0 G H σ δ S Q hq
  refine s B G0 G H σ δ S _ ?_
  have hq' : ROk (cn X a) W σ G H (relRL X.K H) ((m δ).bind fun d => (n δ).bind fun ds => .ok (d :: ds)) Q := hq
  generalize m δ = r at hq'
  cases r with
  | stuck => exact hq'.elim
  | exc x => exact hq'
  | ok d =>
    intro v G1 H1 st1 r1
    rw [bind_ok] at hq'
    refine z B G0 G1 H1 σ δ (S.step st1) _ ?_
    generalize n δ = rn at hq'
    cases rn with
    | stuck => exact hq'.elim
    | exc x => exact fun cls d G3 H3 s3 r => hq' cls d G3 H3 (st1.trans s3) r
    | ok ds => exact fun vs G3 H3 st3 r3 => hq' (v :: vs) G3 H3 (st1.trans st3) (.cons (r1.mono st3.g st3.h) r3)
def CallS (K : PySem.W.Frag) (r : List V → Hp → VK → Prop) (f : List PyData → Res Slot) : Prop :=
  (∀ (G H : Hp) (vs : List V) (ds : List PyData) (s : Slot) (Q : VK), Same G H → RdL K G H ds vs → f ds = .ok s → (∀ v G' H', Stp G H G' H' → ResF K H G' H' s v → Q v H') → r vs H Q) ∧ ∀ ds x, f ds ≠ .exc x
def mBi (f : List PyData → Res Slot) (m : ML) : ME := fun δ => (m δ).bind f
theorem snd_bi {C : Cn} {r : List V → Hp → VK → Prop} {f : List PyData → Res Slot} (hf : CallS C.K r f) {t : TA} {m : ML} (h : Snd C W (relRL C.K) t m) : Snd C W (relE C.K) (tCB r t) (mBi f m) := by
  refine snd_bind (rel1 := relRL C.K) (rel2 := relE C.K) downE h (t2 := fun vs _ H Q => r vs H Q) (m2 := fun ds _ => f ds) ?_
  intro ds vs B G0 G H σ δ H0 S rd Q hq
  have hq' : ROk C W σ G H (relE C.K H) (f ds) Q := hq
  cases ef : f ds with
  | stuck => rw [ef] at hq'; exact hq'.elim
  | exc x => exact (hf.2 ds x ef).elim
  | ok s => rw [ef] at hq'; exact hf.1 G H vs ds s Q S.gh rd ef hq'
theorem de_callB {x : Str} {idb : String} {r : List V → Hp → VK → Prop} {f : List PyData → Res Slot} {p : Pos} {m : ML} (hf : CallS X.K r f) (hc : CallR X (.builtin idb) r) (hg : Gl X x) (hm : X.mg x = none) (hv : bootBuiltins x = some (.builtin idb)) (h : DRL X a W (e :: es) m)
    (hn : x ≠ "__name__" := by decide) (hdb : (x == ("__debug__" : Str)) = false := by decide) (he : starEach (e :: es) X.env = (false, eval e X.env) :: starEach es X.env := by rfl) (hpl : (backTo pos (starEach es X.env)).any (·.1) = false := by rfl) : DE X a W (.Call (.Name x p) (e :: es) [] pos) (mBi f m) :=
  let ⟨_, pa, sa⟩ := h; ⟨_, pe_callB hc hg hm hv pa hn hdb he hpl, snd_bi (C := cn X a) hf sa⟩
theorem de_callT {x : Str} {T : String} {r : List V → Hp → VK → Prop} {f : List PyData → Res Slot} {p : Pos} {m : ML} (hf : CallS X.K r f) (hc : CallR X (.type T) r) (hg : Gl X x) (hm : X.mg x = none) (hv : bootBuiltins x = some (.type T)) (h : DRL X a W (e :: es) m)
    (hn : x ≠ "__name__" := by decide) (hdb : (x == ("__debug__" : Str)) = false := by decide) (he : starEach (e :: es) X.env = (false, eval e X.env) :: starEach es X.env := by rfl) (hpl : (backTo pos (starEach es X.env)).any (·.1) = false := by rfl) : DE X a W (.Call (.Name x p) (e :: es) [] pos) (mBi f m) :=
  let ⟨_, pa, sa⟩ := h; ⟨_, pe_callTy hc hg hm hv pa hn hdb he hpl, snd_bi (C := cn X a) hf sa⟩
/-- abs -/
def absF : List PyData → Res Slot
  | [.int i] => okI (if i < 0 then -i else i)
  | _ => .stuck
theorem rdl1 {K : PySem.W.Frag} {G H : Hp} {d : PyData} {vs : List V} (h : RdL K G H [d] vs) : ∃ v, vs = [v] ∧ RdR K G H v d := by
  cases h with
  | cons r t => cases t; exact ⟨_, rfl, r⟩
theorem rdl2 {K : PySem.W.Frag} {G H : Hp} {d e : PyData} {vs : List V} (h : RdL K G H [d, e] vs) : ∃ v u, vs = [v, u] ∧ RdR K G H v d ∧ RdR K G H u e := by
  cases h with
  | cons r t =>
    obtain ⟨u, e, q⟩ := rdl1 t
    subst e
    exact ⟨_, _, rfl, r, q⟩
theorem absF_ok {K : PySem.W.Frag} : CallS K (fun xs H Q => ∃ i, xs = [.int i] ∧ Q (.int (if i < 0 then -i else i)) H) absF := by
  refine ⟨fun G H vs ds s Q g rd ef q => ?_, fun ds x => ?_⟩
  · unfold absF at ef
    split at ef
    · cases ef
      obtain ⟨v, ev, r⟩ := rdl1 rd
      cases rdr_int r
      exact ⟨_, ev, q _ G H (Stp.refl g) (Rep.int _)⟩
    · cases ef
  · unfold absF
    split <;> (intro h; cases h)
/-- len -/
def lenF : List PyData → Res Slot
  | [.str x] => if x.length ≤ sizeLine then okI (x.length : Int) else .stuck
  | [.list ds] => okI (ds.length : Int)
  | [.tuple ds] => okI (ds.length : Int)
  | _ => .stuck
theorem lenF_ok {K : PySem.W.Frag} : CallS K (fun xs H Q => ∃ x n, xs = [x] ∧ LenV K x H n ∧ Q (.int (n : Int)) H) lenF := by
  refine ⟨fun G H vs ds s Q g rd ef q => ?_, fun ds x => ?_⟩
  · unfold lenF at ef
    split at ef
    · split at ef
      · rename_i hz
        cases ef
        obtain ⟨v, ev, r⟩ := rdl1 rd
        cases rdr_str r
        exact ⟨_, _, ev, ⟨hz, rfl⟩, q _ G H (Stp.refl g) (Rep.int _)⟩
      · cases ef
    · cases ef
      obtain ⟨v, ev, r⟩ := rdl1 rd
      obtain ⟨b, xs, e1, q1, r1⟩ := rdr_list g r
      subst e1
      refine ⟨_, xs.length, ev, .inl ⟨xs, q1, rfl⟩, ?_⟩
      rw [r1.length]
      exact q _ G H (Stp.refl g) (Rep.int _)
    · cases ef
      obtain ⟨v, ev, r⟩ := rdl1 rd
      obtain ⟨b, xs, e1, q1, r1⟩ := rdr_tup g r
      subst e1
      refine ⟨_, xs.length, ev, .inr ⟨xs, q1, rfl⟩, ?_⟩
      rw [r1.length]
      exact q _ G H (Stp.refl g) (Rep.int _)
    · cases ef
  · unfold lenF
    split <;> (try split) <;> (intro h; cases h)
/-- list(x), tuple(x) of a list or tuple -/
def listF : List PyData → Res Slot
  | [.list ds] => .ok (.own (.list ds))
  | [.tuple ds] => .ok (.own (.list ds))
  | _ => .stuck
theorem listF_ok {K : PySem.W.Frag} : CallS K (fun xs H Q => ∃ p ys, xs = [.ref p] ∧ (SqL K H p ys ∨ SqT K H p ys) ∧ ∀ l, H l = none → Q (.ref l) (upd H l (.lst ys))) listF := by
  refine ⟨fun G H vs ds s Q g rd ef q => ?_, fun ds x => ?_⟩
  · unfold listF at ef
    split at ef
    · cases ef
      obtain ⟨v, ev, r⟩ := rdl1 rd
      obtain ⟨b, xs, e1, q1, r1⟩ := rdr_list g r
      subst e1
      exact ⟨b, xs, ev, .inl q1, new_list g r1 q⟩
    · cases ef
      obtain ⟨v, ev, r⟩ := rdl1 rd
      obtain ⟨b, xs, e1, q1, r1⟩ := rdr_tup g r
      subst e1
      exact ⟨b, xs, ev, .inr q1, new_list g r1 q⟩
    · cases ef
  · unfold listF
    split <;> (intro h; cases h)
def tupleF : List PyData → Res Slot
  | [.list ds] => okV (.tuple ds)
  | [.tuple ds] => okV (.tuple ds)
  | _ => .stuck
theorem tupleF_ok {K : PySem.W.Frag} : CallS K (fun xs H Q => ∃ p ys, xs = [.ref p] ∧ ((SqL K H p ys ∧ ∀ l, H l = none → Q (.ref l) (upd H l (.tup ys))) ∨ (SqT K H p ys ∧ Q (.ref p) H))) tupleF := by
  refine ⟨fun G H vs ds s Q g rd ef q => ?_, fun ds x => ?_⟩
  · unfold tupleF at ef
    split at ef
    · cases ef
      obtain ⟨v, ev, r⟩ := rdl1 rd
      obtain ⟨b, xs, e1, q1, r1⟩ := rdr_list g r
      subst e1
      exact ⟨b, xs, ev, .inl ⟨q1, new_tup g r1 q⟩⟩
    · cases ef
      obtain ⟨v, ev, r⟩ := rdl1 rd
      obtain ⟨b, xs, e1, q1, r1⟩ := rdr_tup g r
      subst e1
      refine ⟨b, xs, ev, .inr ⟨q1, ?_⟩⟩
      rcases r with r | ⟨c, _, t⟩
      · exact q _ G H (Stp.refl g) r
      · exact t.elim
    · cases ef
  · unfold tupleF
    split <;> (intro h; cases h)
/-- int(n), int(flag); str(n) -/
def intF : List PyData → Res Slot
  | [.int i] => okI i
  | [.bool b] => okI (if b then 1 else 0)
  | _ => .stuck
theorem intF_ok {K : PySem.W.Frag} : CallS K (fun xs H Q => (∃ i, xs = [.int i] ∧ Q (.int i) H) ∨ ∃ k, xs = [.bl k] ∧ Q (.int (if k then 1 else 0)) H) intF := by
  refine ⟨fun G H vs ds s Q g rd ef q => ?_, fun ds x => ?_⟩
  · unfold intF at ef
    split at ef
    · cases ef
      obtain ⟨v, ev, r⟩ := rdl1 rd
      cases rdr_int r
      exact .inl ⟨_, ev, q _ G H (Stp.refl g) (Rep.int _)⟩
    · cases ef
      obtain ⟨v, ev, r⟩ := rdl1 rd
      cases rdr_bool r
      exact .inr ⟨_, ev, q _ G H (Stp.refl g) (Rep.int _)⟩
    · cases ef
  · unfold intF
    split <;> (intro h; cases h)
/-! ### 2. isinstance -/
def isiF (T : String) (d : PyData) : Res Slot := match kitB (tyD d) T with
  | some b => okB b
  | none => .stuck
def mIsi (T : String) (m : MD) : ME := fun δ => (m δ).bind (isiF T)
theorem de_isi {T : String} {x : Str} {m : MD} {p p2 : Pos} (hg : Gl X "isinstance") (hm : X.mg "isinstance" = none) (hgT : Gl X x) (hmT : X.mg x = none) (hvT : bootBuiltins x = some (.type T)) (h : DR X a W e m)
    (hnT : x ≠ "__name__" := by decide) (hdT : (x == ("__debug__" : Str)) = false := by decide)
    (he : starEach (e :: [.Name x p2]) X.env = (false, eval e X.env) :: starEach [.Name x p2] X.env := by rfl) (he2 : starEach [.Name x p2] X.env = (false, eval (.Name x p2) X.env) :: starEach [] X.env := by rfl) (hpl : (backTo pos (starEach [.Name x p2] X.env)).any (·.1) = false := by rfl) :
    DE X a W (.Call (.Name "isinstance" p) [e, .Name x p2] [] pos) (mIsi T m) := by
  obtain ⟨t, pe, s⟩ := h
  refine ⟨_, pe_callB call_isi hg hm PyProof.Rows.boot_isinstance (pa_cons pe (pa_cons (pe_bltn (v := .ty T) hgT hmT hvT rfl hnT hdT) pa_nil he2) he) (by decide) (by decide) he hpl, ?_⟩
  refine snd_bind (rel1 := relD X.K) (rel2 := relE X.K) downE s (t2 := fun x _ H Q => rIsi X.K [x, .ty T] H Q) (m2 := fun d _ => isiF T d) ?_
  intro d v B G0 G H σ δ H0 S rd Q hq
  have hq' : ROk (cn X a) W σ G H (relE X.K H) (isiF T d) Q := hq
  unfold isiF at hq'
  split at hq'
  · rename_i b hb
    exact ⟨v, .ty T, .type (tyD d), .type T, b, rfl, .ty T, rdr_ty S.gh rd, kit_ty hb, hq' _ G H (Stp.refl S.gh) (Rep.bl b)⟩
  · exact hq'.elim
/-- isinstance(e, C) of the refusal that the suite holds -/
def isSub : EC → EC → Bool
  | _, .DuelError => true
  | c, d => decide (c = d)
def mIsE (i : Nat) (c : EC) : ME := fun δ => match δ[i]? with
  | some (some (.exn x)) => okB (isSub x.c c)
  | _ => .stuck
def mIsEV (i : Nat) : ME := fun δ => match δ[i]? with
  | some (some (.exn _)) => okB true
  | _ => .stuck
/-- what is held: one refusal of the class c, without fields -/
abbrev held1 (ec : EC → Addr) (b : Addr) (c : EC) : Ax := ⟨ec, fun b' x => b' = b ∧ x = ⟨c, []⟩, none⟩
theorem de_isE {ec : EC → Addr} {c cc : EC} {i : Nat} {b : Addr} {oe : Obj} {pn : List (Addr × Obj)} {x y : Str} {p p1 p2 : Pos} (hg : Gl (X.suite b ((b, oe) :: pn)) "isinstance") (hm : X.mg "isinstance" = none) (C : ExcC X.K (ec c)) (hz : Zc (.ref (ec c)) none oe) (hf : ∃ vs, oe.data = .fields vs)
    (hgC : Gl (X.suite b ((b, oe) :: pn)) y) (hmC : X.mg y = some (.ref (ec cc))) (hk : PySem.W.kitOne X.K (.ref (ec c)) (.ref (ec cc)) = some (isSub c cc)) (hN : X.N[i]? = some x) (hv : Vis X.env.scope x) (hd : (x == ("__debug__" : Str)) = false := by decide) (hcd : (x == ("__classdict__" : Str)) = false := by decide)
    (hdC : (y == ("__debug__" : Str)) = false := by decide) (he : starEach (.Name x p1 :: [.Name y p2]) X.env = (false, eval (.Name x p1) X.env) :: starEach [.Name y p2] X.env := by rfl) (he2 : starEach [.Name y p2] X.env = (false, eval (.Name y p2) X.env) :: starEach [] X.env := by rfl)
    (hpl : (backTo pos (starEach [.Name y p2] X.env)).any (·.1) = false := by rfl) :
    DE (X.suite b ((b, oe) :: pn)) (held1 ec b c) W (.Call (.Name "isinstance" p) [.Name x p1, .Name y p2] [] pos) (mIsE i cc) := by
  refine ⟨_, pe_callB (call_isE C hz hf) hg hm PyProof.Rows.boot_isinstance (pa_cons (pe_var hN hv hd hcd) (pa_cons (pe_glob (v := .ref (ec cc)) hgC hmC rfl hdC) pa_nil he2) he) (by decide) (by decide) he hpl, ?_⟩
  intro B G0 G H σ δ S Q hq
  have hq' : ROk (cn (X.suite b ((b, oe) :: pn)) (held1 ec b c)) W σ G H (relE X.K H) (mIsE i cc δ) Q := hq
  unfold mIsE at hq'
  split at hq'
  · rename_i z ei
    obtain ⟨v, ev, b', eb, e1, e2⟩ := S.sl i _ ei
    subst eb e1 e2
    exact ⟨_, ev, .ref (ec cc), .ref (ec cc), _, rfl, fun u hu => hu, hk, hq' _ G H (Stp.refl S.gh) (Rep.bl _)⟩
  · exact hq'.elim
theorem de_isET {ec : EC → Addr} {c : EC} {i : Nat} {b : Addr} {oe : Obj} {pn : List (Addr × Obj)} {x y : Str} {T : String} {p p1 p2 : Pos} (hg : Gl (X.suite b ((b, oe) :: pn)) "isinstance") (hm : X.mg "isinstance" = none) (C : ExcC X.K (ec c)) (hz : Zc (.ref (ec c)) none oe) (hf : ∃ vs, oe.data = .fields vs)
    (hgC : Gl (X.suite b ((b, oe) :: pn)) y) (hmC : X.mg y = none) (hvT : bootBuiltins y = some (.type T)) (hk : PySem.W.kitOne X.K (.ref (ec c)) (.type T) = some true) (hN : X.N[i]? = some x) (hv : Vis X.env.scope x) (hd : (x == ("__debug__" : Str)) = false := by decide) (hcd : (x == ("__classdict__" : Str)) = false := by decide)
    (hnT : y ≠ "__name__" := by decide) (hdC : (y == ("__debug__" : Str)) = false := by decide) (he : starEach (.Name x p1 :: [.Name y p2]) X.env = (false, eval (.Name x p1) X.env) :: starEach [.Name y p2] X.env := by rfl) (he2 : starEach [.Name y p2] X.env = (false, eval (.Name y p2) X.env) :: starEach [] X.env := by rfl)
    (hpl : (backTo pos (starEach [.Name y p2] X.env)).any (·.1) = false := by rfl) :
    DE (X.suite b ((b, oe) :: pn)) (held1 ec b c) W (.Call (.Name "isinstance" p) [.Name x p1, .Name y p2] [] pos) (mIsEV i) := by
  refine ⟨_, pe_callB (call_isE C hz hf) hg hm PyProof.Rows.boot_isinstance (pa_cons (pe_var hN hv hd hcd) (pa_cons (pe_bltn (v := .ty T) hgC hmC hvT rfl hnT hdC) pa_nil he2) he) (by decide) (by decide) he hpl, ?_⟩
  intro B G0 G H σ δ S Q hq
  have hq' : ROk (cn (X.suite b ((b, oe) :: pn)) (held1 ec b c)) W σ G H (relE X.K H) (mIsEV i δ) Q := hq
  unfold mIsEV at hq'
  split at hq'
  · rename_i z ei
    obtain ⟨v, ev, b', eb, e1, e2⟩ := S.sl i _ ei
    subst eb e1 e2
    exact ⟨_, ev, .ty T, .type T, _, rfl, fun u hu => hu, hk, hq' _ G H (Stp.refl S.gh) (Rep.bl _)⟩
  · exact hq'.elim
/-! ### 3. comprehensions -/
def wipeD (δ : DEnv) : List Nat → DEnv
  | [] => δ
  | v :: vs => (wipeD δ vs).set v none
theorem StR.wipe {C : Cn} {B G0 G H : Hp} {σ : St} {δ : DEnv} (S : StR C B G0 G H σ δ) : ∀ vs : List Nat, StR C B G0 G H (L2.wipe σ vs) (wipeD δ vs)
  | [] => S
  | v :: vs => (StR.wipe S vs).setNone none
theorem wipe_at {σ : St} {j : Nat} : ∀ {vs : List Nat}, j ∈ vs → (L2.wipe σ vs)[j]? = if j < σ.length then some none else none
  | [], h => by simp at h
  | v :: vs, h => by
    unfold L2.wipe
    by_cases hv : v = j
    · subst hv
      rw [List.getElem?_set]
      simp [wipe_length]
    · rw [List.getElem?_set_ne hv]
      exact wipe_at (by simpa [Ne.symm hv] using h)
theorem wipe_off {σ : St} {j : Nat} : ∀ {vs : List Nat}, j ∉ vs → (L2.wipe σ vs)[j]? = σ[j]?
  | [], _ => rfl
  | v :: vs, h => by
    unfold L2.wipe
    rw [List.mem_cons, not_or] at h
    rw [List.getElem?_set_ne (Ne.symm h.1)]
    exact wipe_off h.2
theorem wipe_eq {σ σ' : St} {us vs : List Nat} (o : Off us (L2.wipe σ vs) σ') (hs : ∀ j ∈ us, j ∈ vs) : L2.wipe σ' vs = L2.wipe σ vs := by
  refine List.ext_getElem? fun j => ?_
  by_cases hj : j ∈ vs
  · rw [wipe_at hj, wipe_at hj, o.1, wipe_length]
  · rw [wipe_off hj, o.2 j (fun z => hj (hs j z))]
def compR (g : MG) (c : MT) (m : MD) (δ : DEnv) : List PyData → Res (List PyData)
  | [] => .ok []
  | d :: ds => match g d δ with
    | none => .stuck
    | some δ1 => match c δ1 with
      | .ok true => match m δ1 with
        | .ok y => (compR g c m δ ds).bind fun ys => .ok (y :: ys)
        | _ => .stuck
      | .ok false => compR g c m δ ds
      | _ => .stuck
def mComp (vs : List Nat) (g : MG) (it : ML) (c : MT) (m : MD) : ME := fun δ => (it δ).bind fun ds => if fits ds = true then (compR g c m (wipeD δ vs) ds).bind fun ys => .ok (.own (.list ys)) else .stuck
abbrev W0 : WX := fun _ _ _ _ => False
theorem snd_comp {C : Cn} {wi : TI} {g : TG} {tt : TT} {te : TE} {mg : MG} {it : ML} {c : MT} {m : MD} {vs us : List Nat} (hi : SndI C W wi it) (hg : SndG C g mg us) (hs : ∀ j ∈ us, j ∈ vs) (ht : Snd C W0 relB tt c) (he : Snd C W0 (relV C.K) te m) :
    Snd C W (relE C.K) (tLc wi g tt te vs) (mComp vs mg it c m) := by
  intro B G0 G H σ δ S Q hq
  refine hi B G0 G H σ δ S _ ?_
  have hq' : ROk C W σ G H (relE C.K H) ((it δ).bind fun ds => if fits ds = true then (compR mg c m (wipeD δ vs) ds).bind fun ys => .ok (.own (.list ys)) else .stuck) Q := hq
  generalize it δ = r at hq'
  cases r with
  | stuck => exact hq'.elim
  | exc x => exact hq'
  | ok ds =>
    intro J G1 H1 st1 gv Dl hD
    rw [bind_ok] at hq'
    by_cases hz : fits ds = true
    · rw [if_pos hz] at hq'
      have hz' : ds.length ≤ sizeLine := of_decide_eq_true hz
      have S1 := S.step st1
      refine ⟨fun i k H' => k + i = ds.length ∧ ∃ G' acc accd, Stp G1 H1 G' H' ∧ G' Dl = none ∧ H' Dl = some (.lst acc) ∧ RepL C.K G' acc accd ∧ acc.length ≤ i ∧ ROk C W σ G H (relE C.K H) ((compR mg c m (wipeD δ vs) (ds.drop i)).bind fun ys => .ok (.own (.list (accd ++ ys)))) Q,
        ⟨ds.length, by omega, G1, [], [], Stp.newH st1.gh hD, st1.gh.free hD, upd_same, .nil, Nat.le_refl _, by simpa using hq'⟩, ?_⟩
      rintro i k H' ⟨hk, G', acc, accd, st2, nD, eD, ra, hl, k1⟩
      obtain ⟨go, stop⟩ := gv i G' H' st2.g st2.gh (S1.bh.trans st2.h)
      by_cases hi : i < ds.length
      · have ed : ds[i]? = some ds[i] := List.getElem?_eq_getElem hi
        obtain ⟨go, yl⟩ := go _ ed
        rw [List.drop_eq_getElem_cons hi] at k1
        refine .inr ⟨go, fun H' => ∃ G' acc accd, Stp G1 H1 G' H' ∧ G' Dl = none ∧ H' Dl = some (.lst acc) ∧ RepL C.K G' acc accd ∧ acc.length ≤ i + 1 ∧ ROk C W σ G H (relE C.K H) ((compR mg c m (wipeD δ vs) (ds.drop (i + 1))).bind fun ys => .ok (.own (.list (accd ++ ys)))) Q,
          fun H' n => ⟨k - 1, by omega, by omega, n⟩, fun x H2 y => ?_⟩
        obtain ⟨G2, st3, r⟩ := yl x H2 y
        have S2 := ((S1.step st2).step st3).wipe vs
        have nD2 : G2 Dl = none := st3.fr Dl nD (by rw [eD]; exact fun z => nomatch z)
        have k2 : ROk C W σ G H (relE C.K H) ((match mg ds[i] (wipeD δ vs) with
          | none => (.stuck : Res (List PyData))
          | some δ1 => match c δ1 with
            | .ok true => match m δ1 with
              | .ok y => (compR mg c m (wipeD δ vs) (ds.drop (i + 1))).bind fun ys => .ok (y :: ys)
              | _ => .stuck
            | .ok false => compR mg c m (wipeD δ vs) (ds.drop (i + 1))
            | _ => .stuck).bind fun ys => .ok (.own (.list (accd ++ ys)))) Q := k1
        cases eg : mg ds[i] (wipeD δ vs) with
        | none => rw [eg] at k2; exact k2.elim
        | some δ1 =>
          rw [eg] at k2
          simp only at k2
          refine hg B G0 G2 H2 _ _ x ds[i] δ1 _ S2 r eg fun σ3 S3 o3 => ⟨?_, ?_⟩
          · exact wipe_eq o3 hs
          · refine ht B G0 G2 H2 σ3 δ1 S3 _ ?_
            cases ec : c δ1 with
            | stuck => rw [ec] at k2; exact k2.elim
            | exc x => rw [ec] at k2; exact k2.elim
            | ok b =>
              intro b' G3 H3 st4 eb
              cases eb
              cases b with
              | true =>
                show te σ3 H3 _
                rw [ec] at k2
                simp only at k2
                refine he B G0 G3 H3 σ3 δ1 (S3.step st4) _ ?_
                cases em : m δ1 with
                | stuck => rw [em] at k2; exact k2.elim
                | exc x => rw [em] at k2; exact k2.elim
                | ok y =>
                  rw [em] at k2
                  intro v G4 H4 st5 rv
                  have st35 := (st3.trans st4).trans st5
                  have e4 : H4 Dl = some (.lst acc) := st35.h _ _ eD
                  have n4 : G4 Dl = none := st35.fr Dl nD (by rw [eD]; exact fun z => nomatch z)
                  refine ⟨acc, e4, by omega, G4, acc ++ [v], accd ++ [y], ?_, n4, upd_same, (RepL.mono st35.g ra).snoc rv, by simp; omega, ?_⟩
                  · have st := st2.trans st35
                    refine ⟨st.g, fun b u q => ?_, fun b u q => ?_, st.fr⟩
                    · rw [upd_ne (ne_of_none q hD)]; exact st.h _ _ q
                    · rw [upd_ne (ne_of_none q n4)]; exact st.gh _ _ q
                  · simp only at k2
                    generalize compR mg c m (wipeD δ vs) (ds.drop (i + 1)) = rr at k2 ⊢
                    cases rr with
                    | stuck => exact k2
                    | exc x => exact k2
                    | ok ys =>
                      rw [bind_ok, bind_ok] at k2
                      rw [bind_ok, List.append_assoc]
                      exact k2
              | false =>
                show ∃ G' acc accd, _
                rw [ec] at k2
                have st34 := st3.trans st4
                exact ⟨G3, acc, accd, st2.trans st34, st34.fr Dl nD (by rw [eD]; exact fun z => nomatch z), st34.h _ _ eD, RepL.mono st34.g ra, by omega, k2⟩
      · have e : i = ds.length := by omega
        refine .inl ⟨stop (by omega) (by omega), ?_⟩
        rw [List.drop_of_length_le (by omega)] at k1
        have k3 : ROk C W σ G H (relE C.K H) (.ok (.own (.list (accd ++ [])))) Q := k1
        rw [List.append_nil] at k3
        exact k3 (.ref Dl) G' H' (st1.trans st2) ⟨Dl, rfl, nD, st1.h.free hD, acc, eD, ra⟩
    · rw [if_neg hz] at hq'
      exact hq'.elim
theorem de_comp {elt tg iter : Expr} {ifs : List Expr} {scope : Scope} {own : List (Str × Nat)} {g : MG} {it : ML} {c : MT} {m : MD} {us : List Nat} (hc : X.calm = true) (hN : X.N.Nodup) (hi : DI X a W tg iter it) (ok : BlkOk X.N X.env.scope scope own) (hu : ∀ j ∈ us, j ∈ own.map (·.2))
    (hg : ∀ (s : Shared) (H : Hp) (C : Addr) (cl : List (Str × Addr)) (fp : List Addr), DG (X.blk s H scope (compEnvC scope cl C X.env) fp) a tg g us) (ht : ∀ (s : Shared) (H : Hp) (C : Addr) (cl : List (Str × Addr)) (fp : List Addr), ∃ t, PTs (X.blk s H scope (compEnvC scope cl C X.env) fp) ifs t ∧ Snd (cn X a) W0 relB t c)
    (he : ∀ (s : Shared) (H : Hp) (C : Addr) (cl : List (Str × Addr)) (fp : List Addr), DV (X.blk s H scope (compEnvC scope cl C X.env) fp) a W0 elt m) (hs : ∀ x, foldedSetIterable iter X.env x = pure x := by intro _; rfl) :
    DE X a W (.ListComp elt [⟨tg, iter, ifs, 0⟩] scope pos) (mComp (own.map (·.2)) g it c m) := by
  obtain ⟨wi, pi, si⟩ := hi
  -- what holds of every block at once
  let tg' : TG := fun v σ H Q => ∀ s H₀ C cl fp, Classical.choose (hg s H₀ C cl fp) v σ H Q
  let tt' : TT := fun σ H Q => ∀ s H₀ C cl fp, Classical.choose (ht s H₀ C cl fp) σ H Q
  let te' : TE := fun σ H Q => ∀ s H₀ C cl fp, Classical.choose (he s H₀ C cl fp) σ H Q
  refine ⟨_, pe_lc (g := tg') (tt := tt') (te := te') hc hN pi ok (fun s H C cl fp => ⟨fun pins s1 σ H1 v u Q I r q => (Classical.choose_spec (hg s H C cl fp)).1.run pins s1 σ H1 v u Q I r (q s H C cl fp)⟩)
    (fun s H C cl fp => ⟨fun pins s1 σ H1 Q I q => (Classical.choose_spec (ht s H C cl fp)).1.run pins s1 σ H1 Q I (q s H C cl fp)⟩) (fun s H C cl fp => ⟨fun pins s1 σ H1 Q I q => (Classical.choose_spec (he s H C cl fp)).1.run pins s1 σ H1 Q I (q s H C cl fp)⟩) hs, ?_⟩
  exact snd_comp (C := cn X a) (us := us) si (fun B G0 G H σ δ v d δ' Q S r e k s H₀ C cl fp => (Classical.choose_spec (hg s H₀ C cl fp)).2 B G0 G H σ δ v d δ' Q S r e k) hu
    (fun B G0 G H σ δ S Q q s H₀ C cl fp => (Classical.choose_spec (ht s H₀ C cl fp)).2 B G0 G H σ δ S Q q) (fun B G0 G H σ δ S Q q s H₀ C cl fp => (Classical.choose_spec (he s H₀ C cl fp)).2 B G0 G H σ δ S Q q)
/-- y = [..], a statement of its own -/
theorem ds_asgComp {i : Nat} {y : Str} {py : Pos} {elt tg iter : Expr} {ifs : List Expr} {scope : Scope} {own : List (Str × Nat)} {g : MG} {it : ML} {c : MT} {m : MD} {us : List Nat} {spos : Pos} (hc : X.calm = true) (hN : X.N.Nodup) (hy : X.N[i]? = some y) (hyl : X.env.scope.names.lookup y = some .local)
    (hsw : swapsWith (.ListComp elt [⟨tg, iter, ifs, 0⟩] scope pos) (some (.Name y py)) spos.line X.env = pure true) (hi : DI X a W tg iter it) (ok : BlkOk X.N X.env.scope scope own) (hu : ∀ j ∈ us, j ∈ own.map (·.2))
    (hg : ∀ (s : Shared) (H : Hp) (C : Addr) (cl : List (Str × Addr)) (fp : List Addr), DG (X.blk s H scope (compEnvC scope cl C X.env) fp) a tg g us) (ht : ∀ (s : Shared) (H : Hp) (C : Addr) (cl : List (Str × Addr)) (fp : List Addr), ∃ t, PTs (X.blk s H scope (compEnvC scope cl C X.env) fp) ifs t ∧ Snd (cn X a) W0 relB t c)
    (he : ∀ (s : Shared) (H : Hp) (C : Addr) (cl : List (Str × Addr)) (fp : List Addr), DV (X.blk s H scope (compEnvC scope cl C X.env) fp) a W0 elt m) (hs : ∀ x, foldedSetIterable iter X.env x = pure x := by intro _; rfl) :
    DS X a W (.Assign [.Name y py] (.ListComp elt [⟨tg, iter, ifs, 0⟩] scope pos) spos) (mAsg i (mComp (own.map (·.2)) g it c m)) := by
  obtain ⟨wi, pi, si⟩ := hi
  let tg' : TG := fun v σ H Q => ∀ s H₀ C cl fp, Classical.choose (hg s H₀ C cl fp) v σ H Q
  let tt' : TT := fun σ H Q => ∀ s H₀ C cl fp, Classical.choose (ht s H₀ C cl fp) σ H Q
  let te' : TE := fun σ H Q => ∀ s H₀ C cl fp, Classical.choose (he s H₀ C cl fp) σ H Q
  refine ⟨_, ps_setLc (g := tg') (tt := tt') (te := te') hc hN hy hyl hsw pi ok (fun s H C cl fp => ⟨fun pins s1 σ H1 v u Q I r q => (Classical.choose_spec (hg s H C cl fp)).1.run pins s1 σ H1 v u Q I r (q s H C cl fp)⟩)
    (fun s H C cl fp => ⟨fun pins s1 σ H1 Q I q => (Classical.choose_spec (ht s H C cl fp)).1.run pins s1 σ H1 Q I (q s H C cl fp)⟩) (fun s H C cl fp => ⟨fun pins s1 σ H1 Q I q => (Classical.choose_spec (he s H C cl fp)).1.run pins s1 σ H1 Q I (q s H C cl fp)⟩) hs, ?_⟩
  exact sndS_asg (C := cn X a) i (snd_comp (C := cn X a) (us := us) si (fun B G0 G H σ δ v d δ' Q S r e k s H₀ C cl fp => (Classical.choose_spec (hg s H₀ C cl fp)).2 B G0 G H σ δ v d δ' Q S r e k) hu
    (fun B G0 G H σ δ S Q q s H₀ C cl fp => (Classical.choose_spec (ht s H₀ C cl fp)).2 B G0 G H σ δ S Q q) (fun B G0 G H σ δ S Q q s H₀ C cl fp => (Classical.choose_spec (he s H₀ C cl fp)).2 B G0 G H σ δ S Q q))
def mYes : MT := fun _ => .ok true
theorem dif_nil : ∃ t, PTs X [] t ∧ Snd (cn X a) W relB t mYes := ⟨_, pts_nil, fun B G0 G H σ δ S Q q => q true G H (Stp.refl S.gh) rfl⟩
theorem dif_one {c : MT} (h : DT X a W e c) : ∃ t, PTs X [e] t ∧ Snd (cn X a) W relB t c := let ⟨_, p, s⟩ := h; ⟨_, pts_one p, s⟩
/-! ### 4. methods that change a list of one's own -/
def mApp (i : Nat) (m : MD) : MS := fun δ => match δ[i]? with
  | some (some (.own (.list ds))) => if ds.length < sizeLine then (m δ).out δ fun d => .nx (δ.set i (some (.own (.list (ds ++ [d]))))) else .stuck
  | _ => .stuck
theorem ds_append {i : Nat} {x : Str} {m : MD} {p1 p2 pos2 : Pos} (h : DV X a W e m) (hst : starEach (e :: []) X.env = (false, eval e X.env) :: starEach [] X.env := by rfl)
    (hp : ∀ t, PA X [e] t → PE X (.Call (.Attribute (.Name x p1) "append" p2) [e] [] pos) (tBM X.K "list" rAppend (tVar i) t) := by exact fun _ ht => pe_bm PySem.F.plainAttrs_list PySem.F.slot_list_append PySem.F.type_list_append mt_append (pv _) ht)
    (hs : swapsWith (.Call (.Attribute (.Name x p1) "append" p2) [e] [] pos) none pos2.line X.env = pure false := by rfl) :
    DS X a W (.Expr (.Call (.Attribute (.Name x p1) "append" p2) [e] [] pos) pos2) (mApp i m) := by
  obtain ⟨t, p, s⟩ := h
  refine ⟨_, ps_expr (hp _ (pa_cons p pa_nil hst)) hs, ?_⟩
  intro B G0 G H σ δ D S q
  have q' : OOk (cn X a) W B G0 D (mApp i m δ) := q
  unfold mApp at q'
  split at q'
  · rename_i ds ei
    split at q'
    · rename_i hz
      obtain ⟨v, ev, b, eb, n, nb, xs, hx, rx⟩ := S.sl i _ ei
      subst eb
      refine ⟨_, ev, .inl ⟨rfl, xs, .inl (.inl hx)⟩, ?_⟩
      refine snd_out s S (R := fun y H2 => rAppend (.ref b) [y] H2 fun _ H3 => D.nx σ H3) (f := fun d => .nx (δ.set i (some (.own (.list (ds ++ [d])))))) q' fun d y G' H' _ st r k => ?_
      have ex : H' b = some (.lst xs) := st.h _ _ hx
      refine ⟨b, xs, y, rfl, rfl, ex, by rw [rx.length]; exact hz, ?_⟩
      exact k σ G' _ ((S.step st).write (d' := .list (ds ++ [d])) ei ev ⟨xs ++ [y], upd_same, (RepL.mono st.g rx).snoc r⟩)
    · exact q'.elim
  · exact q'.elim
/-- l.pop() into a target -/
def popD (i : Nat) (δ : DEnv) (k : PyData → DEnv → Out) : Out := match δ[i]? with
  | some (some (.own (.list ds))) => match ds[ds.length - 1]? with
    | some d => k d (δ.set i (some (.own (.list ds.dropLast))))
    | none => .stuck
  | some (some (.lent (.list ds))) => match ds[ds.length - 1]? with
    | some d => k d (δ.set i (some (.lent (.list ds.dropLast))))
    | none => .stuck
  | _ => .stuck
theorem RepL.dropLast {K : PySem.W.Frag} {G : Hp} {ds : List PyData} {vs : List V} (r : RepL K G vs ds) : RepL K G vs.dropLast ds.dropLast := by
  rw [List.dropLast_eq_take, List.dropLast_eq_take, r.length]
  exact r.take _
theorem snd_pop {i : Nat} {k : PyData → DEnv → Out} {B G0 G H : Hp} {σ : St} {δ : DEnv} {D : Ends} {Q : VK} (S : StR (cn X a) B G0 G H σ δ) (q : OOk (cn X a) W B G0 D (popD i δ k))
    (h : ∀ v d δ' H', StR (cn X a) B G0 G H' σ δ' → Rep X.K G v d → OOk (cn X a) W B G0 D (k d δ') → Q v H') : tBM0 X.K "list" rPop (tVar i) σ H Q := by
  unfold popD at q
  split at q
  · rename_i ds ei
    split at q
    · rename_i d ed
      obtain ⟨v, ev, b, eb, n, nb, xs, hx, rx⟩ := S.sl i _ ei
      subst eb
      obtain ⟨y, ey, ry⟩ := rx.get ed
      refine ⟨_, ev, .inl ⟨rfl, xs, .inl (.inl hx)⟩, b, xs, y, rfl, rfl, hx, by rw [rx.length]; exact ey, ?_⟩
      exact h y d _ _ (S.write (d' := .list ds.dropLast) ei ev ⟨xs.dropLast, upd_same, rx.dropLast⟩) ry q
    · exact q.elim
  · rename_i ds ei
    split at q
    · rename_i d ed
      obtain ⟨v, ev, b, eb, n, nl, xs, hx, rx⟩ := S.sl i _ ei
      subst eb
      obtain ⟨y, ey, ry⟩ := rx.get ed
      refine ⟨_, ev, .inl ⟨rfl, xs, .inl (.inl hx)⟩, b, xs, y, rfl, rfl, hx, by rw [rx.length]; exact ey, ?_⟩
      exact h y d _ _ (S.writeL (d' := .list ds.dropLast) ei ev ⟨xs.dropLast, upd_same, rx.dropLast⟩) ry q
    · exact q.elim
  · exact q.elim
def mPop (i : Nat) : MS := fun δ => popD i δ fun _ δ' => .nx δ'
def mPopG (i : Nat) (g : MG) : MS := fun δ => popD i δ fun d δ' => tgtO g δ' d
theorem ds_pop {i : Nat} {x : Str} {p1 p2 pos2 : Pos} (hp : PE X (.Call (.Attribute (.Name x p1) "pop" p2) [] [] pos) (tBM0 X.K "list" rPop (tVar i)) := by exact pe_bm0 PySem.F.plainAttrs_list PySem.F.slot_list_pop PySem.F.type_list_pop mt_pop (pv _))
    (hs : swapsWith (.Call (.Attribute (.Name x p1) "pop" p2) [] [] pos) none pos2.line X.env = pure false := by rfl) : DS X a W (.Expr (.Call (.Attribute (.Name x p1) "pop" p2) [] [] pos) pos2) (mPop i) :=
  ⟨_, ps_expr hp hs, fun B G0 G H σ δ D S q => snd_pop (W := W) (D := D) (k := fun _ δ' => .nx δ') S q fun v d δ' H' S' _ k => k σ G H' S'⟩
theorem ds_popG {i : Nat} {x : Str} {p1 p2 pos2 : Pos} {tg : Expr} {g : MG} {vs : List Nat} (hg : DG X a tg g vs) (hp : PE X (.Call (.Attribute (.Name x p1) "pop" p2) [] [] pos) (tBM0 X.K "list" rPop (tVar i)) := by exact pe_bm0 PySem.F.plainAttrs_list PySem.F.slot_list_pop PySem.F.type_list_pop mt_pop (pv _))
    (hs : swapsWithSole [tg] (.Call (.Attribute (.Name x p1) "pop" p2) [] [] pos) pos2.line X.env = pure false := by rfl) (hw : swappedStores [tg] (.Call (.Attribute (.Name x p1) "pop" p2) [] [] pos) X.env = pure none := by rfl)
    (h1 : (assignEach [tg] X.env).map (·.2) = [assign tg X.env] := by rfl) : DS X a W (.Assign [tg] (.Call (.Attribute (.Name x p1) "pop" p2) [] [] pos) pos2) (mPopG i g) := by
  obtain ⟨u, q, z⟩ := hg
  refine ⟨_, ps_asg hp q hs hw h1, fun B G0 G H σ δ D S k => ?_⟩
  refine snd_pop (W := W) (D := D) (k := fun d δ' => tgtO g δ' d) S k fun v d δ' H' S' r k' => ?_
  unfold tgtO at k'
  cases e : g d δ' with
  | none => rw [e] at k'; exact k'.elim
  | some δ2 => rw [e] at k'; exact z B G0 G H' σ δ' v d δ2 D.nx S' r e fun σ' T _ => k' σ' G H' T
/-! ### 5. try .. except C as n: -/
def Slot.noX : Option Slot → Option Slot
  | some (.exn _) => none
  | s => s
def clearX (δ : DEnv) : DEnv := δ.map Slot.noX
def dropX (i : Nat) : Out → Out
  | .nx δ => .nx ((clearX δ).set i none)
  | .bk δ => .bk ((clearX δ).set i none)
  | .ct δ => .ct ((clearX δ).set i none)
  | .rt s => .rt s
  | .rm _ _ => .stuck
  | .ex _ _ => .stuck
  | .stuck => .stuck
def mTryAs (i : Nat) (cc : EC) (S : List EC) (b s : MS) : MS := fun δ => match b δ with
  | .ex ⟨c, []⟩ δ' => if c ∈ S then (if isSub c cc = true then dropX i (s (δ'.set i (some (.exn ⟨c, []⟩)))) else .ex ⟨c, []⟩ δ') else .stuck
  | .ex _ _ => .stuck
  | o => o
theorem StR.swap {C C' : Cn} (hK : C.K = C'.K) (hL : C.L = none) (hL' : C'.L = none) {B G0 G H : Hp} {σ : St} {δ : DEnv} (S : StR C B G0 G H σ δ) : StR C' B G0 G H σ (clearX δ) := by
  have off : ∀ (j : Nat) (s : Slot), (clearX δ)[j]? = some (some s) → δ[j]? = some (some s) ∧ ∀ x, s ≠ .exn x := fun j s e => by
    unfold clearX at e
    rw [List.getElem?_map] at e
    cases q : δ[j]? with
    | none => rw [q] at e; cases e
    | some o =>
      rw [q] at e
      have e' : Slot.noX o = some s := Option.some.inj e
      unfold Slot.noX at e'
      split at e'
      · cases e'
      · rename_i h
        subst e'
        exact ⟨rfl, fun x z => h x (by rw [z])⟩
  refine ⟨S.bh, S.g0, S.gh, S.fr, by rw [S.len]; simp [clearX], (fun c e => by rw [hL'] at e; cases e), fun j k d1 d2 e1 e2 => S.lu j k d1 d2 (off j _ e1).1 (off k _ e2).1, fun j s e => ?_, fun j k d1 d2 b hjk e1 e2 e3 => S.ap j k d1 d2 b hjk (off j _ e1).1 (off k _ e2).1 e3⟩
  obtain ⟨e', nx⟩ := off j s e
  obtain ⟨v, q, r⟩ := S.sl j s e'
  refine ⟨v, q, ?_⟩
  cases s with
  | val d => exact (hK ▸ r : Rep C'.K G v d)
  | own d => obtain ⟨b, eb, n, nb, t⟩ := r; exact ⟨b, eb, n, ⟨nb.1, by rw [hL']; exact fun z => nomatch z⟩, hK ▸ t⟩
  | bor d => obtain ⟨b, eb, nb, t⟩ := r; exact ⟨b, eb, nb, hK ▸ t⟩
  | lent d => obtain ⟨b, eb, n, nl, t⟩ := r; rw [hL] at nl; cases nl
  | exn x => exact (nx x rfl).elim
/-- a frame that holds no refusal takes one -/
theorem StR.hold {C C' : Cn} (hK : C.K = C'.K) (hL : C.L = none) (hL' : C'.L = none) (hA : ∀ b x, ¬ C.A b x) {B G0 G H : Hp} {σ : St} {δ : DEnv} (S : StR C B G0 G H σ δ) (i : Nat) {b : Addr} {x : Exn} (hx : C'.A b x) : StR C' B G0 G H (σ.set i (some (.ref b))) (δ.set i (some (.exn x))) := by
  have off : ∀ (j : Nat) (s : Slot), i ≠ j → (δ.set i (some (.exn x)))[j]? = some (some s) → δ[j]? = some (some s) := fun j s hj e => by
    rw [List.getElem?_set_ne hj] at e; exact e
  have atI : ∀ (s : Slot), (δ.set i (some (.exn x)))[i]? = some (some s) → s = .exn x ∧ i < δ.length := fun s e => by
    rw [List.getElem?_set] at e
    split at e
    · split at e
      · rename_i hl; cases e; exact ⟨rfl, hl⟩
      · cases e
    · rename_i z; exact (z rfl).elim
  refine ⟨S.bh, S.g0, S.gh, S.fr, by simp [S.len], (fun c e => by rw [hL'] at e; cases e), fun j k d1 d2 e1 e2 => S.lu j k d1 d2 (lent_off (by intro _ z; cases z) e1) (lent_off (by intro _ z; cases z) e2), fun j s e => ?_, fun j k d1 d2 c hjk e1 e2 e3 => ?_⟩
  · by_cases hj : i = j
    · subst hj
      obtain ⟨es, hl⟩ := atI s e
      subst es
      exact ⟨.ref b, by rw [List.getElem?_set_self (by rw [S.len]; exact hl)], b, rfl, hx⟩
    · obtain ⟨v, q, r⟩ := S.sl j s (off j s hj e)
      refine ⟨v, by rw [List.getElem?_set_ne hj]; exact q, ?_⟩
      cases s with
      | val d => exact (hK ▸ r : Rep C'.K G v d)
      | own d => obtain ⟨b, eb, n, nb, t⟩ := r; exact ⟨b, eb, n, ⟨nb.1, by rw [hL']; exact fun z => nomatch z⟩, hK ▸ t⟩
      | bor d => obtain ⟨b, eb, nb, t⟩ := r; exact ⟨b, eb, nb, hK ▸ t⟩
      | lent d => obtain ⟨b, eb, n, nl, t⟩ := r; rw [hL] at nl; cases nl
      | exn y => obtain ⟨b, _, z⟩ := r; exact (hA b y z).elim
  · by_cases hj : i = j
    · subst hj
      cases (atI _ e1).1
    · by_cases hk : i = k
      · subst hk
        cases (atI _ e2).1
      · rw [List.getElem?_set_ne hj] at e3
        rw [List.getElem?_set_ne hk]
        exact S.ap j k d1 d2 c hjk (off j _ hj e1) (off k _ hk e2) e3
theorem ds_try_as {i : Nat} {n x : Str} {cc : EC} {S : List EC} {mb ms : MS} {body suite : List Stmt} {b₀ : Stmt} {np pos' : Pos} (hA : a.A = fun _ _ => False) (hs : X.stack = X.env :: X.outer) (hf : X.env.frame = some X.env.locals) (hN : X.N.Nodup) (hi : X.N[i]? = some n)
    (hln : X.env.kindOf n = some .local) (hc : Names X x (.ref (a.ec cc))) (tk : Takes X W) (hS : ∀ c ∈ S, PySem.W.exmOne X.K (.ref (a.ec c)) (.ref (a.ec cc)) = some (isSub c cc))
    (hb : ∀ (W' : WX) (pn : List (Addr × Obj)) (xe : Value → Shared → Prop), Takes (X.tr pn xe) W' → PassesOwn (model X.prog X.w) X.A X.env xe → DSs (X.tr pn xe) a W' body mb)
    (hsu : ∀ c ∈ S, ∀ (b : Addr) (oe : Obj) (pn : List (Addr × Obj)), Zc (.ref (a.ec c)) none oe → (∃ vs, oe.data = .fields vs) → DSs (X.suite b ((b, oe) :: pn)) (held1 a.ec b c) W0 (b₀ :: suite) ms) (hL : a.L = none := by rfl) :
    DS X a W (.Try body [.ExceptHandler (some (.Name x np)) (some n) (b₀ :: suite) pos'] [] [] pos) (mTryAs i cc S mb ms) := by
  let tb : WX → TS := fun W' D σ H => ∀ pn xe (h1 : Takes (X.tr pn xe) W') (h2 : PassesOwn (model X.prog X.w) X.A X.env xe), Classical.choose (hb W' pn xe h1 h2) D σ H
  let ts : Addr → Value → Option Addr → TS := fun b cls d D σ H => ∃ c, ∃ hc : c ∈ S, cls = .ref (a.ec c) ∧ d = none ∧ ∀ oe pn (hz : Zc (.ref (a.ec c)) none oe) (hd : ∃ vs, oe.data = .fields vs), Classical.choose (hsu c hc b oe pn hz hd) D σ H
  refine ⟨_, ps_try_as (i := i) (tb := tb) (ts := ts) hs hf hN hi hln hc tk (fun W' pn xe h1 h2 => ⟨fun pins s σ H D I q => (Classical.choose_spec (hb W' pn xe h1 h2)).1.run pins s σ H D I (q pn xe h1 h2)⟩)
    (fun b oe cls d pn hz hd => ⟨fun pins s σ H D I q => ?_⟩), ?_⟩
  · obtain ⟨c, hc, e1, e2, q⟩ := q
    subst e1 e2
    exact (Classical.choose_spec (hsu c hc b oe pn hz hd)).1.run pins s σ H D I (q oe pn hz hd)
  · intro B G0 G H σ δ D Sr q pn xe h1 h2
    refine (Classical.choose_spec (hb _ pn xe h1 h2)).2 B G0 G H σ δ D Sr ?_
    have q' : OOk (cn X a) W B G0 D (match mb δ with
      | .ex ⟨c, []⟩ δ' => if c ∈ S then (if isSub c cc = true then dropX i (ms (δ'.set i (some (.exn ⟨c, []⟩)))) else .ex ⟨c, []⟩ δ') else .stuck
      | .ex _ _ => .stuck
      | o => o) := q
    generalize mb δ = o at q'
    show OOk (cn X a) _ B G0 D o
    cases o with
    | nx δ' => exact q'
    | bk δ' => exact q'
    | ct δ' => exact q'
    | rt s => exact q'
    | rm s d => exact q'
    | stuck => exact q'
    | ex x δ' =>
      obtain ⟨c, fs⟩ := x
      cases fs with
      | cons f fs => exact q'.elim
      | nil =>
        by_cases hcS : c ∈ S
        · have q2 : OOk (cn X a) W B G0 D (if c ∈ S then (if isSub c cc = true then dropX i (ms (δ'.set i (some (.exn ⟨c, []⟩)))) else .ex ⟨c, []⟩ δ') else .stuck) := q'
          rw [if_pos hcS] at q2
          intro cls d σ' G' H' T r
          obtain ⟨rc, rd⟩ := r
          have rc' : cls = .ref (a.ec c) := rc
          have rd' : d = none := rd
          subst rc' rd'
          refine ⟨isSub c cc, hS c hcS, fun hy b hb0 => ?_, fun hn => ?_⟩
          · rw [if_pos hy] at q2
            refine ⟨c, hcS, rfl, rfl, fun oe pn2 hz hd => ?_⟩
            have T' : StR (cn (X.suite b ((b, oe) :: pn2)) (held1 a.ec b c)) B G0 G' H' (σ'.set i (some (.ref b))) (δ'.set i (some (.exn ⟨c, []⟩))) :=
              StR.hold (C := cn X a) (C' := cn (X.suite b ((b, oe) :: pn2)) (held1 a.ec b c)) rfl hL rfl (fun b x z => by rw [show (cn X a).A = a.A from rfl, hA] at z; exact z) T i ⟨rfl, rfl⟩
            refine (Classical.choose_spec (hsu c hcS b oe pn2 hz hd)).2 B G0 G' H' _ _ _ T' ?_
            generalize ms (δ'.set i (some (.exn ⟨c, []⟩))) = o2 at q2 ⊢
            have back : ∀ {δ2 : DEnv} {σ2 : St} {G2 H2 : Hp}, StR (cn (X.suite b ((b, oe) :: pn2)) (held1 a.ec b c)) B G0 G2 H2 σ2 δ2 → StR (cn X a) B G0 G2 H2 (σ2.set i none) ((clearX δ2).set i none) :=
              fun T2 => (StR.swap (C := cn (X.suite b ((b, oe) :: pn2)) (held1 a.ec b c)) (C' := cn X a) rfl rfl hL T2).setNone none
            cases o2 with
            | nx δ2 => exact fun σ2 G2 H2 T2 => q2 _ G2 H2 (back T2)
            | bk δ2 => exact fun σ2 G2 H2 T2 => q2 _ G2 H2 (back T2)
            | ct δ2 => exact fun σ2 G2 H2 T2 => q2 _ G2 H2 (back T2)
            | rt s => exact fun v G2 H2 T2 r => q2 v G2 H2 T2 r
            | rm s d => exact q2.elim
            | ex x δ2 => exact q2.elim
            | stuck => exact q2.elim
          · rw [if_neg (by rw [hn]; decide)] at q2
            exact q2 _ _ σ' G' H' T ⟨rfl, rfl⟩
        · have q2 : OOk (cn X a) W B G0 D (if c ∈ S then (if isSub c cc = true then dropX i (ms (δ'.set i (some (.exn ⟨c, []⟩)))) else .ex ⟨c, []⟩ δ') else .stuck) := q'
          rw [if_neg hcS] at q2
          exact q2.elim
end
end DL
/-! DLf: defs by name, the law's end, some more operators -/
namespace DL
open PySem L2
/-! ### 1. a def of the top, by its name -/
/-- the def x of the text -/
def Ln (K : PySem.W.Frag) (mg : Str → Option Value) (x : Str) (st : Stmt) (ps : List Str) : Prop :=
  ∃ fa fd, Fun K x x st fa fd ∧ mg x = some (.ref fa) ∧ Binds K fd ps []
/-- the def x keeps the promise f -/
def Fd (P : Program) (w : World) (K : PySem.W.Frag) (mg : Str → Option Value) (base : Heap) (ec : EC → Addr) (x : Str) (ps : List Str) (k : Nat) (f : F) : Prop :=
  ∃ fa fd, FnOk P w K mg base (L2.CX P w) k fa fd ps (spD ⟨K, ec, fun _ _ => False, none⟩ f) ∧ mg x = some (.ref fa) ∧ PySem.W.keepIn K (.ref fa) = true ∧ Binds K fd ps []
section
variable {P : Program} {w : World} {K : PySem.W.Frag} {mg : Str → Option Value} {base : Heap} {ec : EC → Addr}
theorem fd_of {x : Str} {st : Stmt} {N ps : List Str} {k : Nat} {b : MS} (S : FnScope N ps (defScope st)) (L : Ln K mg x st ps)
    (hbody : ∀ {f : Addr} (cdv : Value) (A : Around) (outer : List Env) (s : Shared) (H : Hp) (E : XK), Room k (A.deeper (PyProof.Rows.envOfC x (defScope st) s.heap.objs.size f cdv)) →
      DSs (cxOf (L2.CX P w) P w K mg base N x (defScope st) f cdv A outer s H E) ⟨ec, fun _ _ => False, none⟩ (fun cls d _ H' => E cls d H') (defBody st) b) :
    Fd P w K mg base ec x ps (k + 1) (mDef N.length ps.length b) := by
  obtain ⟨fa, fd, F0, hm, hb⟩ := L
  exact ⟨fa, fd, fn_d (ax := ⟨ec, fun _ _ => False, none⟩) F0 S (fun cdv A outer s H E hr => hbody cdv A outer s H E hr) rfl, hm, F0.kp, hb⟩
theorem fd_mono {x : Str} {ps : List Str} {j k : Nat} {f : F} (h : j ≤ k) (L : Fd P w K mg base ec x ps j f) : Fd P w K mg base ec x ps k f := by
  obtain ⟨fa, fd, F0, r⟩ := L
  exact ⟨fa, fd, F0.mono h, r⟩
/-- a promise that tells less -/
theorem spD_imp {C : Cn} {f g : F} (h : ∀ ss, g ss ≠ .stuck → f ss = g ss) {vs : List V} {H : Hp} {Q : VK} {E : XK} (q : spD C g vs H Q E) : spD C f vs H Q E := by
  obtain ⟨G, ss, gh, r, k⟩ := q
  refine ⟨G, ss, gh, r, ?_⟩
  rw [h ss (fun z => by rw [z] at k; exact k)]
  exact k
theorem fd_imp {x : Str} {ps : List Str} {k : Nat} {f g : F} (h : ∀ ss, g ss ≠ .stuck → f ss = g ss) (L : Fd P w K mg base ec x ps k f) : Fd P w K mg base ec x ps k g := by
  obtain ⟨fa, fd, F0, r⟩ := L
  exact ⟨fa, fd, F0.imp fun vs H Q E q => spD_imp h q, r⟩
/-- the law itself, at its address -/
theorem fnok_of {x : Str} {st : Stmt} {N ps : List Str} {k : Nat} {b : MS} {fa : Addr} {fd : FuncData} (S : FnScope N ps (defScope st)) (F0 : Fun K x x st fa fd)
    (hbody : ∀ {f : Addr} (cdv : Value) (A : Around) (outer : List Env) (s : Shared) (H : Hp) (E : XK), Room k (A.deeper (PyProof.Rows.envOfC x (defScope st) s.heap.objs.size f cdv)) →
      DSs (cxOf (L2.CX P w) P w K mg base N x (defScope st) f cdv A outer s H E) ⟨ec, fun _ _ => False, none⟩ (fun cls d _ H' => E cls d H') (defBody st) b) :
    FnOk P w K mg base (L2.CX P w) (k + 1) fa fd ps (spD ⟨K, ec, fun _ _ => False, none⟩ (mDef N.length ps.length b)) :=
  fn_d (ax := ⟨ec, fun _ _ => False, none⟩) F0 S (fun cdv A outer s H E hr => hbody cdv A outer s H E hr) rfl
end
section
variable {X : Cx} {a : Ax} {W : WX} {e e1 e2 e3 : Expr} {es : List Expr} {pos : Pos}
theorem de_callF {x : Str} {f : F} {k : Nat} {ps : List Str} {p : Pos} {m : DEnv → Res (List Slot)} (F0 : Fd X.prog X.w X.K X.mg X.base a.ec x ps k f) (hr : Room k X.A) (hg : Gl X x) (tk : Takes X W) (h : DAS X a W (e :: es) m)
    (hdb : (x == ("__debug__" : Str)) = false := by decide) (he : starEach (e :: es) X.env = (false, eval e X.env) :: starEach es X.env := by rfl) (hpl : (backTo pos (starEach es X.env)).any (·.1) = false := by rfl) : DE X a W (.Call (.Name x p) (e :: es) [] pos) (mCall f m) := by
  obtain ⟨fa, fd, F1, hm, hk, hb⟩ := F0
  exact de_call F1 hr hg hm hk hb tk h hdb he hpl
/-! ### 2. the law's call -/
theorem vals_ints {K : PySem.W.Frag} {G : Hp} : ∀ ns : List Int, RepL K G (ns.map V.int) (ns.map PyData.int)
  | [] => .nil
  | n :: ns => .cons (.int n) (vals_ints ns)
theorem law_sp {K : PySem.W.Frag} {ec : EC → Addr} {H : Hp} {b : Addr} {ns : List Int} {f : F} (hS : SqL K H b (ns.map V.int)) (hf : f [.val (.list (ns.map PyData.int))] = .ok (.val (.bool true))) :
    spD ⟨K, ec, fun _ _ => False, none⟩ f [.ref b] H (fun v _ => v = .bl true) fun _ _ _ => False := by
  refine ⟨H, [.val (.list (ns.map PyData.int))], Same.refl _, .cons (Rep.lst hS (vals_ints ns)) .nil, ?_⟩
  rw [hf]
  intro v G' H' st r
  have r' : Rep K G' v (.bool true) := r
  cases r'
  rfl
theorem cx_none {P : Program} {w : World} {H : Hp} {s : Shared} {e : Value} {s' : Shared} (h : L2.CX P w [] H s (fun _ _ _ => False) e s') : False := by
  obtain ⟨_, _, _, _, _, _, _, _, _, _, _, _, z⟩ := h
  exact z
/-! ### 3. more operators -/
def mU (f : PyData → Res Slot) (m : MD) : ME := fun δ => (m δ).bind f
def negF : PyData → Res Slot
  | .int i => okI (-i)
  | _ => .stuck
theorem de_neg {m : MD} (h : DR X a W e m) : DE X a W (.UnaryOp .USub e pos) (mU negF m) := by
  obtain ⟨t, p, s⟩ := h
  refine ⟨_, pe_un un_neg p, ?_⟩
  refine snd_bind (rel1 := relD X.K) (rel2 := relE X.K) downE s (t2 := fun x _ H Q => rU (fun i => .int (-i)) x H Q) (m2 := fun d _ => negF d) ?_
  intro d v B G0 G H σ δ H0 S rd Q hq
  have hq' : ROk (cn X a) W σ G H (relE X.K H) (negF d) Q := hq
  unfold negF at hq'
  split at hq'
  · exact ⟨_, rdr_int rd, hq' _ G H (Stp.refl S.gh) (Rep.int _)⟩
  · exact hq'.elim
def revF : PyData → Res Slot
  | .list ds => .ok (.own (.list ds.reverse))
  | _ => .stuck
theorem de_rev {m : MD} {k : Nat} {p1 p2 p3 : Pos} (h : DR X a W e m) : DE X a W (.Subscript e (.Slice none none (some (.UnaryOp .USub (.Constant (.int 1) k p1) p2)) p3) pos) (mU revF m) := by
  obtain ⟨t, p, s⟩ := h
  refine ⟨_, pe_revL p, ?_⟩
  refine snd_bind (rel1 := relD X.K) (rel2 := relE X.K) downE s (t2 := fun x _ H1 Q => ∃ a xs, x = .ref a ∧ SqL X.K H1 a xs ∧ ∀ p, H1 p = none → Q (.ref p) (upd H1 p (.lst xs.reverse))) (m2 := fun d _ => revF d) ?_
  intro d v B G0 G H σ δ H0 S rd Q hq
  have hq' : ROk (cn X a) W σ G H (relE X.K H) (revF d) Q := hq
  unfold revF at hq'
  split at hq'
  · obtain ⟨b, xs, e1, q1, r1⟩ := rdr_list S.gh rd
    exact ⟨b, xs, e1, q1, new_list S.gh r1.reverse hq'⟩
  · exact hq'.elim
def mDict0 : ME := fun _ => .ok (.own (.dict []))
theorem de_dict0 : DE X a W (.Dict [] [] pos) mDict0 := ⟨_, pe_dnewK, fun B G0 G H σ δ S Q hq p hp => hq _ G _ (Stp.newH S.gh hp) ⟨p, rfl, S.gh.free hp, hp, .inl ⟨[], upd_same, .nil⟩⟩⟩
/-- a < b < c -/
def mChain (f g : PyData → PyData → Res Slot) (ma mb mc : MD) : ME := fun δ => (ma δ).bind fun x => (mb δ).bind fun y => (f x y).bind fun s => s.bl.bind fun k => if k = true then (mc δ).bind fun z => g y z else .ok (.val (.bool false))
theorem snd_chain {C : Cn} {r r' : R2} {f g : PyData → PyData → Res Slot} (hf : OpS C.K r f) (hfn : NoExc f) (hg : OpS C.K r' g) (hgn : NoExc g) {ta tb tc : TE} {ma mb mc : MD} (ha : Snd C W (relD C.K) ta ma) (hb : Snd C W (relD C.K) tb mb) (hc : Snd C W (relD C.K) tc mc) :
    Snd C W (relE C.K) (tChain r r' ta tb tc) (mChain f g ma mb mc) := by
  intro B G0 G H σ δ S Q hq
  refine ha B G0 G H σ δ S _ ?_
  have hq' : ROk C W σ G H (relE C.K H) ((ma δ).bind fun x => (mb δ).bind fun y => (f x y).bind fun s => s.bl.bind fun k => if k = true then (mc δ).bind fun z => g y z else .ok (.val (.bool false))) Q := hq
  generalize ma δ = r1 at hq'
  cases r1 with
  | stuck => exact hq'.elim
  | exc x => exact hq'
  | ok x =>
    intro vx G1 H1 st1 rx
    rw [bind_ok] at hq'
    refine hb B G0 G1 H1 σ δ (S.step st1) _ ?_
    generalize mb δ = r2 at hq'
    cases r2 with
    | stuck => exact hq'.elim
    | exc x => exact fun cls d G2 H2 s2 r => hq' cls d G2 H2 (st1.trans s2) r
    | ok y =>
      intro vy G2 H2 st2 ry
      rw [bind_ok] at hq'
      have st := st1.trans st2
      cases ef : f x y with
      | stuck => rw [ef] at hq'; exact hq'.elim
      | exc z => exact (hfn x y z ef).elim
      | ok s =>
        rw [ef, bind_ok] at hq'
        refine hf G2 H2 vx vy x y s _ st.gh (rx.mono st2.g st2.h) ry ef fun v G3 H3 st3 rv => ?_
        unfold Slot.bl at hq'
        split at hq'
        · rename_i k
          rw [bind_ok] at hq'
          have rv' : Rep C.K G3 v (.bool k) := rv
          cases rv'
          refine ⟨k, rfl, ?_⟩
          have st' := st.trans st3
          cases k with
          | true =>
            rw [if_pos rfl] at hq'
            show tc σ H3 _
            refine hc B G0 G3 H3 σ δ (S.step st') _ ?_
            generalize mc δ = r3 at hq'
            cases r3 with
            | stuck => exact hq'.elim
            | exc x => exact fun cls d G4 H4 s4 r => hq' cls d G4 H4 (st'.trans s4) r
            | ok z =>
              intro vz G4 H4 st4 rz
              rw [bind_ok] at hq'
              have st4' := st'.trans st4
              cases eg : g y z with
              | stuck => rw [eg] at hq'; exact hq'.elim
              | exc u => exact (hgn y z u eg).elim
              | ok s2 =>
                rw [eg] at hq'
                exact hg G4 H4 vy vz y z s2 Q st4'.gh (ry.mono (st3.trans st4).g (st3.trans st4).h) rz eg fun v G5 H5 s5 rv => hq' v G5 H5 (st4'.trans s5) (ResF.mono0 st4'.h rv)
          | false =>
            rw [if_neg (by decide)] at hq'
            show Q (.bl false) H3
            exact hq' _ G3 H3 st' (Rep.bl false)
        · exact hq'.elim
theorem de_chain {op op' : CmpOp} {r r' : R2} {f g : PyData → PyData → Res Slot} (hf : OpS X.K r f) (hfn : NoExc f) (hg : OpS X.K r' g) (hgn : NoExc g) (ho : OpR X (compareOp op) r) (ho' : OpR X (compareOp op') r') {ma mb mc : MD} (ha : DR X a W e1 ma) (hb : DR X a W e2 mb) (hc : DR X a W e3 mc)
    (hm : lastMarks [op, op'] [e2, e3] = false := by with_unfolding_all rfl) : DE X a W (.Compare e1 [op, op'] [e2, e3] pos) (mChain f g ma mb mc) :=
  let ⟨_, pa, sa⟩ := ha; let ⟨_, pb, sb⟩ := hb; let ⟨_, pc, sc⟩ := hc; ⟨_, pe_chain ho ho' pa pb pc hm, snd_chain (C := cn X a) hf hfn hg hgn sa sb sc⟩
theorem dt_chain {op op' : CmpOp} {r r' : R2} {f g : PyData → PyData → Res Slot} (hf : OpS X.K r f) (hfn : NoExc f) (hg : OpS X.K r' g) (hgn : NoExc g) (ho : OpR X (compareOp op) r) (ho' : OpR X (compareOp op') r') {ma mb mc : MD} (ha : DR X a W e1 ma) (hb : DR X a W e2 mb) (hc : DR X a W e3 mc)
    (hm : lastMarks [op, op'] [e2, e3] = false := by with_unfolding_all rfl) : DT X a W (.Compare e1 [op, op'] [e2, e3] pos) (mTest (mChain f g ma mb mc)) :=
  let ⟨_, pa, sa⟩ := ha; let ⟨_, pb, sb⟩ := hb; let ⟨_, pc, sc⟩ := hc; ⟨_, pt_chain ho ho' pa pb pc hm, snd_test (C := cn X a) (snd_chain (C := cn X a) hf hfn hg hgn sa sb sc)⟩
theorem isNotF_ne : NoExc (isF true) := isF_ne
/-- for over a list or a tuple -/
def asSeq : PyData → Res (List PyData)
  | .list ds => .ok ds
  | .tuple ds => .ok ds
  | _ => .stuck
end
end DL
/-! DLg: walking a list, a tuple or a text; str(n) -/
namespace DL
open PySem L2
section
variable {X : Cx} {a : Ax} {W : WX} {e e1 e2 e3 tg : Expr} {es : List Expr} {pos : Pos}
def iSeq (K : PySem.W.Frag) (tl : TE) : TI := fun σ H R => tl σ H fun x H1 => (∃ a, x = .ref a ∧ (∃ xs, SqL K H1 a xs) ∧ R (Itl K a) H1) ∨ (∃ a, x = .ref a ∧ (∃ xs, SqT K H1 a xs) ∧ R (Itt K a) H1) ∨ ∃ z, x = .str z ∧ R (Its z) H1
theorem pi_seq {l : Expr} {tl : TE} (hl : PE X l tl) : PI X tg l (iSeq X.K tl) := by
  refine ⟨fun pins s σ H R I h => ?_⟩
  refine thn (hl.run pins s σ H _ I h) fun v s1 ⟨x, H1, I1, r1, q1⟩ => ?_
  rcases q1 with ⟨b, e, q, k⟩ | ⟨b, e, q, k⟩ | ⟨z, e, k⟩
  · have p : PI X tg l (iList X.K fun _ _ Q => Q x H1) → True := fun _ => trivial
    subst e
    obtain ⟨xs, hq⟩ := q
    cases r1
    obtain ⟨its, rv, p, hz⟩ := I1.list hq
    refine wpAny_pyIter_list p.isList ?_
    refine ⟨s1.heap.objs.size, [s1.heap.objs.size], _, _, H1, rfl, I1.kept (t' := s1.toks) fun b o e => Heap.get?_push_of_some _ e, turn_list b _, ⟨_, Heap.get?_push_size _ rfl, rfl, rfl⟩, fun b hb => ?_, k⟩
    have e : b = s1.heap.objs.size := by simpa using hb
    subst e
    exact I1.fpOk (Nat.le_refl _) (I1.hok.fresh (Nat.le_refl _))
  · subst e
    obtain ⟨xs, hq⟩ := q
    cases r1
    obtain ⟨its, rv, p, hz⟩ := I1.tuple hq
    refine wpAny_pyIter_tuple (show s1.heap.IsTuple b its.toArray from p) ?_
    refine ⟨s1.heap.objs.size, [s1.heap.objs.size], _, _, H1, rfl, I1.kept (t' := s1.toks) fun b o e => Heap.get?_push_of_some _ e, turn_tuple b _, ⟨_, Heap.get?_push_size _ rfl, rfl, rfl⟩, fun b hb => ?_, k⟩
    have e : b = s1.heap.objs.size := by simpa using hb
    subst e
    exact I1.fpOk (Nat.le_refl _) (I1.hok.fresh (Nat.le_refl _))
  · subst e
    obtain ⟨t, rfl⟩ := r1
    cases ha : z.cps.all (· < 128)
    · exact wpAny_pyIter_wide ha (pi_one (tk := s1.toks) I1 _ (turn_str _ z t "str_iterator" (.inr rfl)) ⟨_, Heap.get?_push_size _ rfl, rfl, rfl⟩ k)
    · exact wpAny_pyIter_ascii ha (pi_one (tk := s1.toks) I1 _ (turn_str _ z t "str_ascii_iterator" (.inl rfl)) ⟨_, Heap.get?_push_size _ rfl, rfl, rfl⟩ k)
def signs (z : Str) : List PyData := z.cps.toList.map fun c => .str ⟨#[c]⟩
theorem gives_str {C : Cn} {B G : Hp} {z : Str} : Gives C B (Its z) G (signs z) := by
  intro i G1 H1 g s _
  have hl : (signs z).length = z.cps.size := by simp [signs]
  refine ⟨fun d e => ?_, fun h1 _ => by rw [hl] at h1; exact h1⟩
  have hi : i < z.cps.size := by
    have := (List.getElem?_eq_some_iff.mp e).1
    rw [hl] at this; exact this
  refine ⟨hi, fun x H' y => ?_⟩
  obtain ⟨e1, c, e2, e3⟩ := y
  subst e1 e3
  have ed : d = .str ⟨#[c]⟩ := by
    have h3 : (signs z)[i]? = some (.str ⟨#[c]⟩) := by
      unfold signs
      rw [List.getElem?_map, Array.getElem?_toList, e2]
      rfl
    rw [h3] at e; cases e; rfl
  subst ed
  exact ⟨G1, Stp.refl s, .str _⟩
def seqOf : PyData → Res (List PyData)
  | .list ds => .ok ds
  | .tuple ds => .ok ds
  | .str z => .ok (signs z)
  | _ => .stuck
def miQ (m : MD) : ML := fun δ => (m δ).bind seqOf
theorem di_seq {tg : Expr} {m : MD} (h : DV X a W e m) : DI X a W tg e (miQ m) := by
  obtain ⟨t, p, s⟩ := h
  refine ⟨_, pi_seq p, fun B G0 G H σ δ S R q => ?_⟩
  refine s B G0 G H σ δ S _ ?_
  have q' : ROk (cn X a) W σ G H (fun G' _ ds J => Gives (cn X a) B J G' ds) ((m δ).bind seqOf) R := q
  generalize m δ = r at q'
  cases r with
  | stuck => exact q'.elim
  | exc x => exact q'
  | ok d =>
    intro v G' H' st rp
    cases rp with
    | lst h r => exact .inl ⟨_, rfl, ⟨_, sqL_mono st.gh h⟩, q' _ G' H' st (gives_list (C := cn X a) h r)⟩
    | tup h r => exact .inr (.inl ⟨_, rfl, ⟨_, sqT_mono st.gh h⟩, q' _ G' H' st (gives_tup (C := cn X a) h r)⟩)
    | str x => exact .inr (.inr ⟨_, rfl, q' _ G' H' st gives_str⟩)
    | dk _ _ => exact q'.elim
    | dt _ _ => exact q'.elim
    | non => exact q'.elim
    | bl _ => exact q'.elim
    | int _ => exact q'.elim
/-- a local name's list, text or tuple; a borrowed list stays as it is while the def runs -/
def miV (i : Nat) : ML := fun δ => match δ[i]? with
  | some (some (.val d)) => seqOf d
  | some (some (.bor (.list ds))) => .ok ds
  | _ => .stuck
theorem gives_bor {C : Cn} {B G : Hp} {p : Addr} {xs : List V} {ds : List PyData} (h : B p = some (.lst xs)) (r : RepL C.K G xs ds) : Gives C B (Itl C.K p) G ds := by
  intro i G1 H1 g s sb
  have q : SqL C.K H1 p xs := .inl (.inl (sb _ _ h))
  refine ⟨fun d e => ?_, fun h1 h2 => ⟨xs, q, by rw [r.length]; exact h1⟩⟩
  obtain ⟨v, ev, rv⟩ := r.get e
  refine ⟨⟨xs, v, q, ev⟩, fun x H' y => ?_⟩
  obtain ⟨e1, y⟩ := y
  subst e1
  have e2 := y xs q
  rw [ev] at e2; cases e2
  exact ⟨G1, Stp.refl s, rv.mono g⟩
theorem di_var (i : Nat) {x : Str} {p : Pos} (hN : X.N[i]? = some x := by rfl) (hv : Vis X.env.scope x := by first | exact Or.inl rfl | exact Or.inr (Or.inl rfl) | exact Or.inr (Or.inr rfl)) (hd : (x == ("__debug__" : Str)) = false := by decide)
    (hcd : (x == ("__classdict__" : Str)) = false := by decide) : DI X a W tg (.Name x p) (miV i) := by
  refine ⟨_, pi_seq (pe_var hN hv hd hcd), fun B G0 G H σ δ S R q => ?_⟩
  unfold miV at q
  split at q
  · rename_i d e
    obtain ⟨v, ev, rp⟩ := S.sl i _ e
    refine ⟨v, ev, ?_⟩
    have st := Stp.refl S.gh
    have q' : ROk (cn X a) W σ G H (fun G' _ ds J => Gives (cn X a) B J G' ds) (seqOf d) R := q
    cases rp with
    | lst h r => exact .inl ⟨_, rfl, ⟨_, sqL_mono st.gh h⟩, q' _ G H st (gives_list (C := cn X a) h r)⟩
    | tup h r => exact .inr (.inl ⟨_, rfl, ⟨_, sqT_mono st.gh h⟩, q' _ G H st (gives_tup (C := cn X a) h r)⟩)
    | str x => exact .inr (.inr ⟨_, rfl, q' _ G H st gives_str⟩)
    | dk _ _ => exact q'.elim
    | dt _ _ => exact q'.elim
    | non => exact q'.elim
    | bl _ => exact q'.elim
    | int _ => exact q'.elim
  · rename_i ds e
    obtain ⟨v, ev, b, rfl, nb, t⟩ := S.sl i _ e
    refine ⟨_, ev, ?_⟩
    obtain ⟨xs, hx, r⟩ := t
    have hb : B b = some (.lst xs) := by
      cases hz : B b with
      | none => exact absurd hz nb
      | some c => have := S.bh _ _ hz; rw [hx] at this; rw [← this]
    exact .inl ⟨_, rfl, ⟨xs, .inl (.inl hx)⟩, q _ G H (Stp.refl S.gh) (gives_bor (C := cn X a) hb r)⟩
  · exact q.elim
/-- str(n) -/
def strF : List PyData → Res Slot
  | [.int i] => if i.natAbs.log2 < 1920 then okV (.str (toString i)) else .stuck
  | _ => .stuck
theorem strF_ok {K : PySem.W.Frag} : CallS K (fun xs H Q => ∃ i, xs = [.int i] ∧ i.natAbs.log2 < 1920 ∧ Q (.str (toString i)) H) strF := by
  refine ⟨fun G H vs ds s Q g rd ef q => ?_, fun ds x => ?_⟩
  · unfold strF at ef
    split at ef
    · split at ef
      · rename_i hz
        cases ef
        obtain ⟨v, ev, r⟩ := rdl1 rd
        cases rdr_int r
        exact ⟨_, ev, hz, q _ G H (Stp.refl g) (Rep.str _)⟩
      · cases ef
    · cases ef
  · unfold strF
    split <;> (try split) <;> (intro h; cases h)
/-- in, not in: a text in a text; data in a list or tuple of data -/
def rInT (K : PySem.W.Frag) (neg : Bool) : R2 := fun x y H Q => ∃ d ds, Dp K H x d ∧ Dp K H y (.tuple ds) ∧ SeqAt.shaped d = true ∧ SeqAt.shaped (.tuple ds) = true ∧ Q (.bl (neg != ds.any fun z => PyData.eqv z d)) H
theorem op_inTup (hu : X.A.units + 65 < cLine) : OpR X (compareOp .In) (rInT X.K false) := by
  intro pins s σ H x y v u Q I rx ry h
  obtain ⟨d, ds, hd, he, sd, se, q⟩ := h
  obtain ⟨as, r1⟩ := Dp.reads I d x v hd rx
  obtain ⟨bs, r2⟩ := Dp.reads I (.tuple ds) y u he ry
  exact SeqAt.in_tuple_reads r2 r1 (SeqAt.canLay_of_shaped se) (SeqAt.canLay_of_shaped sd) (PyProof.Rows.room_in_shaped sd hu) ⟨.bl _, H, I, rfl, by simpa using q⟩
theorem op_notInTup (hu : X.A.units + 65 < cLine) : OpR X (compareOp .NotIn) (rInT X.K true) := by
  intro pins s σ H x y v u Q I rx ry h
  obtain ⟨d, ds, hd, he, sd, se, q⟩ := h
  obtain ⟨as, r1⟩ := Dp.reads I d x v hd rx
  obtain ⟨bs, r2⟩ := Dp.reads I (.tuple ds) y u he ry
  exact SeqAt.notIn_tuple_reads r2 r1 (SeqAt.canLay_of_shaped se) (SeqAt.canLay_of_shaped sd) (PyProof.Rows.room_in_shaped sd hu) ⟨.bl _, H, I, rfl, by simpa using q⟩
def strIn (x z : Str) : Bool := !(Builtin.Str.occurrences z x 0 z.length 1).isEmpty
def inF (neg : Bool) (d : PyData) : PyData → Res Slot
  | .str z => match d with
    | .str x => okB (neg != strIn x z)
    | _ => .stuck
  | .list ds => if SeqAt.shaped d = true ∧ SeqAt.shaped (.list ds) = true then okB (neg != ds.any fun z => PyData.eqv z d) else .stuck
  | .tuple ds => if SeqAt.shaped d = true ∧ SeqAt.shaped (.tuple ds) = true then okB (neg != ds.any fun z => PyData.eqv z d) else .stuck
  | _ => .stuck
def rInA (K : PySem.W.Frag) : R2 := fun x y H Q => (∃ i j, x = .str i ∧ y = .str j ∧ Q (.bl (!(Builtin.Str.occurrences j i 0 j.length 1).isEmpty)) H) ∨ (rInD K x y H Q ∨ rInT K false x y H Q)
def rNotInA (K : PySem.W.Frag) : R2 := fun x y H Q => (∃ i j, x = .str i ∧ y = .str j ∧ Q (.bl (!(!(Builtin.Str.occurrences j i 0 j.length 1).isEmpty))) H) ∨ (rNotInD K x y H Q ∨ rInT K true x y H Q)
theorem op_inA {k : Nat} (hr : Room k X.A) : OpR X (compareOp .In) (rInA X.K) := op_in_str.or ((L2.op_inD (by have := hr.un; omega)).or (op_inTup (by have := hr.un; omega)))
theorem op_notInA {k : Nat} (hr : Room k X.A) : OpR X (compareOp .NotIn) (rNotInA X.K) := op_notin_str.or ((L2.op_notInD (by have := hr.un; omega)).or (op_notInTup (by have := hr.un; omega)))
theorem inF_ok {K : PySem.W.Frag} : OpS K (rInA K) (inF false) := by
  intro G H x y d e s Q g rx ry ef q
  unfold inF at ef
  split at ef
  · split at ef
    · cases ef
      cases rdr_str rx; cases rdr_str ry
      exact .inl ⟨_, _, rfl, rfl, by have h := q (.bl (false != strIn _ _)) G H (Stp.refl g) (Rep.bl _); simpa [strIn] using h⟩
    · cases ef
  · split at ef
    · rename_i hz
      cases ef
      refine .inr (.inl ⟨d, _, rdr_dp g (SeqAt.canLay_of_shaped hz.1) rx, rdr_dp g (SeqAt.canLay_of_shaped hz.2) ry, hz.1, hz.2, ?_⟩)
      have h := q (.bl _) G H (Stp.refl g) (Rep.bl _)
      simpa using h
    · cases ef
  · split at ef
    · rename_i hz
      cases ef
      exact .inr (.inr ⟨d, _, rdr_dp g (SeqAt.canLay_of_shaped hz.1) rx, rdr_dp g (SeqAt.canLay_of_shaped hz.2) ry, hz.1, hz.2, q (.bl _) G H (Stp.refl g) (Rep.bl _)⟩)
    · cases ef
  · cases ef
theorem notInF_ok {K : PySem.W.Frag} : OpS K (rNotInA K) (inF true) := by
  intro G H x y d e s Q g rx ry ef q
  unfold inF at ef
  split at ef
  · split at ef
    · cases ef
      cases rdr_str rx; cases rdr_str ry
      exact .inl ⟨_, _, rfl, rfl, by have h := q (.bl (true != strIn _ _)) G H (Stp.refl g) (Rep.bl _); simpa [strIn] using h⟩
    · cases ef
  · split at ef
    · rename_i hz
      cases ef
      refine .inr (.inl ⟨d, _, rdr_dp g (SeqAt.canLay_of_shaped hz.1) rx, rdr_dp g (SeqAt.canLay_of_shaped hz.2) ry, hz.1, hz.2, ?_⟩)
      have h := q (.bl _) G H (Stp.refl g) (Rep.bl _)
      simpa using h
    · cases ef
  · split at ef
    · rename_i hz
      cases ef
      exact .inr (.inr ⟨d, _, rdr_dp g (SeqAt.canLay_of_shaped hz.1) rx, rdr_dp g (SeqAt.canLay_of_shaped hz.2) ry, hz.1, hz.2, q (.bl _) G H (Stp.refl g) (Rep.bl _)⟩)
    · cases ef
  · cases ef
theorem inF_ne {neg : Bool} : NoExc (inF neg) := fun d e x => by
  unfold inF
  split <;> (try split) <;> (intro h; cases h)
theorem notInF_ne : NoExc (inF true) := inF_ne
end
end DL
/-! DLs: what the denotations come to, for simp -/
namespace DL
open PySem L2
section
variable {m n : MS} {δ : DEnv} {i k : Nat} {me mf : ME} {ma mb mc : MD} {c e : MT} {f : PyData → PyData → Res Slot} {ml : ML}
@[simp] theorem mSeq_ap : mSeq m n δ = (match m δ with | .nx δ' => n δ' | o => o) := (rfl)
@[simp] theorem mNext_ap : mNext δ = .nx δ := (rfl)
@[simp] theorem mBk_ap : mBk δ = .bk δ := (rfl)
@[simp] theorem mCt_ap : mCt δ = .ct δ := (rfl)
@[simp] theorem mFrz_ap : mFrz i m δ = m (frz i δ) := (rfl)
@[simp] theorem mDrop_ap : mDrop me δ = (me δ).out δ fun _ => .nx δ := (rfl)
@[simp] theorem mRet_ap : mRet me δ = (me δ).out δ fun s => match s with | .val d => .rt (.val d) | .own d => .rt (.own d) | _ => .stuck := (rfl)
@[simp] theorem mRetN_ap : mRetN i δ = (match δ[i]? with | some (some (.val d)) => .rt (.val d) | some (some (.own d)) => .rt (.own d) | _ => .stuck) := (rfl)
@[simp] theorem mRet0_ap : mRet0 δ = .rt (.val .none) := (rfl)
@[simp] theorem mIf_ap : mIf c m n δ = (c δ).out δ fun b => if b = true then m δ else n δ := (rfl)
@[simp] theorem mAsg_ap : mAsg i me δ = (me δ).out δ (asgS i δ) := (rfl)
@[simp] theorem asgS_val {d : PyData} : asgS i δ (.val d) = .nx (δ.set i (some (.val d))) := (rfl)
@[simp] theorem asgS_own {d : PyData} : asgS i δ (.own d) = .nx (δ.set i (some (.own d))) := (rfl)
@[simp] theorem asgS_bor {d : PyData} : asgS i δ (.bor d) = .stuck := (rfl)
@[simp] theorem mRaise_ap {x : Exn} : mRaise x δ = .ex x δ := (rfl)
@[simp] theorem mVar_ap : mVar i δ = (match δ[i]? with | some (some (.val d)) => .ok (.val d) | some (some (.own d)) => .ok (.bor d) | some (some (.bor d)) => .ok (.bor d) | some (some (.lent d)) => .ok (.bor d) | _ => .stuck) := (rfl)
@[simp] theorem mC_ap {d : PyData} : mC d δ = .ok (.val d) := (rfl)
@[simp] theorem mV_ap : mV me δ = (me δ).bind Slot.vl := (rfl)
@[simp] theorem mR_ap : mR me δ = (me δ).bind Slot.rd := (rfl)
@[simp] theorem mB_ap : mB f ma mb δ = (ma δ).bind fun d => (mb δ).bind fun e => f d e := (rfl)
@[simp] theorem mU_ap {g : PyData → Res Slot} : mU g ma δ = (ma δ).bind g := (rfl)
@[simp] theorem mTest_ap : mTest me δ = (me δ).bind Slot.bl := (rfl)
@[simp] theorem mAnd_ap : mAnd c e δ = (c δ).bind fun b => if b = true then e δ else .ok false := (rfl)
@[simp] theorem mOr_ap : mOr c e δ = (c δ).bind fun b => if b = true then .ok true else e δ := (rfl)
@[simp] theorem mNot_ap : mNot c δ = (c δ).bind fun b => .ok (!b) := (rfl)
@[simp] theorem mAndV_ap : mAndV me mf δ = (mTest me δ).bind fun b => if b = true then mf δ else .ok (.val (.bool false)) := (rfl)
@[simp] theorem mOrV_ap : mOrV me mf δ = (mTest me δ).bind fun b => if b = true then .ok (.val (.bool true)) else mf δ := (rfl)
@[simp] theorem mNotV_ap : mNotV me δ = (mTest me δ).bind fun b => .ok (.val (.bool (!b))) := (rfl)
@[simp] theorem mIte_ap : mIte c me mf δ = (c δ).bind fun b => if b = true then me δ else mf δ := (rfl)
@[simp] theorem mNil_ap : mNil δ = .ok [] := (rfl)
@[simp] theorem mCons_ap : mCons ma ml δ = (ma δ).bind fun d => (ml δ).bind fun ds => .ok (d :: ds) := (rfl)
@[simp] theorem mTup_ap : mTup ml δ = (ml δ).bind fun ds => if fits ds = true then .ok (.val (.tuple ds)) else .stuck := (rfl)
@[simp] theorem mLst_ap : mLst ml δ = (ml δ).bind fun ds => if fits ds = true then .ok (.own (.list ds)) else .stuck := (rfl)
@[simp] theorem mBi_ap {g : List PyData → Res Slot} : mBi g ml δ = (ml δ).bind g := (rfl)
@[simp] theorem mANil_ap : mANil δ = .ok [] := (rfl)
@[simp] theorem mACons_ap {ms : DEnv → Res (List Slot)} : mACons me ms δ = (me δ).bind fun s => s.arg.bind fun s => (ms δ).bind fun ss => .ok (s :: ss) := (rfl)
@[simp] theorem mCall_ap {g : F} {ms : DEnv → Res (List Slot)} : mCall g ms δ = (ms δ).bind g := (rfl)
@[simp] theorem mIsi_ap {T : String} : mIsi T ma δ = (ma δ).bind (isiF T) := (rfl)
@[simp] theorem mO0_ap : mO0 δ = .ok none := (rfl)
@[simp] theorem mO_ap : mO ma δ = (ma δ).bind asI := (rfl)
@[simp] theorem asI_int {j : Int} : asI (.int j) = .ok (some j) := (rfl)
@[simp] theorem mSl_ap {l h : DEnv → Res (Option Int)} : mSl ma l h δ = (ma δ).bind fun d => (l δ).bind fun lo => (h δ).bind fun hi => slF d lo hi := (rfl)
@[simp] theorem mFor_ap {g : MG} : mFor g ml m δ = (ml δ).out δ fun ds => loopO g m ds δ := (rfl)
@[simp] theorem mRng1_ap : mRng1 ml δ = (ml δ).bind rng1 := (rfl)
@[simp] theorem mRng2_ap : mRng2 ml δ = (ml δ).bind rng2 := (rfl)
@[simp] theorem miL_ap : miL ma δ = (ma δ).bind asList := (rfl)
@[simp] theorem miT_ap : miT ma δ = (ma δ).bind asTuple := (rfl)
@[simp] theorem mDict0_ap : mDict0 δ = .ok (.own (.dict [])) := (rfl)
@[simp] theorem mChain_ap {g : PyData → PyData → Res Slot} : mChain f g ma mb mc δ = (ma δ).bind fun x => (mb δ).bind fun y => (f x y).bind fun s => s.bl.bind fun k => if k = true then (mc δ).bind fun z => g y z else .ok (.val (.bool false)) := (rfl)
end
end DL
namespace DL
open PySem L2
section
variable {α β : Type} {a : α} {x : Exn} {g : α → Res β} {h : α → Out} {δ : DEnv} {i : Nat} {d : PyData}
@[simp] theorem bind_ok' : (Res.ok a).bind g = g a := (rfl)
@[simp] theorem bind_exc' : (Res.exc x : Res α).bind g = .exc x := (rfl)
@[simp] theorem bind_stuck' : (Res.stuck : Res α).bind g = .stuck := (rfl)
@[simp] theorem out_ok' : (Res.ok a).out δ h = h a := (rfl)
@[simp] theorem out_exc' : (Res.exc x : Res α).out δ h = .ex x δ := (rfl)
@[simp] theorem out_stuck' : (Res.stuck : Res α).out δ h = .stuck := (rfl)
@[simp] theorem vl_val : (Slot.val d).vl = .ok d := (rfl)
@[simp] theorem vl_own : (Slot.own d).vl = .ok d := (rfl)
@[simp] theorem vl_bor : (Slot.bor d).vl = .stuck := (rfl)
@[simp] theorem rd_val : (Slot.val d).rd = .ok d := (rfl)
@[simp] theorem rd_own : (Slot.own d).rd = .ok d := (rfl)
@[simp] theorem rd_bor : (Slot.bor d).rd = .ok d := (rfl)
@[simp] theorem arg_val : (Slot.val d).arg = .ok (.val d) := (rfl)
@[simp] theorem arg_own : (Slot.own d).arg = .ok (.val d) := (rfl)
@[simp] theorem arg_bor : (Slot.bor d).arg = .ok (.bor d) := (rfl)
@[simp] theorem bl_bool {b : Bool} : (Slot.val (.bool b)).bl = .ok b := (rfl)
@[simp] theorem okV_eq : okV d = .ok (.val d) := (rfl)
@[simp] theorem okI_eq {j : Int} : okI j = .ok (.val (.int j)) := (rfl)
@[simp] theorem okB_eq {b : Bool} : okB b = .ok (.val (.bool b)) := (rfl)
@[simp] theorem res_rt {s : Slot} : (Out.rt s).res = .ok s := (rfl)
@[simp] theorem res_nx : (Out.nx δ).res = .ok (.val .none) := (rfl)
@[simp] theorem res_ex : (Out.ex x δ).res = .exc x := (rfl)
@[simp] theorem addF_int {a b : Int} : addF (.int a) (.int b) = .ok (.val (.int (a + b))) := (rfl)
@[simp] theorem subF_int {a b : Int} : subF (.int a) (.int b) = .ok (.val (.int (a - b))) := (rfl)
@[simp] theorem cmpF_int {a b : Int} {p : Int → Int → Bool} : cmpF p (.int a) (.int b) = .ok (.val (.bool (p a b))) := (rfl)
theorem shaped_int (a : Int) : SeqAt.shaped (.int a) = true := by
  unfold SeqAt.shaped
  simp [PyData.canLay0, PyData.depth]
theorem shaped_bool (a : Bool) : SeqAt.shaped (.bool a) = true := by
  unfold SeqAt.shaped
  simp [PyData.canLay0, PyData.depth]
theorem shaped_none : SeqAt.shaped .none = true := by
  unfold SeqAt.shaped
  simp [PyData.canLay0, PyData.depth]
@[simp] theorem eqF_int {a b : Int} : eqF (.int a) (.int b) = .ok (.val (.bool (a == b))) := by
  unfold eqF
  rw [if_pos ⟨shaped_int a, shaped_int b⟩]
  rfl
@[simp] theorem neF_int {a b : Int} : neF (.int a) (.int b) = .ok (.val (.bool (!(a == b)))) := by
  unfold neF
  rw [if_pos ⟨shaped_int a, shaped_int b⟩]
  rfl
@[simp] theorem isF_bool {neg a b : Bool} : isF neg (.bool a) (.bool b) = .ok (.val (.bool (neg != decide (a = b)))) := (rfl)
/-- // and % by a positive number -/
theorem divF_pos {a b : Int} (hb : 0 < b) (h : b.natAbs.log2 < 9000) : divF (.int a) (.int b) = .ok (.val (.int (a / b))) := by
  have hc : CDivA a b := ⟨by omega, PyProof.noPylong_of_log2 h⟩
  show (if CDivA a b then okI (a.fdiv b) else .stuck) = _
  rw [if_pos hc, Int.fdiv_eq_ediv_of_nonneg a (by omega)]
  rfl
theorem modF_pos {a b : Int} (hb : 0 < b) : modF (.int a) (.int b) = .ok (.val (.int (a % b))) := by
  show (if b ≠ 0 then okI (a.fmod b) else .stuck) = _
  rw [if_pos (by omega), Int.fmod_eq_emod_of_nonneg a (by omega)]
  rfl
theorem mulF_ok' {a b : Int} (h : IntMulOk a b) : mulF (.int a) (.int b) = .ok (.val (.int (a * b))) := by
  show (if IntMulOk a b then okI (a * b) else .stuck) = _
  rw [if_pos h]
  rfl
theorem log2_lt {n k : Nat} (hk : 0 < k) (h : n < 2 ^ k) : n.log2 < k := by
  by_cases h0 : n = 0
  · subst h0; simpa using hk
  · exact (Nat.log2_lt h0).mpr h
/-- products of numbers below 2 ^ (2 ^ 26) in all -/
theorem mulOk_pow {a b : Int} {k l : Nat} (hk : 0 < k) (hl : 0 < l) (ha : a.natAbs < 2 ^ k) (hb : b.natAbs < 2 ^ l) (h : k + l ≤ 134217000) : IntMulOk a b := by
  have w : ∀ x : Int, Builtin.Int.intBits x ≤ x.natAbs.log2 + 1 := fun x => by
    unfold Builtin.Int.intBits
    split <;> omega
  have h1 := w a
  have h2 := w b
  have h3 := log2_lt hk ha
  have h4 := log2_lt hl hb
  have e : bitsLine = 134217728 := by decide
  unfold IntMulOk
  intro z
  rw [Bool.and_eq_true] at z
  have z2 := z.2
  unfold Builtin.Int.intTooBig at z2
  have z3 := of_decide_eq_true z2
  rw [e] at z3
  omega
/-- one factor below 2 ^ 64 -/
theorem mulOk_small {a b : Int} (h : (-(2 ^ 64) < a ∧ a < 2 ^ 64) ∨ (-(2 ^ 64) < b ∧ b < 2 ^ 64)) : IntMulOk a b := by
  rcases h with h | h
  · exact .of_left (intBits_le_64 h.1 h.2)
  · exact .of_right (intBits_le_64 h.1 h.2)
@[simp] theorem divF_lit {a b : Int} (hb : 0 < b) (h : b < 18446744073709551616) : divF (.int a) (.int b) = .ok (.val (.int (a / b))) := divF_pos hb (Nat.lt_trans (log2_lt (k := 64) (by decide) (by omega)) (by decide))
@[simp] theorem modF_lit {a b : Int} (hb : 0 < b) : modF (.int a) (.int b) = .ok (.val (.int (a % b))) := modF_pos hb
@[simp] theorem mulF_litr {a b : Int} (h1 : -18446744073709551616 < b) (h2 : b < 18446744073709551616) : mulF (.int a) (.int b) = .ok (.val (.int (a * b))) := mulF_ok' (mulOk_small (.inr ⟨by omega, by omega⟩))
@[simp] theorem mulF_litl {a b : Int} (h1 : -18446744073709551616 < a) (h2 : a < 18446744073709551616) : mulF (.int a) (.int b) = .ok (.val (.int (a * b))) := mulF_ok' (mulOk_small (.inl ⟨by omega, by omega⟩))
@[simp] theorem powF_lit {a b : Int} (h0 : 0 ≤ b) (h1 : b ≤ 1000000) (h2 : a.natAbs < 18446744073709551616) : powF (.int a) (.int b) = .ok (.val (.int (a ^ b.toNat))) := by
  show (if CPow a b then okI (a ^ b.toNat) else .stuck) = _
  rw [if_pos ⟨h0, h1, by omega⟩]
  rfl
@[simp] theorem ixF_list {ds : List PyData} {j : Int} : ixF (.list ds) (.int j) = (match atI ds j with | some d => .ok (.val d) | none => .stuck) := (rfl)
@[simp] theorem ixF_tup {ds : List PyData} {j : Int} : ixF (.tuple ds) (.int j) = (match atI ds j with | some d => .ok (.val d) | none => .stuck) := (rfl)
@[simp] theorem atI_0 {α : Type} {x : α} {xs : List α} : atI (x :: xs) 0 = some x := by simp [atI, ixN]
@[simp] theorem atI_1 {α : Type} {x y : α} {xs : List α} : atI (x :: y :: xs) 1 = some y := by
  have h : (1 : Int) < (xs.length : Int) + 1 + 1 := by omega
  simp [atI, ixN, h]
theorem atI_of {α : Type} {xs : List α} {j : Nat} (h : j < xs.length) : atI xs (j : Int) = some xs[j] := L2.atI_nat (List.getElem?_eq_getElem h)
theorem atI_mem {α : Type} {xs : List α} {j : Int} (h0 : 0 ≤ j) (h : j < xs.length) : ∃ x ∈ xs, atI xs j = some x := by
  obtain ⟨n, rfl⟩ : ∃ n : Nat, j = (n : Int) := ⟨j.toNat, by omega⟩
  exact ⟨xs[n], List.getElem_mem (by omega), atI_of (by omega)⟩
@[simp] theorem fits_nil : fits ([] : List PyData) = true := by decide
theorem fits_of {α : Type} {xs : List α} (h : xs.length ≤ 10000) : fits xs = true := decide_eq_true (Nat.le_trans h (by decide))
@[simp] theorem lenF_list {ds : List PyData} : lenF [.list ds] = .ok (.val (.int (ds.length : Int))) := (rfl)
@[simp] theorem lenF_tup {ds : List PyData} : lenF [.tuple ds] = .ok (.val (.int (ds.length : Int))) := (rfl)
@[simp] theorem absF_int {a : Int} : absF [.int a] = .ok (.val (.int (if a < 0 then -a else a))) := (rfl)
@[simp] theorem isiF_eq {T : String} {d : PyData} : isiF T d = (match kitB (tyD d) T with | some b => .ok (.val (.bool b)) | none => .stuck) := (rfl)
@[simp] theorem ty_none : tyD .none = "NoneType" := (rfl)
@[simp] theorem ty_bool {b : Bool} : tyD (.bool b) = "bool" := (rfl)
@[simp] theorem ty_int {b : Int} : tyD (.int b) = "int" := (rfl)
@[simp] theorem ty_str {b : Str} : tyD (.str b) = "str" := (rfl)
@[simp] theorem ty_list {b : List PyData} : tyD (.list b) = "list" := (rfl)
@[simp] theorem ty_tup {b : List PyData} : tyD (.tuple b) = "tuple" := (rfl)
@[simp] theorem ty_dict {b : List (PyData × PyData)} : tyD (.dict b) = "dict" := (rfl)
@[simp] theorem kit_int_int : kitB "int" "int" = some true := by decide +kernel
@[simp] theorem kit_bool_int : kitB "bool" "int" = some true := by decide +kernel
@[simp] theorem kit_none_int : kitB "NoneType" "int" = some false := by decide +kernel
@[simp] theorem kit_str_int : kitB "str" "int" = some false := by decide +kernel
@[simp] theorem kit_list_int : kitB "list" "int" = some false := by decide +kernel
@[simp] theorem kit_tup_int : kitB "tuple" "int" = some false := by decide +kernel
@[simp] theorem kit_dict_int : kitB "dict" "int" = some false := by decide +kernel
@[simp] theorem kit_int_bool : kitB "int" "bool" = some false := by decide +kernel
@[simp] theorem kit_bool_bool : kitB "bool" "bool" = some true := by decide +kernel
@[simp] theorem kit_none_bool : kitB "NoneType" "bool" = some false := by decide +kernel
@[simp] theorem kit_tup_bool : kitB "tuple" "bool" = some false := by decide +kernel
@[simp] theorem kit_str_bool : kitB "str" "bool" = some false := by decide +kernel
@[simp] theorem kit_list_bool : kitB "list" "bool" = some false := by decide +kernel
@[simp] theorem kit_dict_bool : kitB "dict" "bool" = some false := by decide +kernel
@[simp] theorem kit_tup_tup : kitB "tuple" "tuple" = some true := by decide +kernel
@[simp] theorem kit_int_tup : kitB "int" "tuple" = some false := by decide +kernel
@[simp] theorem kit_bool_tup : kitB "bool" "tuple" = some false := by decide +kernel
@[simp] theorem kit_none_tup : kitB "NoneType" "tuple" = some false := by decide +kernel
@[simp] theorem kit_str_tup : kitB "str" "tuple" = some false := by decide +kernel
@[simp] theorem kit_list_tup : kitB "list" "tuple" = some false := by decide +kernel
@[simp] theorem kit_dict_tup : kitB "dict" "tuple" = some false := by decide +kernel
@[simp] theorem kit_str_str : kitB "str" "str" = some true := by decide +kernel
@[simp] theorem kit_int_str : kitB "int" "str" = some false := by decide +kernel
@[simp] theorem kit_bool_str : kitB "bool" "str" = some false := by decide +kernel
@[simp] theorem kit_none_str : kitB "NoneType" "str" = some false := by decide +kernel
@[simp] theorem kit_tup_str : kitB "tuple" "str" = some false := by decide +kernel
@[simp] theorem kit_list_str : kitB "list" "str" = some false := by decide +kernel
@[simp] theorem kit_dict_str : kitB "dict" "str" = some false := by decide +kernel
@[simp] theorem kit_dict_dict : kitB "dict" "dict" = some true := by decide +kernel
@[simp] theorem kit_int_dict : kitB "int" "dict" = some false := by decide +kernel
@[simp] theorem kit_bool_dict : kitB "bool" "dict" = some false := by decide +kernel
@[simp] theorem kit_none_dict : kitB "NoneType" "dict" = some false := by decide +kernel
@[simp] theorem kit_tup_dict : kitB "tuple" "dict" = some false := by decide +kernel
@[simp] theorem kit_list_dict : kitB "list" "dict" = some false := by decide +kernel
@[simp] theorem kit_str_dict : kitB "str" "dict" = some false := by decide +kernel
@[simp] theorem kit_list_list : kitB "list" "list" = some true := by decide +kernel
@[simp] theorem kit_int_list : kitB "int" "list" = some false := by decide +kernel
@[simp] theorem kit_bool_list : kitB "bool" "list" = some false := by decide +kernel
@[simp] theorem kit_none_list : kitB "NoneType" "list" = some false := by decide +kernel
@[simp] theorem kit_tup_list : kitB "tuple" "list" = some false := by decide +kernel
@[simp] theorem kit_dict_list : kitB "dict" "list" = some false := by decide +kernel
@[simp] theorem kit_str_list : kitB "str" "list" = some false := by decide +kernel
end
section
variable {δ : DEnv} {i : Nat} {c : EC}
@[simp] theorem isSub_DuelError : isSub c .DuelError = true := by cases c <;> rfl
@[simp] theorem isSub_NoNumber : isSub c .NoNumber = decide (c = .NoNumber) := (rfl)
@[simp] theorem isSub_NoText : isSub c .NoText = decide (c = .NoText) := (rfl)
@[simp] theorem isSub_TooGreat : isSub c .TooGreat = decide (c = .TooGreat) := (rfl)
@[simp] theorem isSub_NoPlan : isSub c .NoPlan = decide (c = .NoPlan) := (rfl)
@[simp] theorem isSub_NoWord : isSub c .NoWord = decide (c = .NoWord) := (rfl)
@[simp] theorem isSub_NoPlace : isSub c .NoPlace = decide (c = .NoPlace) := (rfl)
@[simp] theorem isSub_NoName : isSub c .NoName = decide (c = .NoName) := (rfl)
@[simp] theorem isSub_NoRow : isSub c .NoRow = decide (c = .NoRow) := (rfl)
@[simp] theorem isSub_NoShares : isSub c .NoShares = decide (c = .NoShares) := (rfl)
@[simp] theorem isSub_Unlike : isSub c .Unlike = decide (c = .Unlike) := (rfl)
@[simp] theorem isSub_Forgets : isSub c .Forgets = decide (c = .Forgets) := (rfl)
@[simp] theorem mIsE_ap : mIsE i c δ = (match δ[i]? with | some (some (.exn x)) => .ok (.val (.bool (isSub x.c c))) | _ => .stuck) := (rfl)
@[simp] theorem mIsEV_ap : mIsEV i δ = (match δ[i]? with | some (some (.exn _)) => .ok (.val (.bool true)) | _ => .stuck) := (rfl)
@[simp] theorem fits_simp {α : Type} {xs : List α} (h : xs.length ≤ 10000) : fits xs = true := fits_of h
@[simp] theorem addF_list {x y : List PyData} (h : x.length + y.length ≤ 10000) : addF (.list x) (.list y) = .ok (.own (.list (x ++ y))) := if_pos (Nat.le_trans h (by decide))
@[simp] theorem addF_tup {x y : List PyData} (h : x.length + y.length ≤ 10000) : addF (.tuple x) (.tuple y) = .ok (.val (.tuple (x ++ y))) := if_pos (Nat.le_trans h (by decide))
@[simp] theorem addF_str {x y : Str} (h : x.length + y.length ≤ 10000) : addF (.str x) (.str y) = .ok (.val (.str (x ++ y))) := if_pos (Nat.le_trans h (by decide))
@[simp] theorem slF_list {ds : List PyData} {lo hi : Option Int} : slF (.list ds) lo hi = .ok (.own (.list (cutD ds lo hi))) := (rfl)
@[simp] theorem slF_tup {ds : List PyData} {lo hi : Option Int} : slF (.tuple ds) lo hi = .ok (.val (.tuple (cutD ds lo hi))) := (rfl)
@[simp] theorem dropX_nx : dropX i (.nx δ) = .nx ((clearX δ).set i none) := (rfl)
@[simp] theorem clearX_nil : clearX [] = [] := (rfl)
@[simp] theorem clearX_cons {o : Option Slot} : clearX (o :: δ) = Slot.noX o :: clearX δ := (rfl)
@[simp] theorem noX_none : Slot.noX none = none := (rfl)
@[simp] theorem noX_val {d : PyData} : Slot.noX (some (.val d)) = some (.val d) := (rfl)
@[simp] theorem noX_own {d : PyData} : Slot.noX (some (.own d)) = some (.own d) := (rfl)
@[simp] theorem noX_bor {d : PyData} : Slot.noX (some (.bor d)) = some (.bor d) := (rfl)
@[simp] theorem noX_lent {d : PyData} : Slot.noX (some (.lent d)) = some (.lent d) := (rfl)
@[simp] theorem noX_exn {x : Exn} : Slot.noX (some (.exn x)) = none := (rfl)
end
/-! ### loops -/
/-- a for that goes through -/
theorem loop_all {g : MG} {b : MS} (Inv : DEnv → Prop) : ∀ {ds : List PyData} {δ : DEnv}, (∀ d ∈ ds, ∀ δ, Inv δ → ∃ δ1 δ2, g d δ = some δ1 ∧ b δ1 = .nx δ2 ∧ Inv δ2) → Inv δ → ∃ δ', loopO g b ds δ = .nx δ' ∧ Inv δ'
  | [], δ, _, h0 => ⟨δ, rfl, h0⟩
  | d :: ds, δ, h, h0 => by
    obtain ⟨δ1, δ2, e1, e2, h2⟩ := h d List.mem_cons_self δ h0
    obtain ⟨δ', e3, h3⟩ := loop_all Inv (ds := ds) (δ := δ2) (fun d hd => h d (List.mem_cons_of_mem _ hd)) h2
    exact ⟨δ', by unfold loopO; rw [e1]; simp only; rw [e2]; exact e3, h3⟩
theorem seq_nx {m n : MS} {δ δ' : DEnv} (h : m δ = .nx δ') : mSeq m n δ = n δ' := by
  show (match m δ with | .nx δ' => n δ' | o => o) = _
  rw [h]
theorem seq_rt {m n : MS} {δ : DEnv} {s : Slot} (h : m δ = .rt s) : mSeq m n δ = .rt s := by
  show (match m δ with | .nx δ' => n δ' | o => o) = _
  rw [h]
theorem seq_ex {m n : MS} {δ δ' : DEnv} {x : Exn} (h : m δ = .ex x δ') : mSeq m n δ = .ex x δ' := by
  show (match m δ with | .nx δ' => n δ' | o => o) = _
  rw [h]
theorem for_nx {g : MG} {it : ML} {b : MS} (Inv : DEnv → Prop) {ds : List PyData} {δ : DEnv} (hit : it δ = .ok ds) (h : ∀ d ∈ ds, ∀ δ, Inv δ → ∃ δ1 δ2, g d δ = some δ1 ∧ b δ1 = .nx δ2 ∧ Inv δ2) (h0 : Inv δ) : ∃ δ', mFor g it b δ = .nx δ' ∧ Inv δ' := by
  obtain ⟨δ', e, h'⟩ := loop_all Inv h h0
  refine ⟨δ', ?_, h'⟩
  show (it δ).out δ _ = _
  rw [hit]
  exact e
theorem seq_for {g : MG} {it : ML} {b n : MS} (Inv : DEnv → Prop) {ds : List PyData} {δ : DEnv} {o : Out} (hit : it δ = .ok ds) (h : ∀ d ∈ ds, ∀ δ, Inv δ → ∃ δ1 δ2, g d δ = some δ1 ∧ b δ1 = .nx δ2 ∧ Inv δ2) (h0 : Inv δ) (k : ∀ δ', Inv δ' → n δ' = o) : mSeq (mFor g it b) n δ = o := by
  obtain ⟨δ', e, h'⟩ := for_nx Inv hit h h0
  rw [seq_nx e]
  exact k δ' h'
theorem mem_rng {lo : Int} {n : Nat} {d : PyData} (h : d ∈ rng lo n) : ∃ i : Nat, i < n ∧ d = .int (lo + (i : Int)) := by
  simp only [rng, List.mem_map, List.mem_range] at h
  obtain ⟨i, hi, e⟩ := h
  exact ⟨i, hi, e.symm⟩
theorem rng1_of {n : Int} (h : small62 n = true) : rng1 [.int n] = .ok (rng 0 n.toNat) := if_pos h
theorem small_of {n : Int} (h0 : -1000000 ≤ n) (h : n ≤ 1000000) : small62 n = true := decide_eq_true ⟨by omega, by omega⟩
@[simp] theorem rng1_simp {n : Nat} (h : n ≤ 1000000) : rng1 [.int (n : Int)] = .ok (rng 0 n) := by
  rw [rng1_of (small_of (by omega) (by omega))]
  simp
theorem cutD_to {ds : List PyData} {n : Int} (h : 0 ≤ n) : cutD ds none (some n) = ds.take n.toNat := by
  have e : HT.sIx ds.length ds.length (some n) = min n.toNat ds.length := by
    unfold HT.sIx
    simp only
    rw [if_neg (by omega)]
  unfold cutD
  rw [e, HT.sIx_none, Nat.sub_zero, List.drop_zero]
  rcases Nat.le_total n.toNat ds.length with q | q
  · rw [Nat.min_eq_left q]
  · rw [Nat.min_eq_right q, List.take_length, List.take_of_length_le q]
theorem cutD_from {ds : List PyData} {n : Int} (h : 0 ≤ n) : cutD ds (some n) none = ds.drop n.toNat := by
  have e : HT.sIx ds.length 0 (some n) = min n.toNat ds.length := by
    unfold HT.sIx
    simp only
    rw [if_neg (by omega)]
  unfold cutD
  rw [e, HT.sIx_none]
  rcases Nat.le_total n.toNat ds.length with q | q
  · rw [Nat.min_eq_left q, ← List.length_drop, List.take_length]
  · rw [Nat.min_eq_right q, List.drop_length, List.drop_of_length_le q, List.take_nil]
theorem seq_seq {m n k : MS} {δ : DEnv} : mSeq m (mSeq n k) δ = mSeq (mSeq m n) k δ := by
  show (match m δ with | .nx δ' => mSeq n k δ' | o => o) = (match (match m δ with | .nx δ' => n δ' | o => o) with | .nx δ' => k δ' | o => o)
  cases m δ <;> rfl
theorem seq_st {m n : MS} {δ δ' : DEnv} {o : Out} (h : m δ = .nx δ') (k : n δ' = o) : mSeq m n δ = o := (seq_nx h).trans k
@[simp] theorem miQ_ap {ma : MD} {δ : DEnv} : miQ ma δ = (ma δ).bind seqOf := (rfl)
@[simp] theorem seqOf_list {ds : List PyData} : seqOf (.list ds) = .ok ds := (rfl)
@[simp] theorem seqOf_tup {ds : List PyData} : seqOf (.tuple ds) = .ok ds := (rfl)
@[simp] theorem loopO_nil {g : MG} {b : MS} {δ : DEnv} : loopO g b [] δ = .nx δ := (rfl)
@[simp] theorem loopO_cons {g : MG} {b : MS} {d : PyData} {ds : List PyData} {δ : DEnv} : loopO g b (d :: ds) δ = (match g d δ with
    | none => .stuck
    | some δ1 => match b δ1 with
      | .nx δ2 => loopO g b ds δ2
      | .ct δ2 => loopO g b ds δ2
      | .bk δ2 => .nx δ2
      | o => o) := (rfl)
@[simp] theorem mgN_ap {i : Nat} {d : PyData} {δ : DEnv} : mgN i d δ = some (δ.set i (some (.val d))) := (rfl)
@[simp] theorem miV_ap {i : Nat} {δ : DEnv} : miV i δ = (match δ[i]? with
  | some (some (.val d)) => seqOf d
  | some (some (.bor (.list ds))) => .ok ds
  | _ => .stuck) := (rfl)
@[simp] theorem mApp_ap {i : Nat} {m : MD} {δ : DEnv} : mApp i m δ = (match δ[i]? with
  | some (some (.own (.list ds))) => if ds.length < sizeLine then (m δ).out δ fun d => .nx (δ.set i (some (.own (.list (ds ++ [d]))))) else .stuck
  | _ => .stuck) := (rfl)
@[simp] theorem revF_list {ds : List PyData} : revF (.list ds) = .ok (.own (.list ds.reverse)) := (rfl)
@[simp] theorem listF_list {ds : List PyData} : listF [.list ds] = .ok (.own (.list ds)) := (rfl)
@[simp] theorem listF_tup {ds : List PyData} : listF [.tuple ds] = .ok (.own (.list ds)) := (rfl)
theorem lt_sizeLine {n : Nat} (h : n ≤ 10000) : n < sizeLine := Nat.lt_of_le_of_lt h (by decide)
@[simp] theorem mYes_ap {δ : DEnv} : mYes δ = .ok true := (rfl)
@[simp] theorem mComp_ap {vs : List Nat} {g : MG} {it : ML} {c : MT} {m : MD} {δ : DEnv} : mComp vs g it c m δ = (it δ).bind fun ds => if fits ds = true then (compR g c m (wipeD δ vs) ds).bind fun ys => .ok (.own (.list ys)) else .stuck := (rfl)
theorem compR_map {α : Type} {g : MG} {c : MT} {m : MD} {δ : DEnv} {f h : α → PyData} : ∀ {xs : List α}, (∀ x ∈ xs, ∃ δ1, g (f x) δ = some δ1 ∧ c δ1 = .ok true ∧ m δ1 = .ok (h x)) → compR g c m δ (xs.map f) = .ok (xs.map h)
  | [], _ => rfl
  | x :: xs, H => by
    obtain ⟨δ1, e1, e2, e3⟩ := H x List.mem_cons_self
    rw [List.map_cons, compR, e1]
    simp only [e2, e3]
    rw [compR_map (xs := xs) fun y hy => H y (List.mem_cons_of_mem _ hy)]
    rfl
@[simp] theorem wipeD_nil {δ : DEnv} : wipeD δ [] = δ := (rfl)
@[simp] theorem wipeD_cons {δ : DEnv} {v : Nat} {vs : List Nat} : wipeD δ (v :: vs) = (wipeD δ vs).set v none := (rfl)
theorem shaped_str {x : Str} (h : PyData.strOk x = true) : SeqAt.shaped (.str x) = true := by
  unfold SeqAt.shaped
  simp [PyData.canLay0, PyData.depth, h]
@[simp] theorem eqF_bool {a b : Bool} : eqF (.bool a) (.bool b) = .ok (.val (.bool (a == b))) := by
  unfold eqF
  rw [if_pos ⟨shaped_bool a, shaped_bool b⟩]
  rfl
@[simp] theorem neF_bool {a b : Bool} : neF (.bool a) (.bool b) = .ok (.val (.bool (!(a == b)))) := by
  unfold neF
  rw [if_pos ⟨shaped_bool a, shaped_bool b⟩]
  rfl
@[simp] theorem eqF_str {a b : Str} (ha : PyData.strOk a = true) (hb : PyData.strOk b = true) : eqF (.str a) (.str b) = .ok (.val (.bool (a == b))) := by
  unfold eqF
  rw [if_pos ⟨shaped_str ha, shaped_str hb⟩]
  rfl
@[simp] theorem neF_str {a b : Str} (ha : PyData.strOk a = true) (hb : PyData.strOk b = true) : neF (.str a) (.str b) = .ok (.val (.bool (!(a == b)))) := by
  unfold neF
  rw [if_pos ⟨shaped_str ha, shaped_str hb⟩]
  rfl
theorem eqF_of {d e : PyData} (h : SeqAt.shaped d = true) (h' : SeqAt.shaped e = true) : eqF d e = .ok (.val (.bool (PyData.eqv d e))) := if_pos ⟨h, h'⟩
theorem neF_of {d e : PyData} (h : SeqAt.shaped d = true) (h' : SeqAt.shaped e = true) : neF d e = .ok (.val (.bool (!PyData.eqv d e))) := if_pos ⟨h, h'⟩
theorem eqF_self {d : PyData} (h : SeqAt.shaped d = true) : eqF d d = .ok (.val (.bool true)) := by
  rw [eqF_of h h, SeqAt.eqv_refl d (by simp only [SeqAt.shaped, Bool.and_eq_true] at h; exact h.1)]
theorem neF_self {d : PyData} (h : SeqAt.shaped d = true) : neF d d = .ok (.val (.bool false)) := by
  rw [neF_of h h, SeqAt.eqv_refl d (by simp only [SeqAt.shaped, Bool.and_eq_true] at h; exact h.1)]
  rfl
theorem for_in {g g0 : MG} {it : ML} {b : MS} {P : DEnv → Prop} (Inv : DEnv → Prop) {ds : List PyData} {d : PyData} {δ0 δ1 : DEnv} (eg : g0 d δ0 = some δ1) (hit : it δ1 = .ok ds) (h : ∀ d ∈ ds, ∀ δ, Inv δ → ∃ δ1 δ2, g d δ = some δ1 ∧ b δ1 = .nx δ2 ∧ Inv δ2) (h0 : Inv δ1) (hP : ∀ δ', Inv δ' → P δ') : ∃ δ1 δ2, g0 d δ0 = some δ1 ∧ mFor g it b δ1 = .nx δ2 ∧ P δ2 := by
  obtain ⟨δ', e, h'⟩ := for_nx Inv hit h h0
  exact ⟨δ1, δ', eg, e, hP δ' h'⟩
end DL
/-! DLt: texts -/
namespace DL
open PySem L2
section
variable {X : Cx} {a : Ax} {W : WX} {e o : Expr} {es : List Expr} {pos apos : Pos}
/-- o.name(e) of a text -/
def mM1 (f : PyData → PyData → Res Slot) (mo me : MD) : ME := fun δ => (mo δ).bind fun d => match d with
  | .str z => (me δ).bind fun e => f (.str z) e
  | _ => .stuck
theorem snd_m1 {C : Cn} {r : V → List V → Hp → VK → Prop} {f : PyData → PyData → Res Slot} (hf : OpS C.K (fun x y H Q => r x [y] H Q) f) (hn : NoExc f) {ta tb : TE} {ma mb : MD} (ha : Snd C W (relD C.K) ta ma) (hb : Snd C W (relD C.K) tb mb) : Snd C W (relE C.K) (tM1 r ta tb) (mM1 f ma mb) := by
  refine snd_bind (rel1 := relD C.K) (rel2 := relE C.K) downE ha (t2 := fun x σ H Q => (∃ a, x = .str a) ∧ tb σ H fun y H2 => r x [y] H2 Q) (m2 := fun d δ => match d with
    | .str z => (mb δ).bind fun e => f (.str z) e
    | _ => .stuck) ?_
  intro d x B G0 G H σ δ H0 S rd Q hq
  cases d with
  | str z =>
    cases rdr_str rd
    refine ⟨⟨_, rfl⟩, hb B G0 G H σ δ S _ ?_⟩
    have hq' : ROk C W σ G H (relE C.K H) ((mb δ).bind fun e => f (.str z) e) Q := hq
    generalize mb δ = rb at hq'
    cases rb with
    | stuck => exact hq'.elim
    | exc z => exact hq'
    | ok e =>
      intro y G' H' st ry
      have hq2 : ROk C W σ G H (relE C.K H) (f (.str z) e) Q := hq'
      cases ef : f (.str z) e with
      | stuck => rw [ef] at hq2; exact hq2.elim
      | exc z => exact (hn _ e z ef).elim
      | ok s =>
        rw [ef] at hq2
        exact hf G' H' _ y _ e s Q st.gh (rd.mono st.g st.h) ry ef fun v G2 H2 s2 rv => hq2 v G2 H2 (st.trans s2) (rv.mono0 st.h)
  | none => exact (show False from hq).elim
  | bool _ => exact (show False from hq).elim
  | int _ => exact (show False from hq).elim
  | list _ => exact (show False from hq).elim
  | tuple _ => exact (show False from hq).elim
  | dict _ => exact (show False from hq).elim
/-- startswith -/
def startsF : PyData → PyData → Res Slot
  | .str a, .str b => okB (Txt.startswith a b)
  | _, _ => .stuck
theorem startsF_ne : NoExc startsF := fun d e x => by unfold startsF; split <;> (intro h; cases h)
theorem startsF_ok {K : PySem.W.Frag} : OpS K (fun x y H Q => ∃ a b, x = .str a ∧ [y] = [.str b] ∧ Q (.bl (Txt.startswith a b)) H) startsF := by
  intro G H x y d e s Q g rx ry ef q
  unfold startsF at ef
  split at ef
  · cases ef
    cases rdr_str rx; cases rdr_str ry
    exact ⟨_, _, rfl, rfl, q _ G H (Stp.refl g) (Rep.bl _)⟩
  · cases ef
theorem de_starts {ma mb : MD} (ha : DR X a W o ma) (hb : DR X a W e mb) (hs : starEach [e] X.env = [(false, eval e X.env)] := by rfl) (hbase : attributeBase o "startswith" X.env (eval o X.env) = eval o X.env := by rfl) (hline : (apos.endLine == pos.line) = true := by rfl) :
    DE X a W (.Call (.Attribute o "startswith" apos) [e] [] pos) (mM1 startsF ma mb) :=
  let ⟨_, pa, sa⟩ := ha; let ⟨_, pb, sb⟩ := hb; ⟨_, pe_m1 F.slot_str_startswith F.type_str_startswith mt_startswith pa pb hs hbase hline, snd_m1 (C := cn X a) startsF_ok startsF_ne sa sb⟩
/-- split -/
def splitF : PyData → PyData → Res Slot
  | .str a, .str b => if (b.length == 0) = false ∧ a.length ≤ 10000 then .ok (.own (.list ((Txt.split a b).map PyData.str))) else .stuck
  | _, _ => .stuck
theorem splitF_ne : NoExc splitF := fun d e x => by unfold splitF; split <;> (try split) <;> (intro h; cases h)
theorem repL_strs {K : PySem.W.Frag} {G : Hp} : ∀ ys : List Str, RepL K G (ys.map V.str) (ys.map PyData.str)
  | [] => .nil
  | y :: ys => .cons (.str _) (repL_strs ys)
theorem splitF_ok {K : PySem.W.Frag} : OpS K (fun x y H Q => ∃ a b, x = .str a ∧ [y] = [.str b] ∧ (b.length == 0) = false ∧ a.length + 2 ≤ sizeLine ∧ rNewStrs (Txt.split a b) H Q) splitF := by
  intro G H x y d e s Q g rx ry ef q
  unfold splitF at ef
  split at ef
  · split at ef
    · rename_i hz
      cases ef
      cases rdr_str rx; cases rdr_str ry
      exact ⟨_, _, rfl, rfl, hz.1, Nat.le_trans (by omega : _ ≤ 10002) (by decide), new_list g (repL_strs _) q⟩
    · cases ef
  · cases ef
theorem de_split {ma mb : MD} (ha : DR X a W o ma) (hb : DR X a W e mb) (hs : starEach [e] X.env = [(false, eval e X.env)] := by rfl) (hbase : attributeBase o "split" X.env (eval o X.env) = eval o X.env := by rfl) (hline : (apos.endLine == pos.line) = true := by rfl) :
    DE X a W (.Call (.Attribute o "split" apos) [e] [] pos) (mM1 splitF ma mb) :=
  let ⟨_, pa, sa⟩ := ha; let ⟨_, pb, sb⟩ := hb; ⟨_, pe_split pa pb hs hbase hline, snd_m1 (C := cn X a) splitF_ok splitF_ne sa sb⟩
/-- int, of a text too -/
def intSF : List PyData → Res Slot
  | [.int i] => okI i
  | [.bool b] => okI (if b then 1 else 0)
  | [.str z] => match PySem.intText? z with
    | some n => if z.length ≤ 640 then okI n else .stuck
    | none => .stuck
  | _ => .stuck
theorem intSF_ok {K : PySem.W.Frag} : CallS K (fun xs H Q => ((∃ i, xs = [.int i] ∧ Q (.int i) H) ∨ ∃ k, xs = [.bl k] ∧ Q (.int (if k then 1 else 0)) H) ∨ ∃ a n, xs = [.str a] ∧ PySem.intText? a = some n ∧ a.length ≤ 640 ∧ Q (.int n) H) intSF := by
  refine ⟨fun G H vs ds s Q g rd ef q => ?_, fun ds x => ?_⟩
  · unfold intSF at ef
    split at ef
    · cases ef
      obtain ⟨v, ev, r⟩ := rdl1 rd
      cases rdr_int r
      exact .inl (.inl ⟨_, ev, q _ G H (Stp.refl g) (Rep.int _)⟩)
    · cases ef
      obtain ⟨v, ev, r⟩ := rdl1 rd
      cases rdr_bool r
      exact .inl (.inr ⟨_, ev, q _ G H (Stp.refl g) (Rep.int _)⟩)
    · split at ef
      · rename_i n hn
        split at ef
        · rename_i hz
          cases ef
          obtain ⟨v, ev, r⟩ := rdl1 rd
          cases rdr_str r
          exact .inr ⟨_, _, ev, hn, hz, q _ G H (Stp.refl g) (Rep.int _)⟩
        · cases ef
      · cases ef
    · cases ef
  · unfold intSF
    split <;> (try split) <;> (try split) <;> (intro h; cases h)
/-! for simp -/
@[simp] theorem mM1_ap {f : PyData → PyData → Res Slot} {mo me : MD} {δ : DEnv} : mM1 f mo me δ = (mo δ).bind fun d => match d with
  | .str z => (me δ).bind fun e => f (.str z) e
  | _ => .stuck := (rfl)
@[simp] theorem startsF_str {a b : Str} : startsF (.str a) (.str b) = .ok (.val (.bool (Txt.startswith a b))) := (rfl)
theorem splitF_str {a b : Str} (hb : (b.length == 0) = false) (ha : a.length ≤ 10000) : splitF (.str a) (.str b) = .ok (.own (.list ((Txt.split a b).map PyData.str))) := if_pos ⟨hb, ha⟩
@[simp] theorem intSF_int {i : Int} : intSF [.int i] = .ok (.val (.int i)) := (rfl)
theorem intSF_str {z : Str} {n : Int} (h : PySem.intText? z = some n) (hl : z.length ≤ 640) : intSF [.str z] = .ok (.val (.int n)) := by
  unfold intSF
  simp only [h]
  exact if_pos hl
theorem lenF_str {z : Str} (h : z.length ≤ 10000) : lenF [.str z] = .ok (.val (.int (z.length : Int))) := if_pos (Nat.le_trans h (by decide))
theorem strF_int {i : Int} (h : i.natAbs.log2 < 1920) : strF [.int i] = .ok (.val (.str (toString i))) := if_pos h
theorem slF_str {z : Str} {lo hi : Option Int} (h : z.length ≤ 10000) : slF (.str z) lo hi = .ok (.val (.str (cutS z lo hi))) := if_pos (Nat.le_trans h (by decide))
@[simp] theorem seqOf_str {z : Str} : seqOf (.str z) = .ok (signs z) := (rfl)
theorem inF_str {n : Bool} {x z : Str} : inF n (.str x) (.str z) = .ok (.val (.bool (n != strIn x z))) := rfl
end
end DL
namespace DL
open PySem L2
section
variable {X : Cx} {a : Ax} {W : WX} {pos : Pos}
/-- a module's constant, whatever its marks -/
theorem de_gl {x : Str} {v : V} {d : PyData} (hg : Gl X x) (hm : ∃ u, X.mg x = some u ∧ RelV v u) (h : ∀ G, Rep X.K G v d) (hd : (x == ("__debug__" : Str)) = false := by decide) : DE X a W (.Name x pos) (mC d) :=
  let ⟨_, e, r⟩ := hm; de_glob hg e r h hd
end
end DL
namespace DL
open PySem L2
section
variable {X : Cx} {a : Ax} {W : WX} {e o : Expr} {es : List Expr} {pos apos : Pos}
def strsOf : List PyData → Option (List Str)
  | [] => some []
  | .str x :: r => (strsOf r).map (x :: ·)
  | _ => none
theorem strsOf_map : ∀ ys : List Str, strsOf (ys.map PyData.str) = some ys
  | [] => rfl
  | y :: ys => by
    show (strsOf (ys.map PyData.str)).map (y :: ·) = _
    rw [strsOf_map ys]
    rfl
theorem strsOf_eq : ∀ {ds : List PyData} {ys : List Str}, strsOf ds = some ys → ds = ys.map PyData.str
  | [], ys, e => by cases e; rfl
  | .str x :: r, ys, e => by
    have e' : (strsOf r).map (x :: ·) = some ys := e
    cases h : strsOf r with
    | none => rw [h] at e'; cases e'
    | some zs => rw [h] at e'; cases e'; rw [strsOf_eq h]; rfl
  | .none :: r, ys, e => by cases e
  | .bool _ :: r, ys, e => by cases e
  | .int _ :: r, ys, e => by cases e
  | .list _ :: r, ys, e => by cases e
  | .tuple _ :: r, ys, e => by cases e
  | .dict _ :: r, ys, e => by cases e
theorem repL_strs_eq {K : PySem.W.Frag} {G : Hp} : ∀ {ys : List Str} {xs : List V}, RepL K G xs (ys.map PyData.str) → xs = ys.map V.str
  | [], _, .nil => rfl
  | y :: ys, _, .cons r rs => by
    cases r
    rw [repL_strs_eq (ys := ys) rs]
    rfl
def joinF : PyData → PyData → Res Slot
  | .str a, .list ds => match strsOf ds with
    | some ys => if (ys.map (·.length)).sum + ys.length * a.length ≤ 16777216 then okV (.str (Txt.join a ys)) else .stuck
    | none => .stuck
  | .str a, .tuple ds => match strsOf ds with
    | some ys => if (ys.map (·.length)).sum + ys.length * a.length ≤ 16777216 then okV (.str (Txt.join a ys)) else .stuck
    | none => .stuck
  | _, _ => .stuck
theorem joinF_ne : NoExc joinF := fun d e x => by unfold joinF; split <;> (try split) <;> (try split) <;> (intro h; cases h)
theorem joinF_ok {K : PySem.W.Frag} : OpS K (fun x y H Q => ∃ a p, ∃ ys : List Str, x = .str a ∧ [y] = [.ref p] ∧ (SqL K H p (ys.map V.str) ∨ SqT K H p (ys.map V.str)) ∧ (ys.map (·.length)).sum + ys.length * a.length ≤ 16777216 ∧ Q (.str (Txt.join a ys)) H) joinF := by
  intro G H x y d e s Q g rx ry ef q
  unfold joinF at ef
  split at ef
  · split at ef
    · rename_i ys hy
      split at ef
      · rename_i hz
        cases ef
        cases rdr_str rx
        obtain ⟨b, xs, e1, q1, r1⟩ := rdr_list g ry
        subst e1
        rw [strsOf_eq hy] at r1
        rw [repL_strs_eq r1] at q1
        exact ⟨_, b, ys, rfl, rfl, .inl q1, hz, q _ G H (Stp.refl g) (Rep.str _)⟩
      · cases ef
    · cases ef
  · split at ef
    · rename_i ys hy
      split at ef
      · rename_i hz
        cases ef
        cases rdr_str rx
        obtain ⟨b, xs, e1, q1, r1⟩ := rdr_tup g ry
        subst e1
        rw [strsOf_eq hy] at r1
        rw [repL_strs_eq r1] at q1
        exact ⟨_, b, ys, rfl, rfl, .inr q1, hz, q _ G H (Stp.refl g) (Rep.str _)⟩
      · cases ef
    · cases ef
  · cases ef
theorem de_join {ma mb : MD} (ha : DR X a W o ma) (hb : DR X a W e mb) (hs : starEach [e] X.env = [(false, eval e X.env)] := by rfl) (hbase : attributeBase o "join" X.env (eval o X.env) = eval o X.env := by rfl) (hline : (apos.endLine == pos.line) = true := by rfl) :
    DE X a W (.Call (.Attribute o "join" apos) [e] [] pos) (mM1 joinF ma mb) :=
  let ⟨_, pa, sa⟩ := ha; let ⟨_, pb, sb⟩ := hb; ⟨_, pe_join pa pb hs hbase hline, snd_m1 (C := cn X a) joinF_ok joinF_ne sa sb⟩
end
end DL
/-! DLm: what changes a list of one's own, or a lent one, while an expression is reckoned -/
namespace DL
open PySem L2
/-! ### 1. steps that change one cell -/
structure StpL (a : Addr) (G H G' H' : Hp) : Prop where
  g : Same G G'
  h : ∀ b o, b ≠ a → H b = some o → H' b = some o
  gh : Same G' H'
  fr : ∀ b, G b = none → H b ≠ none → G' b = none
/-- only the contents of one's own and of the lent differ -/
def ChgS : Option (Option Slot) → Option (Option Slot) → Prop
  | some (some (.own _)), some (some (.own _)) => True
  | some (some (.lent _)), some (some (.lent _)) => True
  | x, y => x = y
theorem ChgS.refl (x : Option (Option Slot)) : ChgS x x := by
  unfold ChgS
  split <;> trivial
def Chg (δ δ' : DEnv) : Prop := ∀ i : Nat, ChgS δ[i]? δ'[i]?
theorem Chg.refl (δ : DEnv) : Chg δ δ := fun i => ChgS.refl _
theorem ChgS.trans {x y z : Option (Option Slot)} (h : ChgS x y) (k : ChgS y z) : ChgS x z := by
  cases x with
  | none => cases (show none = y from h); exact k
  | some x =>
    cases x with
    | none => cases (show some none = y from h); exact k
    | some s =>
      cases s with
      | val d => cases (show some (some (.val d)) = y from h); exact k
      | bor d => cases (show some (some (.bor d)) = y from h); exact k
      | exn d => cases (show some (some (.exn d)) = y from h); exact k
      | own d =>
        cases y with
        | none => cases (show some (some (Slot.own d)) = none from h)
        | some y =>
          cases y with
          | none => cases (show some (some (Slot.own d)) = some none from h)
          | some t =>
            cases t with
            | own e => cases z with
              | none => cases (show some (some (Slot.own e)) = none from k)
              | some z => cases z with
                | none => cases (show some (some (Slot.own e)) = some none from k)
                | some u => cases u with
                  | own f => trivial
                  | val f => cases (show some (some (Slot.own e)) = some (some (Slot.val f)) from k)
                  | bor f => cases (show some (some (Slot.own e)) = some (some (Slot.bor f)) from k)
                  | lent f => cases (show some (some (Slot.own e)) = some (some (Slot.lent f)) from k)
                  | exn f => cases (show some (some (Slot.own e)) = some (some (Slot.exn f)) from k)
            | val f => cases (show some (some (Slot.own d)) = some (some (Slot.val f)) from h)
            | bor f => cases (show some (some (Slot.own d)) = some (some (Slot.bor f)) from h)
            | lent f => cases (show some (some (Slot.own d)) = some (some (Slot.lent f)) from h)
            | exn f => cases (show some (some (Slot.own d)) = some (some (Slot.exn f)) from h)
      | lent d =>
        cases y with
        | none => cases (show some (some (Slot.lent d)) = none from h)
        | some y =>
          cases y with
          | none => cases (show some (some (Slot.lent d)) = some none from h)
          | some t =>
            cases t with
            | lent e => cases z with
              | none => cases (show some (some (Slot.lent e)) = none from k)
              | some z => cases z with
                | none => cases (show some (some (Slot.lent e)) = some none from k)
                | some u => cases u with
                  | lent f => trivial
                  | val f => cases (show some (some (Slot.lent e)) = some (some (Slot.val f)) from k)
                  | bor f => cases (show some (some (Slot.lent e)) = some (some (Slot.bor f)) from k)
                  | own f => cases (show some (some (Slot.lent e)) = some (some (Slot.own f)) from k)
                  | exn f => cases (show some (some (Slot.lent e)) = some (some (Slot.exn f)) from k)
            | val f => cases (show some (some (Slot.lent d)) = some (some (Slot.val f)) from h)
            | bor f => cases (show some (some (Slot.lent d)) = some (some (Slot.bor f)) from h)
            | own f => cases (show some (some (Slot.lent d)) = some (some (Slot.own f)) from h)
            | exn f => cases (show some (some (Slot.lent d)) = some (some (Slot.exn f)) from h)
theorem Chg.trans {δ δ' δ2 : DEnv} (h : Chg δ δ') (k : Chg δ' δ2) : Chg δ δ2 := fun i => (h i).trans (k i)
theorem Chg.bor {δ δ' : DEnv} (h : Chg δ δ') {i : Nat} {d : PyData} (e : δ'[i]? = some (some (.bor d))) : δ[i]? = some (some (.bor d)) := by
  have := h i
  rw [e] at this
  generalize δ[i]? = x at this
  cases x with
  | none => cases (show none = some (some (Slot.bor d)) from this)
  | some x => cases x with
    | none => cases (show some none = some (some (Slot.bor d)) from this)
    | some s => cases s with
      | own f => cases (show some (some (Slot.own f)) = some (some (Slot.bor d)) from this)
      | lent f => cases (show some (some (Slot.lent f)) = some (some (Slot.bor d)) from this)
      | val f => cases (show some (some (Slot.val f)) = some (some (Slot.bor d)) from this)
      | bor f => exact this
      | exn f => cases (show some (some (Slot.exn f)) = some (some (Slot.bor d)) from this)
theorem Chg.off {δ δ' : DEnv} (h : Chg δ δ') {i : Nat} (e : δ[i]? = some none) : δ'[i]? = some none := by
  have := h i
  rw [e] at this
  exact this.symm
theorem chg_own {δ : DEnv} {i : Nat} {d d' : PyData} (e : δ[i]? = some (some (.own d))) : Chg δ (δ.set i (some (.own d'))) := fun j => by
  by_cases hj : i = j
  · subst hj
    rw [e, List.getElem?_set_self (List.getElem?_eq_some_iff.mp e).1]
    trivial
  · rw [List.getElem?_set_ne hj]; exact ChgS.refl _
theorem chg_lent {δ : DEnv} {i : Nat} {d d' : PyData} (e : δ[i]? = some (some (.lent d))) : Chg δ (δ.set i (some (.lent d'))) := fun j => by
  by_cases hj : i = j
  · subst hj
    rw [e, List.getElem?_set_self (List.getElem?_eq_some_iff.mp e).1]
    trivial
  · rw [List.getElem?_set_ne hj]; exact ChgS.refl _
section
variable {C : Cn} {B G0 G H G' H' : Hp} {σ : St} {δ : DEnv}
/-- one's own object was changed elsewhere -/
theorem StR.stepOwn (S : StR C B G0 G H σ δ) {i : Nat} {a : Addr} {d d' : PyData} (hi : δ[i]? = some (some (.own d))) (ha : σ[i]? = some (some (.ref a))) (st : StpL a G H G' H') (na : G' a = none) (t : Top C.K G' H' a d') : StR C B G0 G' H' σ (δ.set i (some (.own d'))) := by
  obtain ⟨v, q, b, ev, n, nb, tb⟩ := S.sl i _ hi
  rw [ha] at q; cases q; cases ev
  have hli : i < δ.length := (List.getElem?_eq_some_iff.mp hi).1
  have off : ∀ (j : Nat) (s : Slot), i ≠ j → (δ.set i (some (.own d')))[j]? = some (some s) → δ[j]? = some (some s) := fun j s hj e => by
    rw [List.getElem?_set_ne hj] at e; exact e
  have kp : ∀ b, b ≠ a → H b ≠ none → H' b = H b := fun b hb hn => by
    cases e : H b with
    | none => exact absurd e hn
    | some o => exact st.h b o hb e
  refine ⟨fun b u q => st.h b u (fun w => by rw [w, nb.1] at q; cases q) (S.bh _ _ q), S.g0.trans st.g, st.gh, fun x e z => ?_, by simp [S.len], fun c e => ⟨(S.lb c e).1, ?_⟩, fun j k d1 d2 e1 e2 => S.lu j k d1 d2 (lent_off (by intro _ z; cases z) e1) (lent_off (by intro _ z; cases z) e2), fun j s e => ?_, fun j k d1 d2 b hjk e1 e2 e3 => ?_⟩
  · by_cases hx : x = a
    · rw [hx]; exact na
    · exact st.fr x (S.fr x e z) (fun w => z (S.bh.free w))
  · have hc : c ≠ a := fun w => nb.2 (by rw [← w]; exact e)
    rw [kp c hc (S.lb c e).2]; exact (S.lb c e).2
  · by_cases hj : i = j
    · subst hj
      rw [List.getElem?_set_self hli] at e
      cases e
      exact ⟨_, ha, a, rfl, na, nb, t⟩
    · have e' := off j s hj e
      obtain ⟨u, q, z⟩ := S.sl j s e'
      refine ⟨u, q, ?_⟩
      cases s with
      | val d2 => exact Rep.mono st.g z
      | own d2 =>
        obtain ⟨b, eb, n2, nb2, t2⟩ := z
        subst eb
        have hba : b ≠ a := fun w => by
          subst w
          exact S.ap i j d d2 b hj hi e' ha q
        exact ⟨b, rfl, st.fr b n2 t2.ne, nb2, t2.mono' st.g (kp b hba t2.ne)⟩
      | bor d2 =>
        obtain ⟨b, eb, nb2, t2⟩ := z
        subst eb
        have hba : b ≠ a := fun w => nb2 (by rw [w]; exact nb.1)
        exact ⟨b, rfl, nb2, t2.mono' st.g (kp b hba t2.ne)⟩
      | lent d2 =>
        obtain ⟨b, eb, n2, nl2, t2⟩ := z
        subst eb
        have hba : b ≠ a := fun w => nb.2 (by rw [← w]; exact nl2)
        exact ⟨b, rfl, st.fr b n2 t2.ne, nl2, t2.mono' st.g (kp b hba t2.ne)⟩
      | exn x => exact z
  · have own' : ∀ (l : Nat) (d3 : PyData), (δ.set i (some (.own d')))[l]? = some (some (.own d3)) → ∃ d4, δ[l]? = some (some (.own d4)) := fun l d3 e => by
      by_cases hl : i = l
      · subst hl; exact ⟨d, hi⟩
      · exact ⟨d3, off l _ hl e⟩
    obtain ⟨d3, e1⟩ := own' j d1 e1
    obtain ⟨d4, e2⟩ := own' k d2 e2
    exact S.ap j k d3 d4 b hjk e1 e2 e3
/-- the lent object was changed elsewhere -/
theorem StR.stepLent (S : StR C B G0 G H σ δ) {i : Nat} {a : Addr} {d d' : PyData} (hi : δ[i]? = some (some (.lent d))) (ha : σ[i]? = some (some (.ref a))) (st : StpL a G H G' H') (na : G' a = none) (t : Top C.K G' H' a d') : StR C B G0 G' H' σ (δ.set i (some (.lent d'))) := by
  obtain ⟨v, q, b, ev, n, nl, tb⟩ := S.sl i _ hi
  rw [ha] at q; cases q; cases ev
  have nb := (S.lb a nl).1
  have hli : i < δ.length := (List.getElem?_eq_some_iff.mp hi).1
  have off : ∀ (j : Nat) (s : Slot), i ≠ j → (δ.set i (some (.lent d')))[j]? = some (some s) → δ[j]? = some (some s) := fun j s hj e => by
    rw [List.getElem?_set_ne hj] at e; exact e
  have kp : ∀ b, b ≠ a → H b ≠ none → H' b = H b := fun b hb hn => by
    cases e : H b with
    | none => exact absurd e hn
    | some o => exact st.h b o hb e
  have fw : ∀ (l : Nat) (d3 : PyData), (δ.set i (some (.lent d')))[l]? = some (some (.lent d3)) → l = i := fun l d3 e => by
    by_cases hl : i = l
    · exact hl.symm
    · exact (S.lu i l d d3 hi (off l _ hl e)).symm
  refine ⟨fun b u q => st.h b u (fun w => by rw [w, nb] at q; cases q) (S.bh _ _ q), S.g0.trans st.g, st.gh, fun x e z => ?_, by simp [S.len], fun c e => ⟨(S.lb c e).1, by rw [nl] at e; cases e; exact t.ne⟩, fun j k d1 d2 e1 e2 => by rw [fw j d1 e1, fw k d2 e2], fun j s e => ?_, fun j k d1 d2 b hjk e1 e2 e3 => ?_⟩
  · by_cases hx : x = a
    · rw [hx]; exact na
    · exact st.fr x (S.fr x e z) (fun w => z (S.bh.free w))
  · by_cases hj : i = j
    · subst hj
      rw [List.getElem?_set_self hli] at e
      cases e
      exact ⟨_, ha, a, rfl, na, nl, t⟩
    · have e' := off j s hj e
      obtain ⟨u, q, z⟩ := S.sl j s e'
      refine ⟨u, q, ?_⟩
      cases s with
      | val d2 => exact Rep.mono st.g z
      | own d2 =>
        obtain ⟨b, eb, n2, nb2, t2⟩ := z
        subst eb
        have hba : b ≠ a := fun w => nb2.2 (by rw [w]; exact nl)
        exact ⟨b, rfl, st.fr b n2 t2.ne, nb2, t2.mono' st.g (kp b hba t2.ne)⟩
      | bor d2 =>
        obtain ⟨b, eb, nb2, t2⟩ := z
        subst eb
        have hba : b ≠ a := fun w => nb2 (by rw [w]; exact nb)
        exact ⟨b, rfl, nb2, t2.mono' st.g (kp b hba t2.ne)⟩
      | lent d2 => exact (hj (S.lu i j d d2 hi e')).elim
      | exn x => exact z
  · have own' : ∀ (l : Nat) (d3 : PyData), (δ.set i (some (.lent d')))[l]? = some (some (.own d3)) → δ[l]? = some (some (.own d3)) := fun l d3 e => by
      by_cases hl : i = l
      · subst hl; rw [List.getElem?_set_self hli] at e; cases e
      · exact off l _ hl e
    exact S.ap j k d1 d2 b hjk (own' j d1 e1) (own' k d2 e2) e3
/-- a fresh cell is set aside among what stays -/
theorem StR.aside (S : StR C B G0 G H σ δ) {D : Addr} {o : HO} (n : H D = none) : StR C (upd B D o) G0 G (upd H D o) σ δ := by
  have st := Stp.newH (o := o) S.gh n
  have T := S.step st
  have bd : B D = none := S.bh.free n
  refine ⟨fun b u q => ?_, T.g0, T.gh, fun x e z => ?_, T.len, fun c e => ⟨?_, (T.lb c e).2⟩, T.lu, fun j s e => ?_, T.ap⟩
  · by_cases hb : b = D
    · subst hb; rw [upd_same] at q ⊢; exact q
    · rw [upd_ne hb] at q ⊢; exact S.bh _ _ q
  · by_cases hx : x = D
    · rw [hx]; exact S.gh.free n
    · rw [upd_ne hx] at z; exact S.fr x e z
  · have hc : c ≠ D := fun w => (S.lb c e).2 (by rw [w]; exact n)
    rw [upd_ne hc]; exact (S.lb c e).1
  · obtain ⟨v, q, z0⟩ := S.sl j s e
    obtain ⟨v', q', z⟩ := T.sl j s e
    rw [q] at q'; cases q'
    refine ⟨v, q, ?_⟩
    cases s with
    | val d => exact z
    | own d =>
      obtain ⟨b, eb, n2, nb2, t2⟩ := z
      obtain ⟨b0, eb0, _, _, t0⟩ := z0
      subst eb; cases eb0
      have hb : b ≠ D := fun w => t0.ne (by rw [w]; exact n)
      exact ⟨b, rfl, n2, ⟨by rw [upd_ne hb]; exact nb2.1, nb2.2⟩, t2⟩
    | bor d =>
      obtain ⟨b, eb, nb2, t2⟩ := z
      subst eb
      have hb : b ≠ D := fun w => nb2 (by rw [w]; exact bd)
      exact ⟨b, rfl, by rw [upd_ne hb]; exact nb2, t2⟩
    | lent d => exact z
    | exn x => exact z
/-- .. and no longer -/
theorem StR.unaside {D : Addr} {o : HO} (n : B D = none) (S : StR C (upd B D o) G0 G H σ δ) (hb : ∀ (i : Nat) (d : PyData), δ[i]? = some (some (.bor d)) → σ[i]? ≠ some (some (.ref D))) : StR C B G0 G H σ δ := by
  have sb : Same B (upd B D o) := fun b u q => by rw [upd_ne (ne_of_none q n)]; exact q
  refine ⟨sb.trans S.bh, S.g0, S.gh, fun x e z => S.fr x e (Same.ne sb z), S.len, fun c e => ⟨sb.free (S.lb c e).1, (S.lb c e).2⟩, S.lu, fun j s e => ?_, S.ap⟩
  obtain ⟨v, q, z⟩ := S.sl j s e
  refine ⟨v, q, ?_⟩
  cases s with
  | val d => exact z
  | own d => obtain ⟨b, eb, n2, nb2, t2⟩ := z; exact ⟨b, eb, n2, ⟨sb.free nb2.1, nb2.2⟩, t2⟩
  | bor d =>
    obtain ⟨b, eb, nb2, t2⟩ := z
    subst eb
    have hD : b ≠ D := fun w => hb j d e (by rw [← w]; exact q)
    exact ⟨b, rfl, by rw [upd_ne hD] at nb2; exact nb2, t2⟩
  | lent d => exact z
  | exn x => exact z
/-- the cell set aside gets other contents -/
theorem StR.asideSet {D : Addr} {o o' : HO} (S : StR C (upd B D o) G0 G H σ δ) (nG : G D = none) (hb : ∀ (i : Nat) (d : PyData), δ[i]? = some (some (.bor d)) → σ[i]? ≠ some (some (.ref D))) : StR C (upd B D o') G0 G (upd H D o') σ δ := by
  have hD : H D = some o := S.bh D o upd_same
  have nb : ∀ b, b ≠ D → upd B D o' b = upd B D o b := fun b hb => by rw [upd_ne hb, upd_ne hb]
  have lD : ∀ c, C.L = some c → c ≠ D := fun c e w => by
    have := (S.lb c e).1
    rw [w, upd_same] at this
    cases this
  refine ⟨fun b u q => ?_, S.g0, fun b u q => ?_, fun x e z => ?_, S.len, fun c e => ⟨?_, ?_⟩, S.lu, fun j s e => ?_, S.ap⟩
  · by_cases hb : b = D
    · subst hb; rw [upd_same] at q ⊢; exact q
    · rw [upd_ne hb] at q ⊢; exact S.bh b u (by rw [upd_ne hb]; exact q)
  · rw [upd_ne (ne_of_none q nG)]; exact S.gh _ _ q
  · by_cases hx : x = D
    · rw [hx]; exact nG
    · exact S.fr x e (by rw [nb x hx] at z; exact z)
  · rw [nb c (lD c e)]; exact (S.lb c e).1
  · rw [upd_ne (lD c e)]; exact (S.lb c e).2
  · obtain ⟨v, q, z⟩ := S.sl j s e
    refine ⟨v, q, ?_⟩
    cases s with
    | val d => exact z
    | own d =>
      obtain ⟨b, eb, n2, nb2, t2⟩ := z
      have hb : b ≠ D := fun w => by have := nb2.1; rw [w, upd_same] at this; cases this
      exact ⟨b, eb, n2, ⟨by rw [nb b hb]; exact nb2.1, nb2.2⟩, t2.mono' (Same.refl _) (upd_ne hb)⟩
    | bor d =>
      obtain ⟨b, eb, nb2, t2⟩ := z
      subst eb
      have hD : b ≠ D := fun w => hb j d e (by rw [← w]; exact q)
      exact ⟨b, rfl, by rw [nb b hD]; exact nb2, t2.mono' (Same.refl _) (upd_ne hD)⟩
    | lent d =>
      obtain ⟨b, eb, n2, nl2, t2⟩ := z
      exact ⟨b, eb, n2, nl2, t2.mono' (Same.refl _) (upd_ne (lD b nl2))⟩
    | exn x => exact z
end
/-! ### 2. expressions that change what one owns or was lent -/
abbrev MM := DEnv → Res (PyData × DEnv)
abbrev MML := DEnv → Res (List PyData × DEnv)
def MOk {α β : Type} (C : Cn) (B G0 : Hp) (σ : St) (G : Hp) (rel : Hp → α → β → Prop) (r : Res (α × DEnv)) (Q : β → Hp → Prop) : Prop := match r with
  | .ok (d, δ') => ∀ v G' H', StR C B G0 G' H' σ δ' → Same G G' → rel G' d v → Q v H'
  | _ => False
def SndM {α β : Type} (C : Cn) (rel : Hp → α → β → Prop) (t : St → Hp → (β → Hp → Prop) → Prop) (m : DEnv → Res (α × DEnv)) : Prop :=
  (∀ B G0 G H σ δ, StR C B G0 G H σ δ → ∀ Q, MOk C B G0 σ G rel (m δ) Q → t σ H Q) ∧ ∀ δ d δ', m δ = .ok (d, δ') → Chg δ δ'
def EDE (X : Cx) (a : Ax) (W : WX) (e : Expr) (m : MM) : Prop := ∃ t, PE X e t ∧ SndM (cn X a) (fun G d v => Rep X.K G v d) t m
def EDA (X : Cx) (a : Ax) (W : WX) (es : List Expr) (m : MML) : Prop := ∃ t, PA X es t ∧ SndM (cn X a) (fun G ds vs => RepL X.K G vs ds) t m
section
variable {X : Cx} {a : Ax} {W : WX} {e o : Expr} {es : List Expr} {pos : Pos}
def emP (m : MD) : MM := fun δ => (m δ).bind fun d => .ok (d, δ)
theorem em_pure {m : MD} (h : DV X a W e m) : EDE X a W e (emP m) := by
  obtain ⟨t, p, s⟩ := h
  refine ⟨t, p, fun B G0 G H σ δ S Q q => ?_, fun δ d δ' e => ?_⟩
  · refine s B G0 G H σ δ S Q ?_
    unfold emP at q
    cases r : m δ with
    | stuck => rw [r] at q; exact q.elim
    | exc x => rw [r] at q; exact q.elim
    | ok d =>
      rw [r] at q
      have q' : ∀ v G' H', StR (cn X a) B G0 G' H' σ δ → Same G G' → Rep X.K G' v d → Q v H' := q
      exact fun v G' H' st r => q' v G' H' (S.step st) st.g r
  · unfold emP at e
    cases r : m δ with
    | stuck => rw [r] at e; cases e
    | exc x => rw [r] at e; cases e
    | ok d => rw [r] at e; cases e; exact Chg.refl δ
def emNil : MML := fun δ => .ok ([], δ)
def emCons (m : MM) (n : MML) : MML := fun δ => (m δ).bind fun r => (n r.2).bind fun s => .ok (r.1 :: s.1, s.2)
theorem ea_nil : EDA X a W [] emNil := ⟨_, pa_nil, fun B G0 G H σ δ S Q q => q [] G H S (Same.refl _) .nil, fun δ d δ' e => by cases e; exact Chg.refl δ⟩
theorem ea_cons {m : MM} {n : MML} (h : EDE X a W e m) (k : EDA X a W es n) (hs : starEach (e :: es) X.env = (false, eval e X.env) :: starEach es X.env := by rfl) : EDA X a W (e :: es) (emCons m n) := by
  obtain ⟨t, p, s, c⟩ := h
  obtain ⟨u, q, z, c2⟩ := k
  refine ⟨_, pa_cons p q hs, fun B G0 G H σ δ S Q hq => ?_, fun δ d δ' e => ?_⟩
  · refine s B G0 G H σ δ S _ ?_
    unfold emCons at hq
    cases r : m δ with
    | stuck => rw [r] at hq; exact hq.elim
    | exc x => rw [r] at hq; exact hq.elim
    | ok r1 =>
      obtain ⟨d, δ1⟩ := r1
      rw [r] at hq
      intro v G1 H1 S1 g1 rv
      refine z B G0 G1 H1 σ δ1 S1 _ ?_
      have hq' : MOk (cn X a) B G0 σ G (fun G ds vs => RepL X.K G vs ds) ((n δ1).bind fun s => .ok (d :: s.1, s.2)) Q := hq
      cases r2 : n δ1 with
      | stuck => rw [r2] at hq'; exact hq'.elim
      | exc x => rw [r2] at hq'; exact hq'.elim
      | ok r3 =>
        obtain ⟨ds, δ2⟩ := r3
        rw [r2] at hq'
        have hq2 : ∀ v G' H', StR (cn X a) B G0 G' H' σ δ2 → Same G G' → RepL X.K G' v (d :: ds) → Q v H' := hq'
        exact fun vs G2 H2 S2 g2 rs => hq2 (v :: vs) G2 H2 S2 (g1.trans g2) (.cons (Rep.mono g2 rv) rs)
  · unfold emCons at e
    cases r : m δ with
    | stuck => rw [r] at e; cases e
    | exc x => rw [r] at e; cases e
    | ok r1 =>
      obtain ⟨d1, δ1⟩ := r1
      rw [r] at e
      have e' : ((n δ1).bind fun s => .ok (d1 :: s.1, s.2)) = Res.ok (d, δ') := e
      cases r2 : n δ1 with
      | stuck => rw [r2] at e'; cases e'
      | exc x => rw [r2] at e'; cases e'
      | ok r3 =>
        obtain ⟨ds, δ2⟩ := r3
        rw [r2] at e'
        cases e'
        exact (c _ _ _ r).trans (c2 _ _ _ r2)
def emTup (m : MML) : MM := fun δ => (m δ).bind fun r => if fits r.1 = true then .ok (.tuple r.1, r.2) else .stuck
theorem em_tup {m : MML} {k} (h : EDA X a W es m) : EDE X a W (.Tuple es k pos) (emTup m) := by
  obtain ⟨t, p, s, c⟩ := h
  refine ⟨_, pe_tup p, fun B G0 G H σ δ S Q hq => ?_, fun δ d δ' e => ?_⟩
  · refine s B G0 G H σ δ S _ ?_
    unfold emTup at hq
    cases r : m δ with
    | stuck => rw [r] at hq; exact hq.elim
    | exc x => rw [r] at hq; exact hq.elim
    | ok r1 =>
      obtain ⟨ds, δ1⟩ := r1
      rw [r] at hq
      have hq' : MOk (cn X a) B G0 σ G (fun G d v => Rep X.K G v d) (if fits ds = true then .ok (.tuple ds, δ1) else .stuck) Q := hq
      by_cases hz : fits ds = true
      · rw [if_pos hz] at hq'
        have hq2 : ∀ v G' H', StR (cn X a) B G0 G' H' σ δ1 → Same G G' → Rep X.K G' v (.tuple ds) → Q v H' := hq'
        intro vs G1 H1 S1 g1 rv
        refine ⟨by rw [rv.length]; exact of_decide_eq_true hz, fun p hp => ?_⟩
        have st := Stp.new (o := .tup vs) S1.gh hp
        exact hq2 _ _ _ (S1.step st) (g1.trans st.g) (.tup (.inl (.inl upd_same)) (RepL.mono st.g rv))
      · rw [if_neg hz] at hq'; exact hq'.elim
  · unfold emTup at e
    cases r : m δ with
    | stuck => rw [r] at e; cases e
    | exc x => rw [r] at e; cases e
    | ok r1 =>
      obtain ⟨ds, δ1⟩ := r1
      rw [r] at e
      have e' : (if fits ds = true then Res.ok (PyData.tuple ds, δ1) else .stuck) = Res.ok (d, δ') := e
      split at e'
      · cases e'; exact c _ _ _ r
      · cases e'
/-- a built-in of what was so reckoned -/
def emBi (f : List PyData → Res Slot) (m : MML) : MM := fun δ => (m δ).bind fun r => (f r.1).bind fun s => s.vl.bind fun d => .ok (d, r.2)
theorem RepL.toRd {K : PySem.W.Frag} {G H : Hp} : ∀ {vs : List V} {ds : List PyData}, RepL K G vs ds → RdL K G H ds vs
  | _, _, .nil => .nil
  | _, _, .cons r rs => .cons (.inl r) (RepL.toRd rs)
theorem em_bi {C : Cn} {r : List V → Hp → VK → Prop} {f : List PyData → Res Slot} (hf : CallS C.K r f) {t : TA} {m : MML} (h : SndM C (fun G ds vs => RepL C.K G vs ds) t m) : SndM C (fun G d v => Rep C.K G v d) (tCB r t) (emBi f m) := by
  obtain ⟨s, c⟩ := h
  refine ⟨fun B G0 G H σ δ S Q hq => ?_, fun δ d δ' e => ?_⟩
  · refine s B G0 G H σ δ S _ ?_
    unfold emBi at hq
    cases r1 : m δ with
    | stuck => rw [r1] at hq; exact hq.elim
    | exc x => rw [r1] at hq; exact hq.elim
    | ok r1' =>
      obtain ⟨ds, δ1⟩ := r1'
      rw [r1] at hq
      have hq' : MOk C B G0 σ G (fun G d v => Rep C.K G v d) ((f ds).bind fun s => s.vl.bind fun d => .ok (d, δ1)) Q := hq
      intro vs G1 H1 S1 g1 rv
      cases ef : f ds with
      | stuck => rw [ef] at hq'; exact hq'.elim
      | exc x => rw [ef] at hq'; exact hq'.elim
      | ok sl =>
        rw [ef] at hq'
        have hq2 : MOk C B G0 σ G (fun G d v => Rep C.K G v d) (sl.vl.bind fun d => .ok (d, δ1)) Q := hq'
        cases ev : sl.vl with
        | stuck => rw [ev] at hq2; exact hq2.elim
        | exc x => rw [ev] at hq2; exact hq2.elim
        | ok d =>
          rw [ev] at hq2
          have hq3 : ∀ v G' H', StR C B G0 G' H' σ δ1 → Same G G' → Rep C.K G' v d → Q v H' := hq2
          refine hf.1 G1 H1 vs ds sl _ S1.gh (RepL.toRd rv) ef fun v G2 H2 st rr => ?_
          obtain ⟨G3, st3, _, r3⟩ := ResF.vl st rr ev
          exact hq3 v G3 H2 (S1.step st3) (g1.trans st3.g) r3
  · unfold emBi at e
    cases r1 : m δ with
    | stuck => rw [r1] at e; cases e
    | exc x => rw [r1] at e; cases e
    | ok r1' =>
      obtain ⟨ds, δ1⟩ := r1'
      rw [r1] at e
      have e' : ((f ds).bind fun s => s.vl.bind fun d => .ok (d, δ1)) = Res.ok (d, δ') := e
      cases ef : f ds with
      | stuck => rw [ef] at e'; cases e'
      | exc x => rw [ef] at e'; cases e'
      | ok sl =>
        rw [ef] at e'
        have e2 : (sl.vl.bind fun d => .ok (d, δ1)) = Res.ok (d, δ') := e'
        cases ev : sl.vl with
        | stuck => rw [ev] at e2; cases e2
        | exc x => rw [ev] at e2; cases e2
        | ok d1 => rw [ev] at e2; cases e2; exact c _ _ _ r1
theorem em_callT {x : Str} {T : String} {r : List V → Hp → VK → Prop} {f : List PyData → Res Slot} {p : Pos} {m : MML} (hf : CallS X.K r f) (hc : CallR X (.type T) r) (hg : Gl X x) (hm : X.mg x = none) (hv : bootBuiltins x = some (.type T)) (h : EDA X a W (e :: es) m)
    (hn : x ≠ "__name__" := by decide) (hdb : (x == ("__debug__" : Str)) = false := by decide) (he : starEach (e :: es) X.env = (false, eval e X.env) :: starEach es X.env := by rfl) (hpl : (backTo pos (starEach es X.env)).any (·.1) = false := by rfl) : EDE X a W (.Call (.Name x p) (e :: es) [] pos) (emBi f m) :=
  let ⟨_, pa, sa⟩ := h; ⟨_, pe_callTy hc hg hm hv pa hn hdb he hpl, em_bi (C := cn X a) hf sa⟩
end
/-! ### 3. comprehensions -/
section
variable {C : Cn} {B G0 G H : Hp} {σ : St} {δ : DEnv}
/-- the cell set aside is at last kept -/
theorem StR.asideEnd {D : Addr} {o : HO} (n : B D = none) (S : StR C (upd B D o) G0 G H σ δ) (hb : ∀ (i : Nat) (d : PyData), δ[i]? = some (some (.bor d)) → σ[i]? ≠ some (some (.ref D))) {G2 : Hp} (s1 : Same G G2) (s2 : Same G2 H) (h2 : ∀ b, b ≠ D → G2 b = G b) : StR C B G0 G2 H σ δ := by
  have T := StR.unaside n S hb
  refine ⟨T.bh, T.g0.trans s1, s2, fun x e z => ?_, T.len, T.lb, T.lu, fun j s e => ?_, T.ap⟩
  · have hx : x ≠ D := fun w => z (by rw [w]; exact n)
    rw [h2 x hx]; exact T.fr x e z
  · obtain ⟨v, q, z⟩ := T.sl j s e
    obtain ⟨v', q', z'⟩ := S.sl j s e
    rw [q] at q'; cases q'
    refine ⟨v, q, ?_⟩
    cases s with
    | val d => exact Rep.mono s1 z
    | own d =>
      obtain ⟨b, eb, n2, nb2, t2⟩ := z
      obtain ⟨b', eb', _, nb', _⟩ := z'
      subst eb; cases eb'
      have hD : b ≠ D := fun w => by have := nb'.1; rw [w, upd_same] at this; cases this
      exact ⟨b, rfl, by rw [h2 b hD]; exact n2, nb2, t2.mono' s1 rfl⟩
    | bor d => obtain ⟨b, eb, nb2, t2⟩ := z; exact ⟨b, eb, nb2, t2.mono' s1 rfl⟩
    | lent d =>
      obtain ⟨b, eb, n2, nl2, t2⟩ := z
      have hD : b ≠ D := fun w => by
        have := (S.lb b nl2).1
        rw [w, upd_same] at this
        cases this
      exact ⟨b, eb, by rw [h2 b hD]; exact n2, nl2, t2.mono' s1 rfl⟩
    | exn x => exact z
def clearAt (vs : List Nat) (δ : DEnv) : Prop := ∀ v ∈ vs, ∀ s, δ[v]? ≠ some (some s)
theorem StR.unwipe {vs : List Nat} (S : StR C B G0 G H (L2.wipe σ vs) δ) (hc : clearAt vs δ) : StR C B G0 G H σ δ := by
  have at' : ∀ (j : Nat) (s : Slot), δ[j]? = some (some s) → (L2.wipe σ vs)[j]? = σ[j]? := fun j s e => wipe_off fun hm => hc j hm s e
  refine ⟨S.bh, S.g0, S.gh, S.fr, by rw [← S.len, wipe_length], S.lb, S.lu, fun j s e => ?_, fun i j d e a hij e1 e2 e3 => ?_⟩
  · obtain ⟨v, q, z⟩ := S.sl j s e
    exact ⟨v, by rw [← at' j s e]; exact q, z⟩
  · rw [← at' j _ e2]
    exact S.ap i j d e a hij e1 e2 (by rw [at' i _ e1]; exact e3)
def MGOff (g : MG) (us : List Nat) : Prop := ∀ d δ δ', g d δ = some δ' → δ'.length = δ.length ∧ ∀ j : Nat, j ∉ us → δ'[j]? = δ[j]?
def allOff (vs : List Nat) (δ : DEnv) : Bool := vs.all fun v => match δ[v]? with
  | some none => true
  | _ => false
theorem allOff_at {vs : List Nat} {δ : DEnv} (h : allOff vs δ = true) {v : Nat} (hv : v ∈ vs) : δ[v]? = some none := by
  have := List.all_eq_true.mp h v hv
  split at this
  · assumption
  · cases this
theorem wipeD_get {δ : DEnv} {j : Nat} : ∀ {vs : List Nat}, j ∉ vs → (wipeD δ vs)[j]? = δ[j]?
  | [], _ => rfl
  | v :: vs, h => by
    rw [List.mem_cons, not_or] at h
    show ((wipeD δ vs).set v none)[j]? = _
    rw [List.getElem?_set_ne (Ne.symm h.1)]
    exact wipeD_get h.2
theorem wipeD_len {δ : DEnv} : ∀ {vs : List Nat}, (wipeD δ vs).length = δ.length
  | [] => rfl
  | v :: vs => by
    show ((wipeD δ vs).set v none).length = _
    rw [List.length_set]
    exact wipeD_len
theorem wipeD_in {δ : DEnv} {j : Nat} : ∀ {vs : List Nat}, j ∈ vs → j < δ.length → (wipeD δ vs)[j]? = some none
  | v :: vs, h, hl => by
    show ((wipeD δ vs).set v none)[j]? = _
    by_cases hj : v = j
    · subst hj
      exact List.getElem?_set_self (by rw [wipeD_len]; exact hl)
    · rw [List.getElem?_set_ne hj]
      exact wipeD_in ((List.mem_cons.mp h).resolve_left (Ne.symm hj)) hl
theorem clear_wipe {δ : DEnv} {vs : List Nat} : clearAt vs (wipeD δ vs) := fun v hv s e => by
  by_cases hl : v < δ.length
  · rw [wipeD_in hv hl] at e; cases e
  · rw [List.getElem?_eq_none (by rw [wipeD_len]; omega)] at e; cases e
/-- what a turn leaves -/
theorem chg_turn {δ δ1 δ2 : DEnv} {vs us : List Nat} (ho : ∀ j : Nat, j ∉ us → δ1[j]? = δ[j]?) (hu : ∀ j ∈ us, j ∈ vs) (hv : allOff vs δ = true) (hlen : δ1.length = δ.length) (c : Chg δ1 δ2) : Chg δ (wipeD δ2 vs) ∧ allOff vs (wipeD δ2 vs) = true := by
  have len : ∀ {x y : DEnv}, Chg x y → ∀ v, x[v]? ≠ none → y[v]? ≠ none := fun {x y} c v h z => by
    have := c v
    rw [z] at this
    generalize x[v]? = w at this h
    cases w with
    | none => exact h rfl
    | some w => cases w with
      | none => cases (show some none = none from this)
      | some s => cases s with
        | own f => cases (show some (some (Slot.own f)) = none from this)
        | lent f => cases (show some (some (Slot.lent f)) = none from this)
        | val f => cases (show some (some (Slot.val f)) = none from this)
        | bor f => cases (show some (some (Slot.bor f)) = none from this)
        | exn f => cases (show some (some (Slot.exn f)) = none from this)
  have lin : ∀ v ∈ vs, v < δ2.length := fun v hv' => by
    have h0 := allOff_at hv hv'
    have hl : v < δ.length := (List.getElem?_eq_some_iff.mp h0).1
    have h1 : δ1[v]? ≠ none := fun z => by
      rw [List.getElem?_eq_none_iff] at z
      omega
    have h2 := len c v h1
    exact Nat.lt_of_not_le fun z => h2 (List.getElem?_eq_none z)
  refine ⟨fun j => ?_, ?_⟩
  · by_cases hj : j ∈ vs
    · rw [allOff_at hv hj, wipeD_in hj (lin j hj)]
      exact ChgS.refl _
    · rw [wipeD_get hj, ← ho j fun z => hj (hu j z)]
      exact c j
  · unfold allOff
    rw [List.all_eq_true]
    intro v hv'
    rw [wipeD_in hv' (lin v hv')]
def compM (g : MG) (m : MM) (vs : List Nat) : List PyData → DEnv → Res (List PyData × DEnv)
  | [], δ => .ok ([], δ)
  | d :: ds, δ => match g d δ with
    | none => .stuck
    | some δ1 => match m δ1 with
      | .ok (y, δ2) => (compM g m vs ds (wipeD δ2 vs)).bind fun r => .ok (y :: r.1, r.2)
      | _ => .stuck
def emComp (vs : List Nat) (g : MG) (it : ML) (m : MM) : MM := fun δ => match it δ with
  | .ok ds => if fits ds = true ∧ allOff vs δ = true then (compM g m vs ds δ).bind fun r => .ok (.list r.1, r.2) else .stuck
  | _ => .stuck
theorem compM_chg {g : MG} {m : MM} {vs us : List Nat} (ho : MGOff g us) (hs : ∀ j ∈ us, j ∈ vs) (hm : ∀ δ d δ', m δ = .ok (d, δ') → Chg δ δ') : ∀ {ds : List PyData} {δ δ' : DEnv} {ys : List PyData}, allOff vs δ = true → compM g m vs ds δ = .ok (ys, δ') → Chg δ δ' ∧ allOff vs δ' = true
  | [], δ, δ', ys, hv, e => by cases e; exact ⟨Chg.refl δ, hv⟩
  | d :: ds, δ, δ', ys, hv, e => by
    have e' : (match g d δ with
      | none => (.stuck : Res (List PyData × DEnv))
      | some δ1 => match m δ1 with
        | .ok (y, δ2) => (compM g m vs ds (wipeD δ2 vs)).bind fun r => .ok (y :: r.1, r.2)
        | _ => .stuck) = .ok (ys, δ') := e
    cases eg : g d δ with
    | none => rw [eg] at e'; cases e'
    | some δ1 =>
      rw [eg] at e'
      simp only at e'
      cases em : m δ1 with
      | stuck => rw [em] at e'; cases e'
      | exc x => rw [em] at e'; cases e'
      | ok r =>
        obtain ⟨y, δ2⟩ := r
        rw [em] at e'
        simp only at e'
        obtain ⟨c1, a1⟩ := chg_turn (ho d δ δ1 eg).2 hs hv (ho d δ δ1 eg).1 (hm _ _ _ em)
        cases ec : compM g m vs ds (wipeD δ2 vs) with
        | stuck => rw [ec] at e'; cases e'
        | exc x => rw [ec] at e'; cases e'
        | ok r2 =>
          obtain ⟨zs, δ3⟩ := r2
          rw [ec] at e'
          cases e'
          obtain ⟨c2, a2⟩ := compM_chg ho hs hm a1 ec
          exact ⟨c1.trans c2, a2⟩
theorem wipeD_id {δ : DEnv} {vs : List Nat} (h : allOff vs δ = true) : wipeD δ vs = δ := by
  refine List.ext_getElem? fun j => ?_
  by_cases hj : j ∈ vs
  · rw [wipeD_in hj (List.getElem?_eq_some_iff.mp (allOff_at h hj)).1, allOff_at h hj]
  · exact wipeD_get hj
theorem clear_of {δ : DEnv} {vs : List Nat} (h : allOff vs δ = true) : clearAt vs δ := fun v hv s e => by rw [allOff_at h hv] at e; cases e
theorem snd_compM {C : Cn} {W : WX} {wi : TI} {g : TG} {tt : TT} {te : TE} {mg : MG} {it : ML} {m : MM} {vs us : List Nat} (hi : SndI C W wi it) (hg : SndG C g mg us) (ho : MGOff mg us) (hs : ∀ j ∈ us, j ∈ vs) (ht : Snd C W0 relB tt mYes) (he : SndM C (fun G d v => Rep C.K G v d) te m) :
    SndM C (fun G d v => Rep C.K G v d) (tLc wi g tt te vs) (emComp vs mg it m) := by
  refine ⟨fun B G0 G H σ δ S Q hq => ?_, fun δ d δ' e => ?_⟩
  · refine hi B G0 G H σ δ S _ ?_
    unfold emComp at hq
    cases ri : it δ with
    | stuck => rw [ri] at hq; exact hq.elim
    | exc x => rw [ri] at hq; exact hq.elim
    | ok ds =>
      rw [ri] at hq
      by_cases hz : fits ds = true ∧ allOff vs δ = true
      · have hq' : MOk C B G0 σ G (fun G d v => Rep C.K G v d) ((compM mg m vs ds δ).bind fun r => .ok (.list r.1, r.2)) Q := by
          have : MOk C B G0 σ G (fun G d v => Rep C.K G v d) (if fits ds = true ∧ allOff vs δ = true then (compM mg m vs ds δ).bind fun r => .ok (.list r.1, r.2) else .stuck) Q := hq
          rw [if_pos hz] at this
          exact this
        intro J G1 H1 st1 gv D hD
        cases rc : compM mg m vs ds δ with
        | stuck => rw [rc] at hq'; exact hq'.elim
        | exc x => rw [rc] at hq'; exact hq'.elim
        | ok r =>
          obtain ⟨ys, δ'⟩ := r
          rw [rc] at hq'
          have hq3 : ∀ v G' H', StR C B G0 G' H' σ δ' → Same G G' → Rep C.K G' v (.list ys) → Q v H' := hq'
          have S1 := S.step st1
          have bD : B D = none := S1.bh.free hD
          have gD : G1 D = none := S1.gh.free hD
          have g0D : G0 D = none := S1.g0.free gD
          have hz' : ds.length ≤ sizeLine := of_decide_eq_true hz.1
          have hbor : ∀ δx, Chg δ δx → ∀ (j : Nat) (d : PyData), δx[j]? = some (some (.bor d)) → (L2.wipe σ vs)[j]? ≠ some (some (.ref D)) := by
            intro δx c j d e z
            have e0 := c.bor e
            have hj : j ∉ vs := fun hm => by rw [allOff_at hz.2 hm] at e0; cases e0
            rw [wipe_off hj] at z
            obtain ⟨v, q, b, ev, nb, _⟩ := S.sl j _ e0
            rw [z] at q; cases q; cases ev
            exact nb bD
          have sB : ∀ o, Same B (upd B D o) := fun o b u q => by rw [upd_ne (ne_of_none q bD)]; exact q
          refine ⟨fun i k H' => k + i = ds.length ∧ ∃ G' δi acc accd rest, StR C (upd B D (.lst acc)) G0 G' H' (L2.wipe σ vs) δi ∧ Same G1 G' ∧ RepL C.K G' acc accd ∧ acc.length ≤ i ∧ allOff vs δi = true ∧ Chg δ δi ∧ compM mg m vs (ds.drop i) δi = .ok (rest, δ') ∧ accd ++ rest = ys,
            ⟨ds.length, by omega, G1, δ, [], [], ys, ?_, Same.refl _, .nil, Nat.le_refl _, hz.2, Chg.refl δ, by simpa using rc, rfl⟩, ?_⟩
          · have := (S1.aside (o := .lst []) hD).wipe vs
            rw [wipeD_id hz.2] at this
            exact this
          rintro i k H' ⟨hk, G', δi, acc, accd, rest, Si, g1, ra, hl, hv, hc, hr, hy⟩
          have nD : G' D = none := Si.fr D g0D (by rw [upd_same]; exact fun z => nomatch z)
          obtain ⟨go, stop⟩ := gv i G' H' g1 Si.gh ((sB _).trans Si.bh)
          by_cases hi : i < ds.length
          · have ed : ds[i]? = some ds[i] := List.getElem?_eq_getElem hi
            obtain ⟨go, yl⟩ := go _ ed
            rw [List.drop_eq_getElem_cons hi] at hr
            have hr' : (match mg ds[i] δi with
              | none => (.stuck : Res (List PyData × DEnv))
              | some δ1 => match m δ1 with
                | .ok (y, δ2) => (compM mg m vs (ds.drop (i + 1)) (wipeD δ2 vs)).bind fun r => .ok (y :: r.1, r.2)
                | _ => .stuck) = .ok (rest, δ') := hr
            cases eg : mg ds[i] δi with
            | none => rw [eg] at hr'; cases hr'
            | some δ1 =>
              rw [eg] at hr'
              simp only at hr'
              cases em : m δ1 with
              | stuck => rw [em] at hr'; cases hr'
              | exc x => rw [em] at hr'; cases hr'
              | ok r =>
                obtain ⟨y, δ2⟩ := r
                rw [em] at hr'
                simp only at hr'
                cases ec : compM mg m vs (ds.drop (i + 1)) (wipeD δ2 vs) with
                | stuck => rw [ec] at hr'; cases hr'
                | exc x => rw [ec] at hr'; cases hr'
                | ok r2 =>
                  obtain ⟨zs, δ3⟩ := r2
                  rw [ec] at hr'
                  cases hr'
                  obtain ⟨c1, a1⟩ := chg_turn (ho _ _ _ eg).2 hs hv (ho _ _ _ eg).1 (he.2 _ _ _ em)
                  refine .inr ⟨go, fun H' => ∃ G' δi acc accd rest, StR C (upd B D (.lst acc)) G0 G' H' (L2.wipe σ vs) δi ∧ Same G1 G' ∧ RepL C.K G' acc accd ∧ acc.length ≤ i + 1 ∧ allOff vs δi = true ∧ Chg δ δi ∧ compM mg m vs (ds.drop (i + 1)) δi = .ok (rest, δ3) ∧ accd ++ rest = ys,
                    fun H' n => ⟨k - 1, by omega, by omega, n⟩, fun x H2 yy => ?_⟩
                  obtain ⟨G2, st3, r⟩ := yl x H2 yy
                  refine hg _ G0 G2 H2 _ _ x ds[i] δ1 _ (Si.step st3) r eg fun σ3 S3 o3 => ⟨wipe_eq o3 hs, ?_⟩
                  refine ht _ G0 G2 H2 σ3 δ1 S3 _ ?_
                  intro b G3 H3 st4 eb
                  cases eb
                  show te σ3 H3 _
                  refine he.1 _ G0 G3 H3 σ3 δ1 (S3.step st4) _ ?_
                  rw [em]
                  intro v G4 H4 S4 g4 rv
                  have e4 : H4 D = some (.lst acc) := S4.bh D _ upd_same
                  have n4 : G4 D = none := S4.fr D g0D (by rw [upd_same]; exact fun z => nomatch z)
                  have gg : Same G' G4 := (st3.g.trans st4.g).trans g4
                  refine ⟨acc, e4, by omega, G4, wipeD δ2 vs, acc ++ [v], accd ++ [y], zs, ?_, g1.trans gg, (RepL.mono gg ra).snoc rv, by simp; omega, a1, hc.trans c1, ec, by rw [← hy, List.append_assoc]; rfl⟩
                  have S5 := S4.wipe vs
                  rw [wipe_eq o3 hs] at S5
                  exact S5.asideSet n4 (hbor _ (hc.trans c1))
          · have e : i = ds.length := by omega
            refine .inl ⟨stop (by omega) (by omega), ?_⟩
            rw [List.drop_of_length_le (by omega)] at hr
            cases hr
            rw [List.append_nil] at hy
            subst hy
            obtain ⟨G2, s1, s2, r, h2⟩ := Top.freeze (K := C.K) (d := .list accd) nD Si.gh ⟨acc, Si.bh D _ upd_same, ra⟩
            have T := StR.asideEnd bD Si (hbor _ hc) s1 s2 h2
            exact hq3 (.ref D) G2 H' (T.unwipe (clear_of hv)) ((st1.g.trans g1).trans s1) r
      · have : MOk C B G0 σ G (fun G d v => Rep C.K G v d) (if fits ds = true ∧ allOff vs δ = true then (compM mg m vs ds δ).bind fun r => .ok (.list r.1, r.2) else .stuck) Q := hq
        rw [if_neg hz] at this
        exact this.elim
  · unfold emComp at e
    cases ri : it δ with
    | stuck => rw [ri] at e; cases e
    | exc x => rw [ri] at e; cases e
    | ok ds =>
      rw [ri] at e
      have e' : (if fits ds = true ∧ allOff vs δ = true then (compM mg m vs ds δ).bind fun r => .ok (.list r.1, r.2) else .stuck) = Res.ok (d, δ') := e
      split at e'
      · rename_i hz
        cases rc : compM mg m vs ds δ with
        | stuck => rw [rc] at e'; cases e'
        | exc x => rw [rc] at e'; cases e'
        | ok r => rw [rc] at e'; cases e'; exact (compM_chg ho hs he.2 hz.2 rc).1
      · cases e'
end
/-! ### 4. calls that change what they are lent -/
def ArgRM (K : PySem.W.Frag) (a : Addr) (G H : Hp) : Slot → V → Prop
  | .val d, v => Rep K G v d
  | .lent d, v => v = .ref a ∧ G a = none ∧ Top K G H a d
  | _, _ => False
def noLent : List Slot → Bool
  | [] => true
  | .lent _ :: _ => false
  | _ :: r => noLent r
def once : List Slot → Bool
  | [] => false
  | .lent _ :: r => noLent r
  | _ :: r => once r
theorem noLent_at : ∀ {ss : List Slot} {i : Nat} {d : PyData}, noLent ss = true → ss[i]? ≠ some (.lent d)
  | [], i, d, _, e => by simp at e
  | s :: r, 0, d, h, e => by
    simp at e
    subst e
    cases h
  | s :: r, i + 1, d, h, e => by
    have h' : noLent r = true := by
      cases s <;> first | exact h | cases h
    exact noLent_at (i := i) h' (by simpa using e)
theorem once_at : ∀ {ss : List Slot} {i j : Nat} {d e : PyData}, once ss = true → ss[i]? = some (.lent d) → ss[j]? = some (.lent e) → i = j
  | [], _, _, _, _, h, _, _ => by cases h
  | s :: r, 0, 0, _, _, _, _, _ => rfl
  | s :: r, 0, j + 1, d, e, h, e1, e2 => by
    simp at e1
    subst e1
    exact (noLent_at (i := j) h (by simpa using e2)).elim
  | s :: r, i + 1, 0, d, e, h, e1, e2 => by
    simp at e2
    subst e2
    exact (noLent_at (i := i) h (by simpa using e1)).elim
  | s :: r, i + 1, j + 1, d, e, h, e1, e2 => by
    have a1 : r[i]? = some (.lent d) := by simpa using e1
    have a2 : r[j]? = some (.lent e) := by simpa using e2
    cases s with
    | lent c => exact (noLent_at h a1).elim
    | val c => rw [once_at (ss := r) h a1 a2]
    | own c => rw [once_at (ss := r) h a1 a2]
    | bor c => rw [once_at (ss := r) h a1 a2]
    | exn c => rw [once_at (ss := r) h a1 a2]
theorem once_ex : ∀ {ss : List Slot}, once ss = true → ∃ (i : Nat) (d : PyData), ss[i]? = some (.lent d)
  | [], h => by cases h
  | s :: r, h => by
    cases s with
    | lent c => exact ⟨0, c, rfl⟩
    | val c => obtain ⟨i, d, e⟩ := once_ex (ss := r) h; exact ⟨i + 1, d, by simpa using e⟩
    | own c => obtain ⟨i, d, e⟩ := once_ex (ss := r) h; exact ⟨i + 1, d, by simpa using e⟩
    | bor c => obtain ⟨i, d, e⟩ := once_ex (ss := r) h; exact ⟨i + 1, d, by simpa using e⟩
    | exn c => obtain ⟨i, d, e⟩ := once_ex (ss := r) h; exact ⟨i + 1, d, by simpa using e⟩
abbrev FM := List Slot → Res (PyData × PyData)
def spM (C : Cn) (f : FM) : Sp := fun vs H Q E => ∃ G ad ss, Same G H ∧ Paired (ArgRM C.K ad G H) ss vs ∧ match f ss with
  | .ok (dv, d') => ∀ v G' H', StpL ad G H G' H' → Rep C.K G' v dv → G' ad = none → Top C.K G' H' ad d' → Q v H'
  | _ => False
def mDefM (n k : Nat) (b : MS) : FM := fun ss => if ss.length = k ∧ once ss = true then (match b (start0 n ss) with
  | .rm (.val d) c => .ok (d, c)
  | _ => .stuck) else .stuck
theorem PairedM.get {K : PySem.W.Frag} {a : Addr} {G H : Hp} : ∀ {ss : List Slot} {vs : List V} {i : Nat} {s : Slot}, Paired (ArgRM K a G H) ss vs → ss[i]? = some s → ∃ v, vs[i]? = some v ∧ ArgRM K a G H s v
  | _, _, _, _, .nil, e => by simp at e
  | _, _, 0, _, .cons r _, e => by simp at e; subst e; exact ⟨_, rfl, r⟩
  | _, _, i + 1, _, .cons _ t, e => by
    obtain ⟨u, h1, h2⟩ := PairedM.get (i := i) t (by simpa using e)
    exact ⟨u, by simpa using h1, h2⟩
def butAt (H : Hp) (a : Addr) : Hp := fun x => if x = a then none else H x
theorem butAt_ne {H : Hp} {a b : Addr} (h : b ≠ a) : butAt H a b = H b := if_neg h
theorem butAt_same {H : Hp} {a : Addr} : butAt H a a = none := if_pos rfl
theorem start_okM {C : Cn} {ad : Addr} (hL : C.L = some ad) {G H : Hp} {N : List Str} {ss : List Slot} {vs : List V} (gh : Same G H) (h1 : once ss = true) (r : Paired (ArgRM C.K ad G H) ss vs) : StR C (butAt H ad) G G H (L2.start N vs) (start0 N.length ss) := by
  have hl : ss.length = vs.length := Paired.length r
  have own : ∀ (i : Nat) (s : Slot), (start0 N.length ss)[i]? = some (some s) → ss[i]? = some s := fun i s e => by
    unfold start0 at e
    by_cases hi : i < ss.length
    · rw [List.getElem?_append_left (by simpa using hi), List.getElem?_map] at e
      cases q : ss[i]? with
      | none => rw [q] at e; cases e
      | some u => rw [q] at e; cases e; rfl
    · rw [List.getElem?_append_right (by simpa using hi)] at e
      have := List.mem_of_getElem? e
      rw [List.mem_replicate] at this
      cases this.2
  obtain ⟨i0, d0, e0⟩ := once_ex h1
  obtain ⟨v0, _, z0⟩ := PairedM.get r e0
  have z0' : v0 = .ref ad ∧ G ad = none ∧ Top C.K G H ad d0 := z0
  refine ⟨fun b u q => ?_, Same.refl _, gh, fun _ e _ => e, ?_, fun a e => ?_, fun i j d e e1 e2 => once_at h1 (own i _ e1) (own j _ e2), fun i s e => ?_, fun i j d e c _ e1 _ _ => ?_⟩
  · by_cases hb : b = ad
    · rw [hb, butAt_same] at q; cases q
    · rw [butAt_ne hb] at q; exact q
  · unfold L2.start start0
    simp [hl]
  · rw [hL] at e
    cases e
    exact ⟨butAt_same, z0'.2.2.ne⟩
  · obtain ⟨v, q, z⟩ := PairedM.get r (own i s e)
    refine ⟨v, ?_, ?_⟩
    · unfold L2.start
      have hi : i < vs.length := (List.getElem?_eq_some_iff.mp q).1
      rw [List.getElem?_append_left (by simpa using hi), List.getElem?_map, q]
      rfl
    · cases s with
      | val d => exact z
      | own d => exact z.elim
      | bor d => exact z.elim
      | lent d => obtain ⟨e1, n, t⟩ := z; exact ⟨ad, e1, n, hL, t⟩
      | exn x => exact z.elim
  · obtain ⟨v, q, z⟩ := PairedM.get r (own i _ e1)
    exact z.elim
section
variable {P : Program} {w : World} {K : PySem.W.Frag} {mg : Str → Option Value} {base : Heap} {ec : EC → Addr}
/-- THE RULE for a def that changes what it is lent -/
theorem fn_m {x qual : Str} {st : Stmt} {f : Addr} {fd : FuncData} {N ps : List Str} {k : Nat} {b : MS} (F0 : Fun K x qual st f fd) (S : FnScope N ps (defScope st))
    (hbody : ∀ (L : Addr) (cdv : Value) (A : Around) (outer : List Env) (s : Shared) (H : Hp) (E : XK), Room k (A.deeper (PyProof.Rows.envOfC qual (defScope st) s.heap.objs.size f cdv)) →
      DSs (cxOf (L2.CX P w) P w K mg base N qual (defScope st) f cdv A outer s H E) ⟨ec, fun _ _ => False, some L⟩ (fun cls d _ H' => E cls d H') (defBody st) b) :
    FnOk P w K mg base (L2.CX P w) (k + 1) f fd ps (spM ⟨K, ec, fun _ _ => False, none⟩ (mDefM N.length ps.length b)) := by
  refine F0.okX S (fun vs H Q E h => ?_) (fun cdv A outer s H vs Q E hr h => ?_)
  · obtain ⟨G, ad, ss, gh, r, q⟩ := h
    have hl : ss.length = vs.length := Paired.length r
    unfold mDefM at q
    by_cases z : ss.length = ps.length ∧ once ss = true
    · rw [← hl]; exact z.1
    · rw [if_neg z] at q; exact q.elim
  · obtain ⟨G, ad, ss, gh, r, q⟩ := h
    obtain ⟨t, p, snd⟩ := hbody ad cdv A outer s H E hr
    refine ⟨t, p, ?_⟩
    unfold mDefM at q
    by_cases z : ss.length = ps.length ∧ once ss = true
    · rw [if_pos z] at q
      refine snd (butAt H ad) G G H _ (start0 N.length ss) _ (start_okM rfl gh z.2 r) ?_
      generalize b (start0 N.length ss) = o at q
      cases o with
      | nx δ' => exact q.elim
      | bk δ' => exact q.elim
      | ct δ' => exact q.elim
      | rt sl => exact q.elim
      | rm sl c =>
        cases sl with
        | val dv =>
          have q' : ∀ v G' H', StpL ad G H G' H' → Rep K G' v dv → G' ad = none → Top K G' H' ad c → Q v H' := q
          refine ⟨ad, rfl, fun v G' H' dv' es T rr n t => ?_⟩
          cases es
          refine q' v G' H' ⟨T.g, fun b o hb e => T.h b o (by rw [butAt_ne hb]; exact e), T.gh, fun b e hn => ?_⟩ rr n t
          by_cases hb : b = ad
          · rw [hb]; exact n
          · exact T.fr b e (by rw [butAt_ne hb]; exact hn)
        | own _ => exact q.elim
        | bor _ => exact q.elim
        | lent _ => exact q.elim
        | exn _ => exact q.elim
      | ex x δ' => exact q.elim
      | stuck => exact q.elim
    · rw [if_neg z] at q; exact q.elim
/-- the def x keeps the promise f about what it is lent -/
def FdM (P : Program) (w : World) (K : PySem.W.Frag) (mg : Str → Option Value) (base : Heap) (ec : EC → Addr) (x : Str) (ps : List Str) (k : Nat) (f : FM) : Prop :=
  ∃ fa fd, FnOk P w K mg base (L2.CX P w) k fa fd ps (spM ⟨K, ec, fun _ _ => False, none⟩ f) ∧ mg x = some (.ref fa) ∧ PySem.W.keepIn K (.ref fa) = true ∧ Binds K fd ps []
theorem fdM_of {x : Str} {st : Stmt} {N ps : List Str} {k : Nat} {b : MS} (S : FnScope N ps (defScope st)) (L : Ln K mg x st ps)
    (hbody : ∀ {f : Addr} (Lt : Addr) (cdv : Value) (A : Around) (outer : List Env) (s : Shared) (H : Hp) (E : XK), Room k (A.deeper (PyProof.Rows.envOfC x (defScope st) s.heap.objs.size f cdv)) →
      DSs (cxOf (L2.CX P w) P w K mg base N x (defScope st) f cdv A outer s H E) ⟨ec, fun _ _ => False, some Lt⟩ (fun cls d _ H' => E cls d H') (defBody st) b) :
    FdM P w K mg base ec x ps (k + 1) (mDefM N.length ps.length b) := by
  obtain ⟨fa, fd, F0, hm, hb⟩ := L
  exact ⟨fa, fd, fn_m F0 S (fun Lt cdv A outer s H E hr => hbody Lt cdv A outer s H E hr), hm, F0.kp, hb⟩
/-- nothing promised: the bottom of a def that calls itself -/
theorem fdM_bot {x : Str} {st : Stmt} {N ps : List Str} {k : Nat} (S : FnScope N ps (defScope st)) (L : Ln K mg x st ps) : FdM P w K mg base ec x ps (k + 1) (fun _ => .stuck) := by
  obtain ⟨fa, fd, F0, hm, hb⟩ := L
  exact ⟨fa, fd, F0.okX (N := N) S (fun vs H Q E h => by obtain ⟨_, _, _, _, _, q⟩ := h; exact q.elim) (fun cdv A outer s H vs Q E hr h => by obtain ⟨_, _, _, _, _, q⟩ := h; exact q.elim), hm, F0.kp, hb⟩
theorem fd_bot {x : Str} {st : Stmt} {N ps : List Str} {k : Nat} (S : FnScope N ps (defScope st)) (L : Ln K mg x st ps) : Fd P w K mg base ec x ps (k + 1) (fun _ => .stuck) := by
  obtain ⟨fa, fd, F0, hm, hb⟩ := L
  exact ⟨fa, fd, F0.okX (N := N) S (fun vs H Q E h => by obtain ⟨_, _, _, _, q⟩ := h; exact q.elim) (fun cdv A outer s H vs Q E hr h => by obtain ⟨_, _, _, _, q⟩ := h; exact q.elim), hm, F0.kp, hb⟩
end
/-! ### 5. the rules -/
section
variable {X : Cx} {a : Ax} {W : WX} {e o : Expr} {es : List Expr} {pos : Pos}
def DAM (X : Cx) (a : Ax) (W : WX) (i : Nat) (es : List Expr) (m : DEnv → Res (List Slot)) : Prop :=
  ∃ t, PA X es t ∧ ∀ B G0 G H σ δ, StR (cn X a) B G0 G H σ δ → ∀ ad, σ[i]? = some (some (.ref ad)) → ∀ Q, ROk (cn X a) W σ G H (fun G' H' ss vs => Paired (ArgRM X.K ad G' H') ss vs) (m δ) Q → t σ H Q
theorem ArgRM.mono {K : PySem.W.Frag} {ad : Addr} {G H G' H' : Hp} (st : Stp G H G' H') : ∀ {ss : List Slot} {vs : List V}, Paired (ArgRM K ad G H) ss vs → Paired (ArgRM K ad G' H') ss vs
  | _, _, .nil => .nil
  | s :: _, _, .cons r t => .cons (by
      cases s with
      | val d => exact Rep.mono st.g r
      | own d => exact r.elim
      | bor d => exact r.elim
      | lent d => obtain ⟨e, n, t⟩ := r; exact ⟨e, st.fr _ n t.ne, t.mono st.g st.h⟩
      | exn x => exact r.elim) (ArgRM.mono st t)
def amVal (m : MD) (n : DEnv → Res (List Slot)) : DEnv → Res (List Slot) := fun δ => (m δ).bind fun d => (n δ).bind fun ss => .ok (.val d :: ss)
def amLent (i : Nat) (n : DEnv → Res (List Slot)) : DEnv → Res (List Slot) := fun δ => match δ[i]? with
  | some (some (.own d)) => (n δ).bind fun ss => .ok (.lent d :: ss)
  | some (some (.lent d)) => (n δ).bind fun ss => .ok (.lent d :: ss)
  | _ => .stuck
theorem dam_nil {i : Nat} : DAM X a W i [] mANil := ⟨_, pa_nil, fun B G0 G H σ δ S ad _ Q hq => hq [] G H (Stp.refl S.gh) .nil⟩
theorem dam_val {i : Nat} {m : MD} {n : DEnv → Res (List Slot)} (h : DV X a W e m) (k : DAM X a W i es n) (hs : starEach (e :: es) X.env = (false, eval e X.env) :: starEach es X.env := by rfl) : DAM X a W i (e :: es) (amVal m n) := by
  obtain ⟨t, p, s⟩ := h
  obtain ⟨u, q, z⟩ := k
  refine ⟨_, pa_cons p q hs, fun B G0 G H σ δ S ad ha Q hq => ?_⟩
  refine s B G0 G H σ δ S _ ?_
  have hq' : ROk (cn X a) W σ G H (fun G' H' ss vs => Paired (ArgRM X.K ad G' H') ss vs) ((m δ).bind fun d => (n δ).bind fun ss => .ok (.val d :: ss)) Q := hq
  generalize m δ = r at hq'
  cases r with
  | stuck => exact hq'.elim
  | exc x => exact hq'
  | ok d =>
    intro v G1 H1 st1 r1
    refine z B G0 G1 H1 σ δ (S.step st1) ad ha _ ?_
    have hq2 : ROk (cn X a) W σ G H (fun G' H' ss vs => Paired (ArgRM X.K ad G' H') ss vs) ((n δ).bind fun ss => .ok (.val d :: ss)) Q := hq'
    generalize n δ = rn at hq2
    cases rn with
    | stuck => exact hq2.elim
    | exc x => exact fun cls d G3 H3 s3 r => hq2 cls d G3 H3 (st1.trans s3) r
    | ok ss => exact fun vs G3 H3 st3 r3 => hq2 (v :: vs) G3 H3 (st1.trans st3) (.cons (Rep.mono st3.g r1) r3)
theorem dam_lent {i : Nat} {x : Str} {p : Pos} {n : DEnv → Res (List Slot)} (k : DAM X a W i es n) (hN : X.N[i]? = some x := by rfl) (hv : Vis X.env.scope x := by first | exact Or.inl rfl | exact Or.inr (Or.inl rfl) | exact Or.inr (Or.inr rfl)) (hd : (x == ("__debug__" : Str)) = false := by decide)
    (hcd : (x == ("__classdict__" : Str)) = false := by decide) (hs : starEach (.Name x p :: es) X.env = (false, eval (.Name x p) X.env) :: starEach es X.env := by rfl) : DAM X a W i (.Name x p :: es) (amLent i n) := by
  obtain ⟨u, q, z⟩ := k
  refine ⟨_, pa_cons (pe_var (i := i) hN hv hd hcd) q hs, fun B G0 G H σ δ S ad ha Q hq => ?_⟩
  have go : ∀ d, (∃ v, σ[i]? = some (some v) ∧ ∃ b, v = .ref b ∧ G b = none ∧ Top X.K G H b d) → ROk (cn X a) W σ G H (fun G' H' ss vs => Paired (ArgRM X.K ad G' H') ss vs) ((n δ).bind fun ss => .ok (.lent d :: ss)) Q → ∃ v, σ[i]? = some (some v) ∧ u σ H fun vs H1 => Q (v :: vs) H1 := by
    intro d ⟨v, ev, b, eb, nb, tb⟩ hq2
    rw [ha] at ev; cases ev; cases eb
    refine ⟨_, ha, z B G0 G H σ δ S ad ha _ ?_⟩
    generalize n δ = rn at hq2
    cases rn with
    | stuck => exact hq2.elim
    | exc x => exact hq2
    | ok ss => exact fun vs G3 H3 st3 r3 => hq2 (_ :: vs) G3 H3 st3 (.cons ⟨rfl, st3.fr _ nb tb.ne, tb.mono st3.g st3.h⟩ r3)
  unfold amLent at hq
  split at hq
  · rename_i d ei
    obtain ⟨v, ev, b, eb, nb, _, tb⟩ := S.sl i _ ei
    exact go d ⟨v, ev, b, eb, nb, tb⟩ hq
  · rename_i d ei
    obtain ⟨v, ev, b, eb, nb, _, tb⟩ := S.sl i _ ei
    exact go d ⟨v, ev, b, eb, nb, tb⟩ hq
  · exact hq.elim
def emCall (i : Nat) (f : FM) (m : DEnv → Res (List Slot)) : MM := fun δ => (m δ).bind fun ss => (f ss).bind fun r => match δ[i]? with
  | some (some (.own _)) => .ok (r.1, δ.set i (some (.own r.2)))
  | some (some (.lent _)) => .ok (r.1, δ.set i (some (.lent r.2)))
  | _ => .stuck
theorem em_call {x : Str} {f : FM} {k i : Nat} {ps : List Str} {p : Pos} {m : DEnv → Res (List Slot)} (F0 : FdM X.prog X.w X.K X.mg X.base a.ec x ps k f) (hr : Room k X.A) (hg : Gl X x) (tk : Takes X W) (h : DAM X a W i (e :: es) m)
    (hdb : (x == ("__debug__" : Str)) = false := by decide) (he : starEach (e :: es) X.env = (false, eval e X.env) :: starEach es X.env := by rfl) (hpl : (backTo pos (starEach es X.env)).any (·.1) = false := by rfl) : EDE X a W (.Call (.Name x p) (e :: es) [] pos) (emCall i f m) := by
  obtain ⟨fa, fd, F1, hm, hk, hb⟩ := F0
  obtain ⟨t, pa, s⟩ := h
  refine ⟨_, pe_callS F1 hr hg hm hk hb (fun σ => passAt tk σ) pa hdb he hpl, fun B G0 G H σ δ S Q hq => ?_, fun δ d δ' e => ?_⟩
  · unfold emCall at hq
    cases rm : m δ with
    | stuck => rw [rm] at hq; exact hq.elim
    | exc x => rw [rm] at hq; exact hq.elim
    | ok ss =>
      rw [rm] at hq
      cases rf : f ss with
      | stuck => rw [bind_ok, rf] at hq; exact hq.elim
      | exc x => rw [bind_ok, rf] at hq; exact hq.elim
      | ok r =>
        obtain ⟨dv, d'⟩ := r
        rw [bind_ok, rf, bind_ok] at hq
        split at hq
        · rename_i d0 ei
          obtain ⟨v0, ev, ad, ea, nad, nb, tb⟩ := S.sl i _ ei
          subst ea
          have hq2 : ∀ v G' H', StR (cn X a) B G0 G' H' σ (δ.set i (some (.own d'))) → Same G G' → Rep X.K G' v dv → Q v H' := hq
          refine s B G0 G H σ δ S ad ev _ ?_
          rw [rm]
          intro vs G1 H1 st1 r1
          refine ⟨G1, ad, ss, st1.gh, r1, ?_⟩
          rw [rf]
          intro v G2 H2 sL rv na tt
          exact hq2 v G2 H2 ((S.step st1).stepOwn ei ev sL na tt) (st1.g.trans sL.g) rv
        · rename_i d0 ei
          obtain ⟨v0, ev, ad, ea, nad, nb, tb⟩ := S.sl i _ ei
          subst ea
          have hq2 : ∀ v G' H', StR (cn X a) B G0 G' H' σ (δ.set i (some (.lent d'))) → Same G G' → Rep X.K G' v dv → Q v H' := hq
          refine s B G0 G H σ δ S ad ev _ ?_
          rw [rm]
          intro vs G1 H1 st1 r1
          refine ⟨G1, ad, ss, st1.gh, r1, ?_⟩
          rw [rf]
          intro v G2 H2 sL rv na tt
          exact hq2 v G2 H2 ((S.step st1).stepLent ei ev sL na tt) (st1.g.trans sL.g) rv
        · exact hq.elim
  · unfold emCall at e
    cases rm : m δ with
    | stuck => rw [rm] at e; cases e
    | exc x => rw [rm] at e; cases e
    | ok ss =>
      rw [rm] at e
      cases rf : f ss with
      | stuck => rw [bind_ok, rf] at e; cases e
      | exc x => rw [bind_ok, rf] at e; cases e
      | ok r =>
        rw [bind_ok, rf, bind_ok] at e
        split at e
        · rename_i d0 ei; cases e; exact chg_own ei
        · rename_i d0 ei; cases e; exact chg_lent ei
        · cases e
/-- a comprehension whose things change what is lent -/
theorem em_comp {elt tg iter : Expr} {ifs : List Expr} {scope : Scope} {own : List (Str × Nat)} {g : MG} {it : ML} {m : MM} {us : List Nat} (hc : X.calm = true) (hN : X.N.Nodup) (hi : DI X a W tg iter it) (ok : BlkOk X.N X.env.scope scope own) (hu : ∀ j ∈ us, j ∈ own.map (·.2)) (ho : MGOff g us)
    (hg : ∀ (s : Shared) (H : Hp) (C : Addr) (cl : List (Str × Addr)) (fp : List Addr), DG (X.blk s H scope (compEnvC scope cl C X.env) fp) a tg g us) (ht : ∀ (s : Shared) (H : Hp) (C : Addr) (cl : List (Str × Addr)) (fp : List Addr), ∃ t, PTs (X.blk s H scope (compEnvC scope cl C X.env) fp) ifs t ∧ Snd (cn X a) W0 relB t mYes)
    (he : ∀ (s : Shared) (H : Hp) (C : Addr) (cl : List (Str × Addr)) (fp : List Addr), EDE (X.blk s H scope (compEnvC scope cl C X.env) fp) a W0 elt m) (hs : ∀ x, foldedSetIterable iter X.env x = pure x := by intro _; rfl) :
    EDE X a W (.ListComp elt [⟨tg, iter, ifs, 0⟩] scope pos) (emComp (own.map (·.2)) g it m) := by
  obtain ⟨wi, pi, si⟩ := hi
  have hm : ∀ δ d δ', m δ = .ok (d, δ') → Chg δ δ' := by
    obtain ⟨t, p, s, c⟩ := he ({} : Shared) (fun _ => none) 0 [] []
    exact c
  let tg' : TG := fun v σ H Q => ∀ s H₀ C cl fp, Classical.choose (hg s H₀ C cl fp) v σ H Q
  let tt' : TT := fun σ H Q => ∀ s H₀ C cl fp, Classical.choose (ht s H₀ C cl fp) σ H Q
  let te' : TE := fun σ H Q => ∀ s H₀ C cl fp, Classical.choose (he s H₀ C cl fp) σ H Q
  refine ⟨_, pe_lc (g := tg') (tt := tt') (te := te') hc hN pi ok (fun s H C cl fp => ⟨fun pins s1 σ H1 v u Q I r q => (Classical.choose_spec (hg s H C cl fp)).1.run pins s1 σ H1 v u Q I r (q s H C cl fp)⟩)
    (fun s H C cl fp => ⟨fun pins s1 σ H1 Q I q => (Classical.choose_spec (ht s H C cl fp)).1.run pins s1 σ H1 Q I (q s H C cl fp)⟩) (fun s H C cl fp => ⟨fun pins s1 σ H1 Q I q => (Classical.choose_spec (he s H C cl fp)).1.run pins s1 σ H1 Q I (q s H C cl fp)⟩) hs, ?_⟩
  exact snd_compM (C := cn X a) (us := us) si (fun B G0 G H σ δ v d δ' Q S r e k s H₀ C cl fp => (Classical.choose_spec (hg s H₀ C cl fp)).2 B G0 G H σ δ v d δ' Q S r e k) ho hu
    (fun B G0 G H σ δ S Q q s H₀ C cl fp => (Classical.choose_spec (ht s H₀ C cl fp)).2 B G0 G H σ δ S Q q) ⟨fun B G0 G H σ δ S Q q s H₀ C cl fp => (Classical.choose_spec (he s H₀ C cl fp)).2.1 B G0 G H σ δ S Q q, hm⟩
/-- statements -/
def mAsgM (i : Nat) (m : MM) : MS := fun δ => match m δ with
  | .ok r => .nx (r.2.set i (some (.val r.1)))
  | _ => .stuck
theorem ds_asgM {i : Nat} {x : Str} {m : MM} {pos' : Pos} (hN : X.N.Nodup) (hi : X.N[i]? = some x) (hx : Loc X.env.scope x) (h : EDE X a W e m) (hs : swapsWith e (some (.Name x pos')) pos.line X.env = pure false := by rfl)
    (hf : X.fn x = true ∨ X.env.scope.names.lookup x = some .local := by first | exact .inl rfl | exact .inr rfl | assumption) : DS X a W (.Assign [.Name x pos'] e pos) (mAsgM i m) := by
  obtain ⟨t, p, s, c⟩ := h
  refine ⟨_, ps_set hN hi hx p hs hf, fun B G0 G H σ δ D S q => ?_⟩
  refine s B G0 G H σ δ S _ ?_
  have q' : OOk (cn X a) W B G0 D (mAsgM i m δ) := q
  unfold mAsgM at q'
  cases r : m δ with
  | stuck => rw [r] at q'; exact q'.elim
  | exc x => rw [r] at q'; exact q'.elim
  | ok r1 =>
    rw [r] at q'
    exact fun v G' H' S' g' rv => q' _ G' H' (S'.setVal rv)
def mRetM (l : Nat) (m : MM) : MS := fun δ => match m δ with
  | .ok r => match r.2[l]? with
    | some (some (.lent c)) => .rm (.val r.1) c
    | _ => .stuck
  | _ => .stuck
theorem ds_retM (l : Nat) {m : MM} (h : EDE X a W e m) : DS X a W (.Return (some e) pos) (mRetM l m) := by
  obtain ⟨t, p, s, c⟩ := h
  refine ⟨_, ps_ret p, fun B G0 G H σ δ D S q => ?_⟩
  refine s B G0 G H σ δ S _ ?_
  have q' : OOk (cn X a) W B G0 D (mRetM l m δ) := q
  unfold mRetM at q'
  cases r : m δ with
  | stuck => rw [r] at q'; exact q'.elim
  | exc x => rw [r] at q'; exact q'.elim
  | ok r1 =>
    rw [r] at q'
    simp only at q'
    split at q'
    · rename_i cc el
      obtain ⟨b, eL, q2⟩ := q'
      intro v G' H' S' g' rv
      obtain ⟨u, eu, b', eb, n, nl, tt⟩ := S'.sl l _ el
      rw [eL] at nl
      cases nl
      exact q2 v G' H' r1.1 rfl S'.end rv n tt
    · exact q'.elim
theorem off_name {i : Nat} : MGOff (mgN i) [i] := fun d δ δ' e => by
  cases e
  refine ⟨by simp, fun j hj => ?_⟩
  rw [List.mem_singleton] at hj
  rw [List.getElem?_set_ne (Ne.symm hj)]
/-- a new list of no name is lent: nothing of it is seen later -/
def mCallTmp (f : FM) (m : ME) (n : ML) : ME := fun δ => (m δ).bind fun s => match s with
  | .own d => (n δ).bind fun ds => match f (.lent d :: ds.map Slot.val) with | .ok r => .ok (.val r.1) | _ => .stuck
  | _ => .stuck
theorem pairedM_vals {K : PySem.W.Frag} {ad : Addr} {G H : Hp} : ∀ {vs : List V} {ds : List PyData}, RepL K G vs ds → Paired (ArgRM K ad G H) (ds.map Slot.val) vs
  | _, _, .nil => .nil
  | _, _, .cons r rs => .cons r (pairedM_vals rs)
theorem de_callTmp {x : Str} {f : FM} {k : Nat} {ps : List Str} {p : Pos} {m : ME} {n : ML} (F0 : FdM X.prog X.w X.K X.mg X.base a.ec x ps k f) (hr : Room k X.A) (hg : Gl X x) (tk : Takes X W) (h : DE X a W e m) (kk : DA X a W es n) (hs : starEach (e :: es) X.env = (false, eval e X.env) :: starEach es X.env := by rfl)
    (hdb : (x == ("__debug__" : Str)) = false := by decide) (hpl : (backTo pos (starEach es X.env)).any (·.1) = false := by rfl) : DE X a W (.Call (.Name x p) (e :: es) [] pos) (mCallTmp f m n) := by
  obtain ⟨fa, fd, F1, hm, hk, hb⟩ := F0
  obtain ⟨t, pt, s⟩ := h
  obtain ⟨u, pu, z⟩ := kk
  refine ⟨_, pe_callS F1 hr hg hm hk hb (fun σ => passAt tk σ) (pa_cons pt pu hs) hdb hs hpl, fun B G0 G H σ δ S Q hq => ?_⟩
  refine s B G0 G H σ δ S _ ?_
  have hq' : ROk (cn X a) W σ G H (relE X.K H) ((m δ).bind fun s => match s with
    | .own d => (n δ).bind fun ds => match f (.lent d :: ds.map Slot.val) with | .ok r => .ok (.val r.1) | _ => .stuck
    | _ => .stuck) Q := hq
  generalize m δ = r at hq'
  cases r with
  | stuck => exact hq'.elim
  | exc x => exact hq'
  | ok sl =>
    cases sl with
    | val d => exact hq'.elim
    | bor d => exact hq'.elim
    | lent d => exact hq'.elim
    | exn d => exact hq'.elim
    | own d =>
      intro v G1 H1 st1 ⟨ad, ev, na, n0, tp⟩
      subst ev
      refine z B G0 G1 H1 σ δ (S.step st1) _ ?_
      have hq2 : ROk (cn X a) W σ G H (relE X.K H) ((n δ).bind fun ds => match f (.lent d :: ds.map Slot.val) with | .ok r => .ok (.val r.1) | _ => .stuck) Q := hq'
      generalize n δ = rn at hq2
      cases rn with
      | stuck => exact hq2.elim
      | exc x => exact fun cls d G3 H3 s3 r => hq2 cls d G3 H3 (st1.trans s3) r
      | ok ds =>
        intro vs G2 H2 st2 rv
        have st := st1.trans st2
        have na2 : G2 ad = none := st2.fr ad na tp.ne
        refine ⟨G2, ad, .lent d :: ds.map Slot.val, st2.gh, .cons ⟨rfl, na2, tp.mono st2.g st2.h⟩ (pairedM_vals rv), ?_⟩
        have hq3 : ROk (cn X a) W σ G H (relE X.K H) (match f (.lent d :: ds.map Slot.val) with | .ok r => .ok (.val r.1) | _ => .stuck) Q := hq2
        cases rf : f (.lent d :: ds.map Slot.val) with
        | stuck => rw [rf] at hq3; exact hq3.elim
        | exc x => rw [rf] at hq3; exact hq3.elim
        | ok r =>
          obtain ⟨dv, d'⟩ := r
          rw [rf] at hq3
          intro v G3 H3 sL rr n3 tt
          refine hq3 v G3 H3 ⟨st.g.trans sL.g, fun b o e => sL.h b o (fun w => by rw [w, n0] at e; cases e) (st.h b o e), sL.gh, fun b e hb' => ?_⟩ rr
          exact sL.fr b (st.fr b e hb') (Same.ne st.h hb')
end
end DL
namespace Pg
open PySem L2 DL
noncomputable def b_is_whole : MS := (mRet (mAndV (mIsi "int" (mR (mVar 0))) (mNotV (mIsi "bool" (mR (mVar 0))))))
noncomputable def d_is_whole : F := mDef 1 1 b_is_whole
noncomputable def b_divisor : MS := (mSeq (mAsg 0 (mBi absF (mCons (mR (mVar 0)) mNil))) (mSeq (mAsg 1 (mBi absF (mCons (mR (mVar 1)) mNil))) (mSeq (mWhile (mTest (mB gtF (mR (mVar 1)) (mR (mC (.int 0))))) (mSeq (mAsg 2 (mB modF (mR (mVar 0)) (mR (mVar 1)))) (mSeq (mAsg 0 (mVar 1)) (mAsg 1 (mVar 2))))) (mRetN 0))))
noncomputable def d_divisor : F := mDef 3 2 b_divisor
noncomputable def b_is_ratio : MS := (mSeq (mIf (mOr (mNot (mTest (mIsi "tuple" (mR (mVar 0))))) (mTest (mB neF (mR (mBi lenF (mCons (mR (mVar 0)) mNil))) (mR (mC (.int 2)))))) (mRet (mC (.bool false))) mNext) (mSeq (mIf (mOr (mNot (mTest (mCall Pg.d_is_whole (mACons (mB ixF (mR (mVar 0)) (mR (mC (.int 0)))) mANil)))) (mOr (mNot (mTest (mCall Pg.d_is_whole (mACons (mB ixF (mR (mVar 0)) (mR (mC (.int 1)))) mANil)))) (mTest (mB ltF (mR (mB ixF (mR (mVar 0)) (mR (mC (.int 1))))) (mR (mC (.int 1))))))) (mRet (mC (.bool false))) mNext) (mRet (mB eqF (mR (mCall Pg.d_divisor (mACons (mB ixF (mR (mVar 0)) (mR (mC (.int 0)))) (mACons (mB ixF (mR (mVar 0)) (mR (mC (.int 1)))) mANil)))) (mR (mC (.int 1)))))))
noncomputable def d_is_ratio : F := mDef 1 1 b_is_ratio
noncomputable def b_ratio : MS := (mSeq (mIf (mTest (mB eqF (mR (mVar 1)) (mR (mC (.int 0))))) (mRaise ⟨.NoNumber, []⟩) mNext) (mSeq (mAsg 2 (mCall Pg.d_divisor (mACons (mVar 0) (mACons (mVar 1) mANil)))) (mSeq (mIf (mTest (mB ltF (mR (mVar 1)) (mR (mC (.int 0))))) (mAsg 2 (mB subF (mR (mC (.int 0))) (mR (mVar 2)))) mNext) (mRet (mTup (mCons (mV (mB divF (mR (mVar 0)) (mR (mVar 2)))) (mCons (mV (mB divF (mR (mVar 1)) (mR (mVar 2)))) mNil)))))))
noncomputable def d_ratio : F := mDef 3 2 b_ratio
noncomputable def b_plus : MS := (mRet (mCall Pg.d_ratio (mACons (mB addF (mR (mB mulF (mR (mB ixF (mR (mVar 0)) (mR (mC (.int 0))))) (mR (mB ixF (mR (mVar 1)) (mR (mC (.int 1))))))) (mR (mB mulF (mR (mB ixF (mR (mVar 1)) (mR (mC (.int 0))))) (mR (mB ixF (mR (mVar 0)) (mR (mC (.int 1)))))))) (mACons (mB mulF (mR (mB ixF (mR (mVar 0)) (mR (mC (.int 1))))) (mR (mB ixF (mR (mVar 1)) (mR (mC (.int 1)))))) mANil))))
noncomputable def d_plus : F := mDef 2 2 b_plus
noncomputable def b_minus : MS := (mRet (mCall Pg.d_ratio (mACons (mB subF (mR (mB mulF (mR (mB ixF (mR (mVar 0)) (mR (mC (.int 0))))) (mR (mB ixF (mR (mVar 1)) (mR (mC (.int 1))))))) (mR (mB mulF (mR (mB ixF (mR (mVar 1)) (mR (mC (.int 0))))) (mR (mB ixF (mR (mVar 0)) (mR (mC (.int 1)))))))) (mACons (mB mulF (mR (mB ixF (mR (mVar 0)) (mR (mC (.int 1))))) (mR (mB ixF (mR (mVar 1)) (mR (mC (.int 1)))))) mANil))))
noncomputable def d_minus : F := mDef 2 2 b_minus
noncomputable def b_times : MS := (mRet (mCall Pg.d_ratio (mACons (mB mulF (mR (mB ixF (mR (mVar 0)) (mR (mC (.int 0))))) (mR (mB ixF (mR (mVar 1)) (mR (mC (.int 0)))))) (mACons (mB mulF (mR (mB ixF (mR (mVar 0)) (mR (mC (.int 1))))) (mR (mB ixF (mR (mVar 1)) (mR (mC (.int 1)))))) mANil))))
noncomputable def d_times : F := mDef 2 2 b_times
noncomputable def b_over : MS := (mRet (mCall Pg.d_ratio (mACons (mB mulF (mR (mB ixF (mR (mVar 0)) (mR (mC (.int 0))))) (mR (mB ixF (mR (mVar 1)) (mR (mC (.int 1)))))) (mACons (mB mulF (mR (mB ixF (mR (mVar 0)) (mR (mC (.int 1))))) (mR (mB ixF (mR (mVar 1)) (mR (mC (.int 0)))))) mANil))))
noncomputable def d_over : F := mDef 2 2 b_over
noncomputable def b_under : MS := (mRet (mB ltF (mR (mB mulF (mR (mB ixF (mR (mVar 0)) (mR (mC (.int 0))))) (mR (mB ixF (mR (mVar 1)) (mR (mC (.int 1))))))) (mR (mB mulF (mR (mB ixF (mR (mVar 1)) (mR (mC (.int 0))))) (mR (mB ixF (mR (mVar 0)) (mR (mC (.int 1)))))))))
noncomputable def d_under : F := mDef 2 2 b_under
noncomputable def b_total : MS := (mSeq (mAsg 1 (mTup (mCons (mV (mC (.int 0))) (mCons (mV (mC (.int 1))) mNil)))) (mSeq (mFor (mgN 2) (miV 0) (mFrz 1 (mAsg 1 (mCall Pg.d_plus (mACons (mVar 1) (mACons (mVar 2) mANil)))))) (mRetN 1)))
noncomputable def d_total : F := mDef 3 1 b_total
noncomputable def b_show_ratio : MS := (mSeq (mIf (mTest (mB eqF (mR (mB ixF (mR (mVar 0)) (mR (mC (.int 1))))) (mR (mC (.int 1))))) (mRet (mBi strF (mCons (mR (mB ixF (mR (mVar 0)) (mR (mC (.int 0))))) mNil))) mNext) (mRet (mB addF (mR (mB addF (mR (mBi strF (mCons (mR (mB ixF (mR (mVar 0)) (mR (mC (.int 0))))) mNil))) (mR (mC (.str "/"))))) (mR (mBi strF (mCons (mR (mB ixF (mR (mVar 0)) (mR (mC (.int 1))))) mNil))))))
noncomputable def d_show_ratio : F := mDef 1 1 b_show_ratio
noncomputable def b_number_of : MS := (mSeq (mIf (mNot (mTest (mChain leF leF (mR (mC (.int 1))) (mR (mBi lenF (mCons (mR (mVar 0)) mNil))) (mR (mC (.int 30)))))) (mRaise ⟨.NoText, []⟩) mNext) (mSeq (mFor (mgN 1) (miV 0) (mIf (mTest (mB (inF true) (mR (mVar 1)) (mR (mC (.str "0123456789"))))) (mRaise ⟨.NoText, []⟩) mNext)) (mRet (mBi intSF (mCons (mR (mVar 0)) mNil)))))
noncomputable def d_number_of : F := mDef 2 1 b_number_of
noncomputable def b_read_ratio : MS := (mSeq (mIf (mNot (mTest (mIsi "str" (mR (mVar 0))))) (mRaise ⟨.NoText, []⟩) mNext) (mSeq (mAsg 1 (mVar 0)) (mSeq (mIf (mTest (mM1 startsF (mR (mVar 0)) (mR (mC (.str "-"))))) (mAsg 1 (mSl (mR (mVar 0)) (mO (mR (mC (.int 1)))) mO0)) mNext) (mSeq (mAsg 2 (mM1 splitF (mR (mVar 1)) (mR (mC (.str "/"))))) (mSeq (mFrz 2 (mAsg 3 (mComp [5] (mgN 5) (miV 2) mYes (mV (mCall Pg.d_number_of (mACons (mVar 5) mANil)))))) (mSeq (mAsg 4 (mTup (mCons (mV (mB ixF (mR (mVar 3)) (mR (mC (.int 0))))) (mCons (mV (mC (.int 1))) mNil)))) (mSeq (mIf (mTest (mB gtF (mR (mBi lenF (mCons (mR (mVar 3)) mNil))) (mR (mC (.int 1))))) (mAsg 4 (mTup (mCons (mV (mB ixF (mR (mVar 3)) (mR (mC (.int 0))))) (mCons (mV (mB ixF (mR (mVar 3)) (mR (mC (.int 1))))) mNil)))) mNext) (mSeq (mIf (mTest (mB neF (mR (mVar 1)) (mR (mVar 0)))) (mAsg 4 (mTup (mCons (mV (mB subF (mR (mC (.int 0))) (mR (mB ixF (mR (mVar 4)) (mR (mC (.int 0))))))) (mCons (mV (mB ixF (mR (mVar 4)) (mR (mC (.int 1))))) mNil)))) mNext) (mSeq (mIf (mOr (mNot (mTest (mCall Pg.d_is_ratio (mACons (mVar 4) mANil)))) (mTest (mB neF (mR (mCall Pg.d_show_ratio (mACons (mVar 4) mANil))) (mR (mVar 0))))) (mRaise ⟨.NoText, []⟩) mNext) (mRetN 4))))))))))
noncomputable def d_read_ratio : F := mDef 6 1 b_read_ratio
noncomputable def b_words_of : MS := (mRet (mBi tupleF (mCons (mR (mComp [1, 2] (mgT 2 (mgCons (mgN 1) (mgCons (mgN 2) mgNil))) (miQ (mV (mB ixF (mR (mVar 0)) (mR (mC (.int 3)))))) mYes (mV (mVar 1)))) mNil)))
noncomputable def d_words_of : F := mDef 3 1 b_words_of
noncomputable def b_behind : MS := (mSeq (mAsg 3 (mTup (mCons (mV (mB ixF (mR (mVar 1)) (mR (mC (.int 2))))) (mCons (mV (mVar 2)) mNil)))) (mSeq (mIf (mTest (mB eqF (mR (mB ixF (mR (mVar 1)) (mR (mC (.int 1))))) (mR (mC (.int 1))))) (mRet (mTup (mCons (mV (mB addF (mR (mB ixF (mR (mVar 0)) (mR (mC (.int 0))))) (mR (mTup (mCons (mV (mVar 3)) mNil))))) (mCons (mV (mB ixF (mR (mVar 0)) (mR (mC (.int 1))))) mNil)))) mNext) (mRet (mTup (mCons (mV (mB ixF (mR (mVar 0)) (mR (mC (.int 0))))) (mCons (mV (mB addF (mR (mB ixF (mR (mVar 0)) (mR (mC (.int 1))))) (mR (mTup (mCons (mV (mVar 3)) mNil))))) mNil))))))
noncomputable def d_behind : F := mDef 4 3 b_behind
noncomputable def b_branches : MS := (mSeq (mIf (mTest (mB eqF (mR (mB ixF (mR (mVar 0)) (mR (mC (.int 0))))) (mR (mC (.str "end"))))) (mRet (mLst mNil)) mNext) (mSeq (mIf (mTest (mB eqF (mR (mB ixF (mR (mVar 0)) (mR (mC (.int 0))))) (mR (mC (.str "deal"))))) (mRet (mComp [2, 3] (mgT 2 (mgCons (mgN 2) (mgCons (mgN 3) mgNil))) (miQ (mV (mB ixF (mR (mVar 0)) (mR (mC (.int 2)))))) mYes (mV (mTup (mCons (mV (mVar 3)) (mCons (mV (mVar 1)) mNil)))))) mNext) (mRet (mComp [4, 3] (mgT 2 (mgCons (mgN 4) (mgCons (mgN 3) mgNil))) (miQ (mV (mB ixF (mR (mVar 0)) (mR (mC (.int 3)))))) mYes (mV (mTup (mCons (mV (mVar 3)) (mCons (mV (mCall Pg.d_behind (mACons (mVar 1) (mACons (mVar 0) (mACons (mVar 4) mANil))))) mNil))))))))
noncomputable def d_branches : F := mDef 5 2 b_branches
noncomputable def b_numbers_at : MS := (mSeq (mIf (mTest (mB eqF (mR (mB ixF (mR (mVar 0)) (mR (mC (.int 0))))) (mR (mC (.str "end"))))) (mRet (mLst (mCons (mV (mB ixF (mR (mVar 0)) (mR (mC (.int 1))))) mNil))) mNext) (mSeq (mIf (mTest (mB eqF (mR (mB ixF (mR (mVar 0)) (mR (mC (.int 0))))) (mR (mC (.str "deal"))))) (mRet (mComp [1, 2] (mgT 2 (mgCons (mgN 1) (mgCons (mgN 2) mgNil))) (miQ (mV (mB ixF (mR (mVar 0)) (mR (mC (.int 2)))))) mYes (mV (mVar 1)))) mNext) (mRet (mLst mNil))))
noncomputable def d_numbers_at : F := mDef 3 1 b_numbers_at
noncomputable def b_are_shares : MS := (mSeq (mIf (mOr (mNot (mTest (mIsi "tuple" (mR (mVar 0))))) (mTest (mB neF (mR (mBi lenF (mCons (mR (mVar 0)) mNil))) (mR (mVar 1))))) (mRet (mC (.bool false))) mNext) (mSeq (mFor (mgN 2) (miV 0) (mIf (mOr (mNot (mTest (mCall Pg.d_is_ratio (mACons (mVar 2) mANil)))) (mTest (mCall Pg.d_under (mACons (mVar 2) (mACons (mTup (mCons (mV (mC (.int 0))) (mCons (mV (mC (.int 1))) mNil))) mANil))))) (mRet (mC (.bool false))) mNext)) (mRet (mB eqF (mR (mCall Pg.d_total (mACons (mBi listF (mCons (mR (mVar 0)) mNil)) mANil))) (mR (mTup (mCons (mV (mC (.int 1))) (mCons (mV (mC (.int 1))) mNil))))))))
noncomputable def d_are_shares : F := mDef 3 2 b_are_shares
noncomputable def b_shares_at : MS := (mSeq (mIf (mTest (mB eqF (mR (mB ixF (mR (mVar 0)) (mR (mC (.int 0))))) (mR (mC (.str "deal"))))) (mRet (mComp [3, 4] (mgT 2 (mgCons (mgN 3) (mgCons (mgN 4) mgNil))) (miQ (mV (mB ixF (mR (mVar 0)) (mR (mC (.int 2)))))) mYes (mV (mVar 3)))) mNext) (mRet (mBi listF (mCons (mR (mB ixF (mR (mVar 2)) (mR (mB ixF (mR (mVar 0)) (mR (mC (.int 2))))))) mNil))))
noncomputable def d_shares_at : F := mDef 5 3 b_shares_at
noncomputable def b_first_best : MS := (mSeq (mAsg 2 (mC (.int 0))) (mSeq (mFor (mgN 3) (mRng2 (mCons (mV (mC (.int 1))) (mCons (mV (mBi lenF (mCons (mR (mVar 0)) mNil))) mNil))) (mIf (mOr (mAnd (mTest (mB eqF (mR (mVar 1)) (mR (mC (.int 2))))) (mTest (mCall Pg.d_under (mACons (mB ixF (mR (mVar 0)) (mR (mVar 2))) (mACons (mB ixF (mR (mVar 0)) (mR (mVar 3))) mANil))))) (mAnd (mTest (mB eqF (mR (mVar 1)) (mR (mC (.int 1))))) (mTest (mCall Pg.d_under (mACons (mB ixF (mR (mVar 0)) (mR (mVar 3))) (mACons (mB ixF (mR (mVar 0)) (mR (mVar 2))) mANil)))))) (mAsg 2 (mVar 3)) mNext)) (mRetN 2)))
noncomputable def d_first_best : F := mDef 4 2 b_first_best
noncomputable def b_shared_bottom : MS := (mSeq (mAsg 1 (mC (.int 1))) (mSeq (mFor (mgT 2 (mgCons (mgN 2) (mgCons (mgN 3) mgNil))) (miV 0) (mAsg 1 (mB mulF (mR (mVar 1)) (mR (mB ixF (mR (mCall Pg.d_ratio (mACons (mVar 3) (mACons (mVar 1) mANil)))) (mR (mC (.int 0)))))))) (mRetN 1)))
noncomputable def d_shared_bottom : F := mDef 4 1 b_shared_bottom
noncomputable def b_as_wholes : MS := (mRet (mComp [2, 3] (mgT 2 (mgCons (mgN 2) (mgCons (mgN 3) mgNil))) (miV 0) mYes (mV (mB mulF (mR (mVar 2)) (mR (mB divF (mR (mVar 1)) (mR (mVar 3))))))))
noncomputable def d_as_wholes : F := mDef 4 2 b_as_wholes
noncomputable def b_last_of : MS := (mSeq (mIf (mTest (mB eqF (mR (mVar 0)) (mR (mTup mNil)))) (mRet (mC .none)) mNext) (mRet (mB ixF (mR (mVar 0)) (mR (mU negF (mR (mC (.int 1))))))))
noncomputable def d_last_of : F := mDef 1 1 b_last_of
noncomputable def b_is_name : MS := (mSeq (mIf (mOr (mNot (mTest (mIsi "str" (mR (mVar 0))))) (mNot (mTest (mChain leF leF (mR (mC (.int 1))) (mR (mBi lenF (mCons (mR (mVar 0)) mNil))) (mR (mC (.int 8))))))) (mRet (mC (.bool false))) mNext) (mSeq (mFor (mgN 1) (miV 0) (mIf (mTest (mB (inF true) (mR (mVar 1)) (mR (mC (.str "abcdefghijklmnopqrstuvwxyz0123456789"))))) (mRet (mC (.bool false))) mNext)) (mRet (mC (.bool true)))))
noncomputable def d_is_name : F := mDef 2 1 b_is_name
noncomputable def b_are_pairs : MS := (mSeq (mIf (mOr (mNot (mTest (mIsi "tuple" (mR (mVar 0))))) (mNot (mTest (mChain leF leF (mR (mC (.int 1))) (mR (mBi lenF (mCons (mR (mVar 0)) mNil))) (mR (mVar 1)))))) (mRet (mC (.bool false))) mNext) (mSeq (mFor (mgN 2) (miV 0) (mIf (mOr (mNot (mTest (mIsi "tuple" (mR (mVar 2))))) (mTest (mB neF (mR (mBi lenF (mCons (mR (mVar 2)) mNil))) (mR (mC (.int 2)))))) (mRet (mC (.bool false))) mNext)) (mRet (mC (.bool true)))))
noncomputable def d_are_pairs : F := mDef 3 2 b_are_pairs
noncomputable def b_parts_of : MS := (mSeq (mIf (mTest (mB eqF (mR (mB ixF (mR (mVar 0)) (mR (mC (.int 0))))) (mR (mC (.str "end"))))) (mRet (mLst mNil)) mNext) (mRet (mComp [1, 2] (mgT 2 (mgCons (mgN 1) (mgCons (mgN 2) mgNil))) (miQ (mV (mB ixF (mR (mVar 0)) (mR (mU negF (mR (mC (.int 1)))))))) mYes (mV (mVar 2)))))
noncomputable def d_parts_of : F := mDef 3 1 b_parts_of
noncomputable def b_at_way : MS := (mSeq (mFor (mgN 2) (miV 1) (mSeq (mAsg 3 (mCall Pg.d_parts_of (mACons (mVar 0) mANil))) (mSeq (mIf (mNot (mTest (mChain leF ltF (mR (mC (.int 0))) (mR (mVar 2)) (mR (mBi lenF (mCons (mR (mVar 3)) mNil)))))) (mRaise ⟨.NoPlace, []⟩) mNext) (mAsg 0 (mB ixF (mR (mVar 3)) (mR (mVar 2))))))) (mRetN 0))
noncomputable def d_at_way : F := mDef 4 2 b_at_way
noncomputable def b_turned (rc : F) : MS := (mSeq (mIf (mTest (mB eqF (mR (mB ixF (mR (mVar 0)) (mR (mC (.int 0))))) (mR (mC (.str "end"))))) (mRet (mTup (mCons (mV (mC (.str "end"))) (mCons (mV (mTup (mCons (mV (mB subF (mR (mC (.int 0))) (mR (mB ixF (mR (mB ixF (mR (mVar 0)) (mR (mC (.int 1))))) (mR (mC (.int 0))))))) (mCons (mV (mB ixF (mR (mB ixF (mR (mVar 0)) (mR (mC (.int 1))))) (mR (mC (.int 1))))) mNil)))) mNil)))) mNext) (mSeq (mAsg 1 (mBi tupleF (mCons (mR (mComp [2, 3] (mgT 2 (mgCons (mgN 2) (mgCons (mgN 3) mgNil))) (miQ (mV (mB ixF (mR (mVar 0)) (mR (mU negF (mR (mC (.int 1)))))))) mYes (mV (mTup (mCons (mV (mVar 2)) (mCons (mV (mCall rc (mACons (mVar 3) mANil))) mNil)))))) mNil))) (mSeq (mIf (mTest (mB eqF (mR (mB ixF (mR (mVar 0)) (mR (mC (.int 0))))) (mR (mC (.str "deal"))))) (mRet (mTup (mCons (mV (mC (.str "deal"))) (mCons (mV (mB ixF (mR (mVar 0)) (mR (mC (.int 1))))) (mCons (mV (mVar 1)) mNil))))) mNext) (mRet (mTup (mCons (mV (mC (.str "move"))) (mCons (mV (mB subF (mR (mC (.int 3))) (mR (mB ixF (mR (mVar 0)) (mR (mC (.int 1))))))) (mCons (mV (mB ixF (mR (mVar 0)) (mR (mC (.int 2))))) (mCons (mV (mVar 1)) mNil)))))))))
noncomputable def d_turned : Nat → F
  | 0 => fun _ => .stuck
  | n + 1 => mDef 4 1 (b_turned (d_turned n))
noncomputable def b_ask_word : MS := (mSeq (mFor (mgT 4 (mgCons (mgN 4) (mgCons (mgN 5) (mgCons (mgN 6) (mgCons (mgN 7) mgNil))))) (miV 0) (mIf (mAnd (mTest (mB eqF (mR (mVar 4)) (mR (mVar 1)))) (mAnd (mTest (mB eqF (mR (mVar 5)) (mR (mVar 2)))) (mTest (mB (inF false) (mR (mVar 3)) (mR (mVar 6)))))) mRet0 mNext)) (mRaise ⟨.NoWord, []⟩))
noncomputable def d_ask_word : F := mDef 8 4 b_ask_word
noncomputable def b_shown (rc : F) : MS := (mSeq (mIf (mTest (mB eqF (mR (mB ixF (mR (mVar 0)) (mR (mC (.int 0))))) (mR (mC (.str "end"))))) (mRet (mB addF (mR (mC (.str "end "))) (mR (mCall Pg.d_show_ratio (mACons (mB ixF (mR (mVar 0)) (mR (mC (.int 1)))) mANil))))) mNext) (mSeq (mIf (mTest (mB eqF (mR (mB ixF (mR (mVar 0)) (mR (mC (.int 0))))) (mR (mC (.str "deal"))))) (mSeq (mAsg 1 (mComp [2, 3] (mgT 2 (mgCons (mgN 2) (mgCons (mgN 3) mgNil))) (miQ (mV (mB ixF (mR (mVar 0)) (mR (mC (.int 2)))))) mYes (mV (mB addF (mR (mB addF (mR (mCall Pg.d_show_ratio (mACons (mVar 2) mANil))) (mR (mC (.str " "))))) (mR (mCall rc (mACons (mVar 3) mANil))))))) (mRet (mB addF (mR (mB addF (mR (mB addF (mR (mB addF (mR (mC (.str "deal "))) (mR (mB ixF (mR (mVar 0)) (mR (mC (.int 1))))))) (mR (mC (.str "("))))) (mR (mM1 joinF (mR (mC (.str ", "))) (mR (mVar 1)))))) (mR (mC (.str ")")))))) mNext) (mSeq (mAsg 1 (mComp [4, 3] (mgT 2 (mgCons (mgN 4) (mgCons (mgN 3) mgNil))) (miQ (mV (mB ixF (mR (mVar 0)) (mR (mC (.int 3)))))) mYes (mV (mB addF (mR (mB addF (mR (mVar 4)) (mR (mC (.str " "))))) (mR (mCall rc (mACons (mVar 3) mANil))))))) (mRet (mB addF (mR (mB addF (mR (mB addF (mR (mB addF (mR (mB addF (mR (mB addF (mR (mC (.str "move "))) (mR (mBi strF (mCons (mR (mB ixF (mR (mVar 0)) (mR (mC (.int 1))))) mNil))))) (mR (mC (.str " "))))) (mR (mB ixF (mR (mVar 0)) (mR (mC (.int 2))))))) (mR (mC (.str "("))))) (mR (mM1 joinF (mR (mC (.str ", "))) (mR (mVar 1)))))) (mR (mC (.str ")"))))))))
noncomputable def d_shown : Nat → F
  | 0 => fun _ => .stuck
  | n + 1 => mDef 5 1 (b_shown (d_shown n))
noncomputable def b_with_stakes (rc : F) : MS := (mSeq (mIf (mTest (mB eqF (mR (mB ixF (mR (mVar 0)) (mR (mC (.int 0))))) (mR (mC (.str "end"))))) (mRet (mTup (mCons (mV (mC (.str "end"))) (mCons (mV (mCall Pg.d_times (mACons (mB ixF (mR (mVar 0)) (mR (mC (.int 1)))) (mACons (mTup (mCons (mV (mVar 1)) (mCons (mV (mC (.int 1))) mNil))) mANil)))) mNil)))) mNext) (mRet (mB addF (mR (mSl (mR (mVar 0)) mO0 (mO (mR (mU negF (mR (mC (.int 1)))))))) (mR (mTup (mCons (mV (mBi tupleF (mCons (mR (mComp [2, 3] (mgT 2 (mgCons (mgN 2) (mgCons (mgN 3) mgNil))) (miQ (mV (mB ixF (mR (mVar 0)) (mR (mU negF (mR (mC (.int 1)))))))) mYes (mV (mTup (mCons (mV (mVar 2)) (mCons (mV (mCall rc (mACons (mVar 3) (mACons (mVar 1) mANil)))) mNil)))))) mNil))) mNil))))))
noncomputable def d_with_stakes : Nat → F
  | 0 => fun _ => .stuck
  | n + 1 => mDef 4 2 (b_with_stakes (d_with_stakes n))
noncomputable def b_without_word (rc : F) : MS := (mSeq (mIf (mTest (mB eqF (mR (mB ixF (mR (mVar 0)) (mR (mC (.int 0))))) (mR (mC (.str "end"))))) (mRetN 0) mNext) (mSeq (mAsg 4 (mComp [5, 6] (mgT 2 (mgCons (mgN 5) (mgCons (mgN 6) mgNil))) (miQ (mV (mB ixF (mR (mVar 0)) (mR (mU negF (mR (mC (.int 1)))))))) mYes (mV (mTup (mCons (mV (mVar 5)) (mCons (mV (mCall rc (mACons (mVar 6) (mACons (mVar 1) (mACons (mVar 2) (mACons (mVar 3) mANil)))))) mNil)))))) (mSeq (mIf (mAnd (mTest (mB eqF (mR (mB ixF (mR (mVar 0)) (mR (mC (.int 0))))) (mR (mC (.str "move"))))) (mAnd (mTest (mB eqF (mR (mB ixF (mR (mVar 0)) (mR (mC (.int 1))))) (mR (mVar 1)))) (mTest (mB eqF (mR (mB ixF (mR (mVar 0)) (mR (mC (.int 2))))) (mR (mVar 2)))))) (mFrz 4 (mAsg 4 (mComp [7] (mgN 7) (miV 4) (mTest (mB neF (mR (mB ixF (mR (mVar 7)) (mR (mC (.int 0))))) (mR (mVar 3)))) (mV (mVar 7))))) mNext) (mRet (mB addF (mR (mSl (mR (mVar 0)) mO0 (mO (mR (mU negF (mR (mC (.int 1)))))))) (mR (mTup (mCons (mV (mBi tupleF (mCons (mR (mVar 4)) mNil))) mNil))))))))
noncomputable def d_without_word : Nat → F
  | 0 => fun _ => .stuck
  | n + 1 => mDef 8 4 (b_without_word (d_without_word n))
noncomputable def b_side_of : MS := (mSeq (mIf (mTest (mB (inF true) (mR (mVar 0)) (mR (mTup (mCons (mV (mC (.str "1"))) (mCons (mV (mC (.str "2"))) mNil)))))) (mRaise ⟨.NoRow, []⟩) mNext) (mRet (mBi intSF (mCons (mR (mVar 0)) mNil))))
noncomputable def d_side_of : F := mDef 1 1 b_side_of
noncomputable def b_way_of : MS := (mSeq (mIf (mTest (mB eqF (mR (mVar 0)) (mR (mC (.str "-"))))) (mRet (mTup mNil)) mNext) (mSeq (mAsg 1 (mLst mNil)) (mSeq (mFor (mgN 2) (miQ (mV (mM1 splitF (mR (mVar 0)) (mR (mC (.str ".")))))) (mSeq (mIf (mOr (mNot (mTest (mChain leF leF (mR (mC (.int 1))) (mR (mBi lenF (mCons (mR (mVar 2)) mNil))) (mR (mC (.int 2)))))) (mTest (mB gtF (mR (mBi lenF (mCons (mR (mComp [3] (mgN 3) (miV 2) (mTest (mB (inF true) (mR (mVar 3)) (mR (mC (.str "0123456789"))))) (mV (mVar 3)))) mNil))) (mR (mC (.int 0)))))) (mRaise ⟨.NoRow, []⟩) mNext) (mSeq (mIf (mAnd (mTest (mB eqF (mR (mB ixF (mR (mVar 2)) (mR (mC (.int 0))))) (mR (mC (.str "0"))))) (mTest (mB gtF (mR (mBi lenF (mCons (mR (mVar 2)) mNil))) (mR (mC (.int 1)))))) (mRaise ⟨.NoRow, []⟩) mNext) (mApp 1 (mV (mBi intSF (mCons (mR (mVar 2)) mNil))))))) (mRet (mBi tupleF (mCons (mR (mVar 1)) mNil))))))
noncomputable def d_way_of : F := mDef 4 1 b_way_of
end Pg
/-! DR: ratios.py over Rat -/
namespace Pg
open PySem L2 DL
def qD (q : Rat) : PyData := .tuple [.int q.num, .int (q.den : Int)]
abbrev gcdC : MT := mTest (mB gtF (mR (mVar 1)) (mR (mC (.int 0))))
abbrev gcdB : MS := mSeq (mAsg 2 (mB modF (mR (mVar 0)) (mR (mVar 1)))) (mSeq (mAsg 0 (mVar 1)) (mAsg 1 (mVar 2)))
theorem gcd_loop : ∀ (y x : Nat) (r : Option Slot), ∃ r', mWhile gcdC gcdB [some (.val (.int (x : Int))), some (.val (.int (y : Int))), r] = .nx [some (.val (.int (Nat.gcd x y : Nat))), some (.val (.int 0)), r'] := by
  intro y
  induction y using Nat.strongRecOn with
  | _ y ih =>
    intro x r
    rw [mWhile_eq]
    by_cases h : y = 0
    · subst h
      exact ⟨r, by simp⟩
    · have hy : 0 < y := by omega
      obtain ⟨r', e⟩ := ih (x % y) (Nat.mod_lt x hy) y (some (.val (.int ((x % y : Nat) : Int))))
      refine ⟨r', ?_⟩
      have eg : Nat.gcd y (x % y) = Nat.gcd x y := by rw [Nat.gcd_comm y, ← Nat.gcd_rec, Nat.gcd_comm]
      rw [eg] at e
      simp only [Int.natCast_emod] at e
      simp [hy, wgo]
      exact e
theorem divisor_int (a b : Int) : d_divisor [.val (.int a), .val (.int b)] = .ok (.val (.int (Int.gcd a b : Nat))) := by
  have e : ∀ z : Int, (if z < 0 then -z else z) = ((z.natAbs : Nat) : Int) := fun z => by split <;> omega
  obtain ⟨r', h⟩ := gcd_loop b.natAbs a.natAbs none
  simp [d_divisor, mDef, b_divisor, start0, e]
  rw [h]
  simp [Int.gcd]
@[simp] theorem is_whole_int (i : Int) : d_is_whole [.val (.int i)] = .ok (.val (.bool true)) := by simp [d_is_whole, mDef, b_is_whole, start0]
@[simp] theorem is_whole_bool (b : Bool) : d_is_whole [.val (.bool b)] = .ok (.val (.bool false)) := by simp [d_is_whole, mDef, b_is_whole, start0]
@[simp] theorem is_whole_none : d_is_whole [.val .none] = .ok (.val (.bool false)) := by simp [d_is_whole, mDef, b_is_whole, start0]
@[simp] theorem is_whole_str (x : Str) : d_is_whole [.val (.str x)] = .ok (.val (.bool false)) := by simp [d_is_whole, mDef, b_is_whole, start0]
@[simp] theorem is_whole_list (x : List PyData) : d_is_whole [.val (.list x)] = .ok (.val (.bool false)) := by simp [d_is_whole, mDef, b_is_whole, start0]
@[simp] theorem is_whole_tup (x : List PyData) : d_is_whole [.val (.tuple x)] = .ok (.val (.bool false)) := by simp [d_is_whole, mDef, b_is_whole, start0]
@[simp] theorem is_whole_dict (x : List (PyData × PyData)) : d_is_whole [.val (.dict x)] = .ok (.val (.bool false)) := by simp [d_is_whole, mDef, b_is_whole, start0]
/-! is_ratio -/
@[simp] theorem is_ratio_none : d_is_ratio [.val .none] = .ok (.val (.bool false)) := by simp [d_is_ratio, mDef, b_is_ratio, start0]
@[simp] theorem is_ratio_bool (b : Bool) : d_is_ratio [.val (.bool b)] = .ok (.val (.bool false)) := by simp [d_is_ratio, mDef, b_is_ratio, start0]
@[simp] theorem is_ratio_int (b : Int) : d_is_ratio [.val (.int b)] = .ok (.val (.bool false)) := by simp [d_is_ratio, mDef, b_is_ratio, start0]
@[simp] theorem is_ratio_str (b : Str) : d_is_ratio [.val (.str b)] = .ok (.val (.bool false)) := by simp [d_is_ratio, mDef, b_is_ratio, start0]
@[simp] theorem is_ratio_list (b : List PyData) : d_is_ratio [.val (.list b)] = .ok (.val (.bool false)) := by simp [d_is_ratio, mDef, b_is_ratio, start0]
@[simp] theorem is_ratio_dict (b : List (PyData × PyData)) : d_is_ratio [.val (.dict b)] = .ok (.val (.bool false)) := by simp [d_is_ratio, mDef, b_is_ratio, start0]
theorem is_ratio_len {b : List PyData} (h : b.length ≠ 2) : d_is_ratio [.val (.tuple b)] = .ok (.val (.bool false)) := by
  have h' : ¬ ((b.length : Int) = 2) := by omega
  simp [d_is_ratio, mDef, b_is_ratio, start0, h']
theorem is_ratio_two (t b : Int) : d_is_ratio [.val (.tuple [.int t, .int b])] = .ok (.val (.bool (decide (1 ≤ b ∧ Int.gcd t b = 1)))) := by
  by_cases h : b < 1
  · have h' : ¬ (1 ≤ b) := by omega
    simp [d_is_ratio, mDef, b_is_ratio, start0, h, h']
  · have h' : 1 ≤ b := by omega
    simp [d_is_ratio, mDef, b_is_ratio, start0, h, h', divisor_int]
    rw [Bool.beq_eq_decide_eq]
    exact decide_eq_decide.mpr (by omega)
theorem is_ratio_no {x y : PyData} (h : d_is_whole [.val x] = .ok (.val (.bool false)) ∨ (d_is_whole [.val x] = .ok (.val (.bool true)) ∧ d_is_whole [.val y] = .ok (.val (.bool false)))) : d_is_ratio [.val (.tuple [x, y])] = .ok (.val (.bool false)) := by
  rcases h with h | ⟨h1, h2⟩
  · simp [d_is_ratio, mDef, b_is_ratio, start0, h]
  · simp [d_is_ratio, mDef, b_is_ratio, start0, h1, h2]
theorem q_pos (q : Rat) : (1 : Int) ≤ (q.den : Int) := by have := q.den_pos; omega
theorem q_gcd (q : Rat) : Int.gcd q.num (q.den : Int) = 1 := by have := q.reduced; simpa [Int.gcd, Nat.Coprime] using this
@[simp] theorem is_ratio_q (q : Rat) : d_is_ratio [.val (qD q)] = .ok (.val (.bool true)) := by
  unfold qD
  rw [is_ratio_two]
  simp [q_pos q, q_gcd q]
/-! ratio -/
theorem ratio_0 (t : Int) : d_ratio [.val (.int t), .val (.int 0)] = .exc ⟨.NoNumber, []⟩ := by simp [d_ratio, mDef, b_ratio, start0]
theorem gcd_fits {t b : Int} (hb : b ≠ 0) (hs : b.natAbs.log2 < 9000) : (Int.gcd t b).log2 < 9000 := by
  have h1 : Int.gcd t b ≤ b.natAbs := Nat.le_of_dvd (by omega) (Nat.gcd_dvd_right _ _)
  by_cases h0 : Int.gcd t b = 0
  · rw [h0]; decide
  · exact Nat.lt_of_le_of_lt ((Nat.le_log2 (by omega)).mpr (Nat.le_trans (Nat.log2_self_le h0) h1)) hs
theorem ratio_ok {t b : Int} (hb : b ≠ 0) (hs : b.natAbs.log2 < 9000) : d_ratio [.val (.int t), .val (.int b)] = .ok (.val (qD (Rat.divInt t b))) := by
  have hg : 0 < Int.gcd t b := Nat.gcd_pos_of_pos_right _ (by omega)
  have hf := gcd_fits (t := t) hb hs
  have hgb : ((Int.gcd t b : Nat) : Int) ∣ b := Int.gcd_dvd_right ..
  have hgt : ((Int.gcd t b : Nat) : Int) ∣ t := Int.gcd_dvd_left ..
  unfold qD
  rw [Rat.num_divInt, Rat.den_divInt, if_neg hb, Int.gcd_comm b t]
  generalize hgg : Int.gcd t b = g at *
  obtain ⟨u, hu⟩ := hgt
  obtain ⟨v, hv⟩ := hgb
  have hg0 : ((g : Nat) : Int) ≠ 0 := by omega
  by_cases h : b < 0
  · have h' : ¬ (0 < b) := by omega
    have hc : ∀ z : Int, divF (.int z) (.int (-(g : Int))) = .ok (.val (.int (z.fdiv (-(g : Int))))) := fun z => by
      have hc : CDivA z (-(g : Int)) := ⟨by omega, PyProof.noPylong_of_log2 (by rw [show (-(g : Int)).natAbs = g by omega]; exact hf)⟩
      show (if CDivA z (-(g : Int)) then okI (z.fdiv (-(g : Int))) else .stuck) = _
      rw [if_pos hc]
      rfl
    have e1 : t.fdiv (-(g : Int)) = b.sign * t / (g : Int) := by
      have es : b.sign = -1 := Int.sign_eq_neg_one_of_neg h
      rw [es, hu, show (-1 : Int) * ((g : Int) * u) = (g : Int) * (-u) by rw [Int.mul_neg, Int.neg_mul, Int.one_mul], Int.mul_ediv_cancel_left _ hg0, show (g : Int) * u = (-(g : Int)) * (-u) by rw [Int.neg_mul_neg]]
      exact Int.mul_fdiv_cancel_left _ (by omega)
    have e2 : b.fdiv (-(g : Int)) = ((b.natAbs / g : Nat) : Int) := by
      have hv0 : v < 0 := by
        rcases Int.lt_trichotomy v 0 with z | z | z
        · exact z
        · subst z; omega
        · have := Int.mul_pos (show (0 : Int) < (g : Int) by omega) z; omega
      have en : b.natAbs = g * v.natAbs := by rw [hv, Int.natAbs_mul]; simp
      rw [en, Nat.mul_div_cancel_left _ hg, hv, show (g : Int) * v = (-(g : Int)) * (-v) by rw [Int.neg_mul_neg], Int.mul_fdiv_cancel_left _ (by omega)]
      omega
    simp only [d_ratio, mDef, b_ratio, start0]
    simp [hb, h, divisor_int, hgg] 
    simp [hc, fits_of, e1, e2]
  · have h' : 0 < b := by omega
    have hc : ∀ z : Int, divF (.int z) (.int (g : Int)) = .ok (.val (.int (z / (g : Int)))) := fun z => divF_pos (by omega) (by simpa using hf)
    have e1 : t / (g : Int) = b.sign * t / (g : Int) := by rw [Int.sign_eq_one_of_pos h', Int.one_mul]
    have e2 : b / (g : Int) = ((b.natAbs / g : Nat) : Int) := by
      have en : ((b.natAbs : Nat) : Int) = b := by omega
      rw [Int.natCast_ediv, en]
    simp only [d_ratio, mDef, b_ratio, start0]
    simp [hb, h, divisor_int, hgg, hc]
    simp [fits_of, ← e1, e2]
theorem divInt_num_le {t b : Int} : (Rat.divInt t b).num.natAbs ≤ t.natAbs := by
  rw [Rat.num_divInt]
  have h1 : (b.sign * t).natAbs ≤ t.natAbs := by
    rw [Int.natAbs_mul]
    have : b.sign.natAbs ≤ 1 := by
      rcases Int.lt_trichotomy b 0 with h | h | h
      · rw [Int.sign_eq_neg_one_of_neg h]; decide
      · subst h; decide
      · rw [Int.sign_eq_one_of_pos h]; decide
    calc b.sign.natAbs * t.natAbs ≤ 1 * t.natAbs := Nat.mul_le_mul_right _ this
      _ = t.natAbs := Nat.one_mul _
  exact Nat.le_trans (Int.natAbs_ediv_le_natAbs _ _) h1
theorem divInt_den_le {t b : Int} (hb : b ≠ 0) : (Rat.divInt t b).den ≤ b.natAbs := by
  rw [Rat.den_divInt, if_neg hb]
  exact Nat.div_le_self _ _
theorem divInt_cross {t b : Int} (hb : b ≠ 0) : (Rat.divInt t b).num * b = t * ((Rat.divInt t b).den : Int) := by
  have h := Rat.num_divInt_den (Rat.divInt t b)
  exact (Rat.divInt_eq_divInt_iff (by have := (Rat.divInt t b).den_pos; omega) hb).mp h
end Pg
/-! DR2: plus, minus, times, over, under over Rat, with sizes -/
namespace Pg
open PySem L2 DL
/-- below 2 ^ n above and below -/
def Sz (n : Nat) (q : Rat) : Prop := q.num.natAbs < 2 ^ n ∧ q.den < 2 ^ n
theorem Sz.mono {m n : Nat} {q : Rat} (h : Sz m q) (hm : m ≤ n) : Sz n q :=
  ⟨Nat.lt_of_lt_of_le h.1 (Nat.pow_le_pow_right (by decide) hm), Nat.lt_of_lt_of_le h.2 (Nat.pow_le_pow_right (by decide) hm)⟩
theorem den0 (q : Rat) : (q.den : Int) ≠ 0 := by have := q.den_pos; omega
theorem mul_lt_pow {a b : Int} {m n : Nat} (ha : a.natAbs < 2 ^ m) (hb : b.natAbs < 2 ^ n) : (a * b).natAbs < 2 ^ (m + n) := L2.wide_lt ha hb
theorem add_lt_pow {a b : Int} {n : Nat} (ha : a.natAbs < 2 ^ n) (hb : b.natAbs < 2 ^ n) : (a + b).natAbs < 2 ^ (n + 1) := by rw [Nat.pow_succ]; omega
theorem sub_lt_pow {a b : Int} {n : Nat} (ha : a.natAbs < 2 ^ n) (hb : b.natAbs < 2 ^ n) : (a - b).natAbs < 2 ^ (n + 1) := by rw [Nat.pow_succ]; omega
theorem sz_divInt {t b : Int} {n : Nat} (hb : b ≠ 0) (h1 : t.natAbs < 2 ^ n) (h2 : b.natAbs < 2 ^ n) : Sz n (Rat.divInt t b) := ⟨Nat.lt_of_le_of_lt divInt_num_le h1, Nat.lt_of_le_of_lt (divInt_den_le hb) h2⟩
theorem add_divInt (p q : Rat) : p + q = Rat.divInt (p.num * q.den + q.num * p.den) (p.den * q.den) := by
  conv => lhs; rw [← Rat.num_divInt_den p, ← Rat.num_divInt_den q]
  exact Rat.divInt_add_divInt _ _ (den0 p) (den0 q)
theorem sub_divInt (p q : Rat) : p - q = Rat.divInt (p.num * q.den - q.num * p.den) (p.den * q.den) := by
  conv => lhs; rw [← Rat.num_divInt_den p, ← Rat.num_divInt_den q]
  exact Rat.divInt_sub_divInt _ _ (den0 p) (den0 q)
theorem mul_divInt (p q : Rat) : p * q = Rat.divInt (p.num * q.num) (p.den * q.den) := by
  conv => lhs; rw [← Rat.num_divInt_den p, ← Rat.num_divInt_den q]
  exact Rat.divInt_mul_divInt _ _
theorem div_divInt (p q : Rat) : p / q = Rat.divInt (p.num * q.den) (p.den * q.num) := by
  rw [Rat.div_def, Rat.inv_def]
  conv => lhs; rw [← Rat.num_divInt_den p]
  exact Rat.divInt_mul_divInt _ _
theorem den_mul_ne (p q : Rat) : (p.den : Int) * (q.den : Int) ≠ 0 := Int.mul_ne_zero (den0 p) (den0 q)
theorem sz_add {p q : Rat} {n : Nat} (hp : Sz n p) (hq : Sz n q) : Sz (2 * n + 1) (p + q) := by
  rw [add_divInt]
  have a := mul_lt_pow hp.1 (b := (q.den : Int)) (by simpa using hq.2)
  have b := mul_lt_pow hq.1 (b := (p.den : Int)) (by simpa using hp.2)
  have c := mul_lt_pow (a := (p.den : Int)) (b := (q.den : Int)) (by simpa using hp.2) (by simpa using hq.2)
  rw [show 2 * n + 1 = n + n + 1 by omega]
  exact sz_divInt (den_mul_ne p q) (add_lt_pow a b) (Nat.lt_of_lt_of_le c (Nat.pow_le_pow_right (by decide) (by omega)))
theorem sz_sub {p q : Rat} {n : Nat} (hp : Sz n p) (hq : Sz n q) : Sz (2 * n + 1) (p - q) := by
  rw [sub_divInt]
  have a := mul_lt_pow hp.1 (b := (q.den : Int)) (by simpa using hq.2)
  have b := mul_lt_pow hq.1 (b := (p.den : Int)) (by simpa using hp.2)
  have c := mul_lt_pow (a := (p.den : Int)) (b := (q.den : Int)) (by simpa using hp.2) (by simpa using hq.2)
  rw [show 2 * n + 1 = n + n + 1 by omega]
  exact sz_divInt (den_mul_ne p q) (sub_lt_pow a b) (Nat.lt_of_lt_of_le c (Nat.pow_le_pow_right (by decide) (by omega)))
theorem sz_mul {p q : Rat} {n : Nat} (hp : Sz n p) (hq : Sz n q) : Sz (2 * n) (p * q) := by
  rw [mul_divInt, show 2 * n = n + n by omega]
  exact sz_divInt (den_mul_ne p q) (mul_lt_pow hp.1 hq.1) (mul_lt_pow (a := (p.den : Int)) (b := (q.den : Int)) (by simpa using hp.2) (by simpa using hq.2))
theorem num_ne {q : Rat} (h : q ≠ 0) : q.num ≠ 0 := fun e => h (Rat.num_eq_zero.mp e)
theorem sz_div {p q : Rat} {n : Nat} (hp : Sz n p) (hq : Sz n q) (h0 : q ≠ 0) : Sz (2 * n) (p / q) := by
  rw [div_divInt, show 2 * n = n + n by omega]
  exact sz_divInt (Int.mul_ne_zero (den0 p) (num_ne h0)) (mul_lt_pow hp.1 (b := (q.den : Int)) (by simpa using hq.2)) (mul_lt_pow (a := (p.den : Int)) (by simpa using hp.2) hq.1)
theorem neg_num (q : Rat) : (-q).num = -q.num := rfl
theorem neg_den (q : Rat) : (-q).den = q.den := rfl
theorem sz_neg {q : Rat} {n : Nat} (hq : Sz n q) : Sz n (-q) := ⟨by rw [neg_num]; simpa using hq.1, hq.2⟩
/-- the product that the program takes -/
theorem mul_in {a b : Int} {n : Nat} (h0 : 0 < n) (h : n ≤ 60000000) (ha : a.natAbs < 2 ^ n) (hb : b.natAbs < 2 ^ n) : mulF (.int a) (.int b) = .ok (.val (.int (a * b))) := mulF_ok' (mulOk_pow h0 h0 ha hb (by omega))
theorem log_mul {a b : Int} {n : Nat} (h0 : 0 < n) (h : n ≤ 4499) (ha : a.natAbs < 2 ^ n) (hb : b.natAbs < 2 ^ n) : (a * b).natAbs.log2 < 9000 := Nat.lt_trans (log2_lt (k := n + n) (by omega) (mul_lt_pow ha hb)) (by omega)
theorem plus_q {p q : Rat} {n : Nat} (h0 : 0 < n) (h : n ≤ 4499) (hp : Sz n p) (hq : Sz n q) : d_plus [.val (qD p), .val (qD q)] = .ok (.val (qD (p + q))) := by
  have hn : n ≤ 60000000 := by omega
  have pd : (p.den : Int).natAbs < 2 ^ n := by simpa using hp.2
  have qd : (q.den : Int).natAbs < 2 ^ n := by simpa using hq.2
  rw [add_divInt]
  simp [d_plus, mDef, b_plus, start0, qD, mul_in h0 hn hp.1 qd, mul_in h0 hn hq.1 pd, mul_in h0 hn pd qd]
  rw [ratio_ok (den_mul_ne p q) (log_mul h0 h pd qd)]
  simp [qD]
theorem minus_q {p q : Rat} {n : Nat} (h0 : 0 < n) (h : n ≤ 4499) (hp : Sz n p) (hq : Sz n q) : d_minus [.val (qD p), .val (qD q)] = .ok (.val (qD (p - q))) := by
  have hn : n ≤ 60000000 := by omega
  have pd : (p.den : Int).natAbs < 2 ^ n := by simpa using hp.2
  have qd : (q.den : Int).natAbs < 2 ^ n := by simpa using hq.2
  rw [sub_divInt]
  simp [d_minus, mDef, b_minus, start0, qD, mul_in h0 hn hp.1 qd, mul_in h0 hn hq.1 pd, mul_in h0 hn pd qd]
  rw [ratio_ok (den_mul_ne p q) (log_mul h0 h pd qd)]
  simp [qD]
theorem times_q {p q : Rat} {n : Nat} (h0 : 0 < n) (h : n ≤ 4499) (hp : Sz n p) (hq : Sz n q) : d_times [.val (qD p), .val (qD q)] = .ok (.val (qD (p * q))) := by
  have hn : n ≤ 60000000 := by omega
  have pd : (p.den : Int).natAbs < 2 ^ n := by simpa using hp.2
  have qd : (q.den : Int).natAbs < 2 ^ n := by simpa using hq.2
  rw [mul_divInt]
  simp [d_times, mDef, b_times, start0, qD, mul_in h0 hn hp.1 hq.1, mul_in h0 hn pd qd]
  rw [ratio_ok (den_mul_ne p q) (log_mul h0 h pd qd)]
  simp [qD]
theorem over_q {p q : Rat} {n : Nat} (h0 : 0 < n) (h : n ≤ 4499) (hp : Sz n p) (hq : Sz n q) (hz : q ≠ 0) : d_over [.val (qD p), .val (qD q)] = .ok (.val (qD (p / q))) := by
  have hn : n ≤ 60000000 := by omega
  have pd : (p.den : Int).natAbs < 2 ^ n := by simpa using hp.2
  have qd : (q.den : Int).natAbs < 2 ^ n := by simpa using hq.2
  rw [div_divInt]
  simp [d_over, mDef, b_over, start0, qD, mul_in h0 hn hp.1 qd, mul_in h0 hn pd hq.1]
  rw [ratio_ok (Int.mul_ne_zero (den0 p) (num_ne hz)) (log_mul h0 h pd hq.1)]
  simp [qD]
theorem over_0 {p : Rat} {n : Nat} (h0 : 0 < n) (h : n ≤ 4499) (hp : Sz n p) : d_over [.val (qD p), .val (qD 0)] = .exc ⟨.NoNumber, []⟩ := by
  simp [d_over, mDef, b_over, start0, qD, ratio_0]
theorem under_q {p q : Rat} {n : Nat} (h0 : 0 < n) (h : n ≤ 60000000) (hp : Sz n p) (hq : Sz n q) : d_under [.val (qD p), .val (qD q)] = .ok (.val (.bool (decide (p < q)))) := by
  have pd : (p.den : Int).natAbs < 2 ^ n := by simpa using hp.2
  have qd : (q.den : Int).natAbs < 2 ^ n := by simpa using hq.2
  simp [d_under, mDef, b_under, start0, qD, mul_in h0 h hp.1 qd, mul_in h0 h hq.1 pd, Rat.lt_iff]
theorem qD_inj {p q : Rat} : qD p = qD q ↔ p = q := by
  constructor
  · intro h
    simp only [qD, PyData.tuple.injEq, List.cons.injEq, PyData.int.injEq, and_true, Int.ofNat_inj] at h
    exact Rat.ext h.1 h.2
  · intro h; rw [h]
end Pg
namespace Pg
open PySem L2 DL
theorem qD_low {t b : Int} (hb : 0 < b) : qD (Rat.divInt t b) = .tuple [.int (t / ((Int.gcd t b : Nat) : Int)), .int (b / ((Int.gcd t b : Nat) : Int))] := by
  unfold qD
  rw [Rat.num_divInt, Rat.den_divInt, if_neg (by omega), Int.gcd_comm b t, Int.sign_eq_one_of_pos hb, Int.one_mul, Int.natCast_ediv, show ((b.natAbs : Nat) : Int) = b by omega]
theorem divF_gcd {t b z : Int} (hb : 0 < b) (hs : b.natAbs.log2 < 9000) : divF (.int z) (.int ((Int.gcd t b : Nat) : Int)) = .ok (.val (.int (z / ((Int.gcd t b : Nat) : Int)))) :=
  divF_pos (by have : 0 < Int.gcd t b := Nat.gcd_pos_of_pos_right _ (by omega)
               omega) (by simpa using gcd_fits (t := t) (by omega) hs)
end Pg
namespace Pg
open PySem L2 DL
@[simp] theorem ixF_q0 {q : Rat} : ixF (qD q) (.int 0) = .ok (.val (.int q.num)) := by simp [qD]
@[simp] theorem ixF_q1 {q : Rat} : ixF (qD q) (.int 1) = .ok (.val (.int (q.den : Int))) := by simp [qD]
@[simp] theorem lenF_q {q : Rat} : lenF [qD q] = .ok (.val (.int 2)) := by simp [qD]
@[simp] theorem ty_q {q : Rat} : tyD (qD q) = "tuple" := rfl
@[simp] theorem eqv_qq {p q : Rat} : (qD p).eqv (qD q) = decide (p = q) := by
  have e : p = q ↔ p.num = q.num ∧ p.den = q.den := ⟨fun h => by rw [h]; exact ⟨rfl, rfl⟩, fun h => Rat.ext h.1 h.2⟩
  have e2 : decide ((p.den : Int) = (q.den : Int)) = decide (p.den = q.den) := decide_eq_decide.mpr (by omega)
  simp [qD, PyData.eqv, PyData.eqvAll, e, Bool.beq_eq_decide_eq, e2]
@[simp] theorem eqF_qq {p q : Rat} : eqF (qD p) (qD q) = .ok (.val (.bool (decide (p = q)))) := by
  have h : SeqAt.shaped (qD p) = true := by simp [qD, SeqAt.shaped, PyData.canLay0, PyData.canLayAll0, PyData.depth, PyData.depthAll]
  have h' : SeqAt.shaped (qD q) = true := by simp [qD, SeqAt.shaped, PyData.canLay0, PyData.canLayAll0, PyData.depth, PyData.depthAll]
  simp [eqF, h, h']
@[simp] theorem neF_qq {p q : Rat} : neF (qD p) (qD q) = .ok (.val (.bool (!decide (p = q)))) := by
  have h : SeqAt.shaped (qD p) = true := by simp [qD, SeqAt.shaped, PyData.canLay0, PyData.canLayAll0, PyData.depth, PyData.depthAll]
  have h' : SeqAt.shaped (qD q) = true := by simp [qD, SeqAt.shaped, PyData.canLay0, PyData.canLayAll0, PyData.depth, PyData.depthAll]
  simp [neF, h, h']
end Pg
namespace Pg
open PySem L2 DL
@[simp] theorem isF_q {q : Rat} {n : Bool} : isF n (qD q) .none = .ok (.val (.bool n)) := by cases n <;> rfl
@[simp] theorem isF_nn {n : Bool} : isF n .none .none = .ok (.val (.bool (!n))) := by cases n <;> rfl
theorem qD_neg {q : Rat} : qD (-q) = .tuple [.int (0 - q.num), .int (q.den : Int)] := by simp [qD, neg_num, neg_den]
end Pg
namespace Pg
open PySem L2 DL
theorem sz_add2 {p q : Rat} {m n : Nat} (hp : Sz m p) (hq : Sz n q) : Sz (m + n + 1) (p + q) := by
  rw [add_divInt]
  have a := mul_lt_pow hp.1 (b := (q.den : Int)) (n := n) (by simpa using hq.2)
  have b := mul_lt_pow hq.1 (b := (p.den : Int)) (n := m) (by simpa using hp.2)
  have c := mul_lt_pow (a := (p.den : Int)) (b := (q.den : Int)) (m := m) (n := n) (by simpa using hp.2) (by simpa using hq.2)
  rw [Nat.add_comm n m] at b
  exact sz_divInt (den_mul_ne p q) (add_lt_pow a b) (Nat.lt_of_lt_of_le c (Nat.pow_le_pow_right (by decide) (by omega)))
theorem mul_in2 {a b : Int} {m n : Nat} (h0 : 0 < m) (h1 : 0 < n) (h : m + n ≤ 60000000) (ha : a.natAbs < 2 ^ m) (hb : b.natAbs < 2 ^ n) : mulF (.int a) (.int b) = .ok (.val (.int (a * b))) := mulF_ok' (mulOk_pow h0 h1 ha hb (by omega))
theorem log_mul2 {a b : Int} {m n : Nat} (h0 : 0 < m) (h : m + n ≤ 8999) (ha : a.natAbs < 2 ^ m) (hb : b.natAbs < 2 ^ n) : (a * b).natAbs.log2 < 9000 := Nat.lt_trans (log2_lt (k := m + n) (by omega) (mul_lt_pow ha hb)) (by omega)
theorem plus_q2 {p q : Rat} {m n : Nat} (h0 : 0 < m) (h1 : 0 < n) (h : m + n ≤ 8999) (hp : Sz m p) (hq : Sz n q) : d_plus [.val (qD p), .val (qD q)] = .ok (.val (qD (p + q))) := by
  have hn : m + n ≤ 60000000 := by omega
  have hn' : n + m ≤ 60000000 := by omega
  have pd : (p.den : Int).natAbs < 2 ^ m := by simpa using hp.2
  have qd : (q.den : Int).natAbs < 2 ^ n := by simpa using hq.2
  rw [add_divInt]
  simp [d_plus, mDef, b_plus, start0, mul_in2 h0 h1 hn hp.1 qd, mul_in2 h1 h0 hn' hq.1 pd, mul_in2 h0 h1 hn pd qd]
  rw [ratio_ok (den_mul_ne p q) (log_mul2 h0 h pd qd)]
  simp
/-- the sum -/
def sumQ : List Rat → Rat
  | [] => 0
  | q :: qs => q + sumQ qs
theorem sumQ_append (a b : List Rat) : sumQ (a ++ b) = sumQ a + sumQ b := by
  induction a with
  | nil => simp [sumQ, Rat.zero_add]
  | cons q qs ih => simp only [List.cons_append, sumQ, ih]; grind
theorem sumQ_reverse (a : List Rat) : sumQ a.reverse = sumQ a := by
  induction a with
  | nil => rfl
  | cons q qs ih => simp only [List.reverse_cons, sumQ_append, ih, sumQ]; grind
theorem sz_sum {n : Nat} : ∀ {qs : List Rat}, (∀ q ∈ qs, Sz n q) → Sz (1 + qs.length * (n + 1)) (sumQ qs)
  | [], _ => by simp [sumQ, Sz]
  | q :: qs, h => by
    have a := sz_sum (n := n) (qs := qs) fun q hq => h q (List.mem_cons_of_mem _ hq)
    have b := sz_add2 (h q List.mem_cons_self) a
    refine b.mono ?_
    rw [List.length_cons, Nat.succ_mul]
    omega
theorem total_loop {n : Nat} (hn : 0 < n) (L : Option Slot) : ∀ {qs : List Rat} {m : Nat} {acc : Rat} (o : Option Slot), (∀ q ∈ qs, Sz n q) → 0 < m → m + qs.length * (n + 1) ≤ 8999 → Sz m acc →
    ∃ o', loopO (mgN 2) (mFrz 1 (mAsg 1 (mCall Pg.d_plus (mACons (mVar 1) (mACons (mVar 2) mANil))))) (qs.map qD) [L, some (.val (qD acc)), o] = .nx [L, some (.val (qD (acc + sumQ qs))), o']
  | [], m, acc, o, _, _, _, _ => ⟨o, by simp [sumQ, Rat.add_zero]⟩
  | q :: qs, m, acc, o, h, h0, h1, ha => by
    rw [List.length_cons, Nat.succ_mul] at h1
    have hq := h q List.mem_cons_self
    have e := plus_q2 h0 hn (by omega) ha hq
    obtain ⟨o', e'⟩ := total_loop hn L (qs := qs) (m := m + n + 1) (acc := acc + q) (some (.val (qD q))) (fun q hq => h q (List.mem_cons_of_mem _ hq)) (by omega) (by omega) (sz_add2 ha hq)
    refine ⟨o', ?_⟩
    have es : acc + sumQ (q :: qs) = acc + q + sumQ qs := by simp only [sumQ]; grind
    rw [es, ← e']
    simp [frz, e]
theorem qD_int (a : Int) : qD (a : Rat) = .tuple [.int a, .int 1] := rfl
/-- total, of a list that is kept or lent -/
theorem total_q {n : Nat} {qs : List Rat} {s : Slot} (hs : s = .val (.list (qs.map qD)) ∨ s = .bor (.list (qs.map qD)) ∨ s = .val (.tuple (qs.map qD))) (hn : 0 < n) (h : ∀ q ∈ qs, Sz n q) (hl : 1 + qs.length * (n + 1) ≤ 8999) : d_total [s] = .ok (.val (qD (sumQ qs))) := by
  obtain ⟨o', e⟩ := total_loop hn (some s) (m := 1) (acc := 0) none h (by decide) hl ⟨by decide, by decide⟩
  rw [Rat.zero_add] at e
  have e0 : PyData.tuple [.int 0, .int 1] = qD 0 := rfl
  rcases hs with rfl | rfl | rfl <;> simp [d_total, mDef, b_total, start0, fits_of, e0, e]
end Pg
namespace Pg
open PySem L2 DL
@[simp] theorem seqOf_q {q : Rat} : seqOf (qD q) = .ok [.int q.num, .int (q.den : Int)] := by simp [qD]
end Pg
namespace Pg
open PySem L2 DL
theorem can_qs : ∀ qs : List Rat, PyData.canLayAll0 (qs.map qD) = true
  | [] => by simp [PyData.canLayAll0]
  | q :: qs => by simp [PyData.canLayAll0, qD, PyData.canLay0, can_qs qs]
theorem depth_qs : ∀ qs : List Rat, PyData.depthAll (qs.map qD) ≤ 1
  | [] => by simp [PyData.depthAll]
  | q :: qs => by
    have := depth_qs qs
    simp [PyData.depthAll, qD, PyData.depth]
    omega
theorem shaped_qs (qs : List Rat) : SeqAt.shaped (.list (qs.map qD)) = true := by
  have := depth_qs qs
  have h : PyData.depthAll (qs.map qD) + 1 ≤ 64 := by omega
  simp [SeqAt.shaped, PyData.canLay0, can_qs qs, PyData.depth]
  omega
end Pg
set_option exponentiation.threshold 20000
/-! DR3: fractions as text -/
namespace Pg
open PySem L2 DL TL
/-- str(i) -/
def iS (i : Int) : Str := Str.ofString (toString i)
abbrev tn (n : Nat) : Str := iS (n : Int)
theorem tl_tn (n : Nat) : tl (tn n) = numL n := tl_num n
theorem strF_iS {i : Int} (h : i.natAbs.log2 < 1920) : strF [.int i] = .ok (.val (.str (iS i))) := strF_int h
theorem tl_neg (n : Nat) : tl (Str.ofString (toString (-((n + 1 : Nat) : Int)))) = 45 :: numL (n + 1) := by
  rw [show toString (-((n + 1 : Nat) : Int)) = "-" ++ toString ((n + 1 : Nat) : Int) from rfl, tl_ofString, String.toList_append, List.map_append, ← tl_ofString, ← tl_ofString, tl_num]
  rfl
theorem tl_int (i : Int) : tl (iS i) = (if i < 0 then [45] else []) ++ numL i.natAbs := by
  by_cases h : i < 0
  · obtain ⟨n, rfl⟩ : ∃ n : Nat, i = -((n + 1 : Nat) : Int) := ⟨i.natAbs - 1, by omega⟩
    unfold iS
    rw [tl_neg, if_pos h, show (-((n + 1 : Nat) : Int)).natAbs = n + 1 by omega]
    rfl
  · obtain ⟨n, rfl⟩ : ∃ n : Nat, i = (n : Int) := ⟨i.natAbs, by omega⟩
    unfold iS
    rw [tl_num, if_neg h]
    rfl
theorem len_int {i : Int} {k : Nat} (hk : 0 < k) (h : i.natAbs < 10 ^ k) : (iS i).length ≤ k + 1 := by
  rw [len_tl, tl_int, List.length_append]
  have := numL_len hk h
  split <;> simp <;> omega
theorem log_10 {n : Nat} (h : n < 10 ^ 500) : n.log2 < 1920 := Nat.lt_trans (log2_lt (k := 1700) (by decide) (Nat.lt_trans h (by decide))) (by decide)
/-- a fraction's text -/
def showQ (q : Rat) : Str := if q.den = 1 then iS q.num else iS q.num ++ "/" ++ iS (q.den : Int)
theorem show_q {q : Rat} (hn : q.num.natAbs < 10 ^ 500) (hd : q.den < 10 ^ 500) : d_show_ratio [.val (qD q)] = .ok (.val (.str (showQ q))) := by
  have l1 := len_int (by decide) hn
  have l2 := len_int (i := (q.den : Int)) (k := 500) (by decide) (by simpa using hd)
  have s1 := strF_iS (log_10 hn)
  have s2 := strF_iS (i := (q.den : Int)) (log_10 (by simpa using hd))
  have l3 : (iS q.num ++ ("/" : Str)).length ≤ 600 := by
    rw [len_tl, tl_append, List.length_append, ← len_tl]
    have : (tl ("/" : Str)).length = 1 := by decide
    omega
  have a1 := addF_str (x := iS q.num) (y := "/") (by
    have : ("/" : Str).length = 1 := by decide
    omega)
  have a2 := addF_str (x := iS q.num ++ ("/" : Str)) (y := iS (q.den : Int)) (by omega)
  unfold showQ
  by_cases h : q.den = 1
  · have h' : (q.den : Int) = 1 := by omega
    simp [d_show_ratio, mDef, b_show_ratio, start0, h', s1]
    simp [h]
  · have h' : ¬ (q.den : Int) = 1 := by omega
    simp [d_show_ratio, mDef, b_show_ratio, start0, h', s1, s2, a1, a2]
    simp [h]
/-! reading -/
theorem tl_cut1 (z : Str) : tl (cutS z (some 1) none) = (tl z).drop 1 := by
  have e : HT.sIx z.length 0 (some 1) = min 1 z.length := by
    unfold HT.sIx
    simp only
    rw [if_neg (by omega)]
    rfl
  unfold cutS
  rw [e, HT.sIx_none]
  show ((tl z).drop (min 1 z.length)).take (z.length - min 1 z.length) = _
  rw [len_tl]
  rcases Nat.le_total 1 (tl z).length with q | q
  · rw [Nat.min_eq_left q, ← List.length_drop, List.take_length]
  · rw [Nat.min_eq_right q, List.drop_length, List.drop_of_length_le q, List.take_nil]
theorem starts_iff {z y : Str} (hy : tl y ≠ []) : Txt.startswith z y = pre (tl y) (tl z) := by
  have h := at_iff (x := z) (y := y) hy 0
  rw [List.drop_zero] at h
  rw [Bool.eq_iff_iff, ← h]
  show (decide (0 + y.length ≤ z.length) && Builtin.Str.subAt z y 0) = true ↔ _
  rw [Bool.and_eq_true, decide_eq_true_iff]
  exact Iff.rfl
theorem tl_minus : tl ("-" : Str) = [45] := by decide
theorem tl_slash : tl ("/" : Str) = [47] := by decide
theorem split_none {z : Str} (h : 47 ∉ tl z) : Txt.split z "/" = [z] := by
  refine map_tl_inj ?_
  rw [split_spl _ _ (by rw [tl_slash]; simp) (kind_ok (by decide +kernel)), tl_slash, spl_last1 h]
  rfl
theorem split_two {a b : Str} (ha : 47 ∉ tl a) (hb : 47 ∉ tl b) : Txt.split (a ++ "/" ++ b) "/" = [a, b] := by
  refine map_tl_inj ?_
  rw [split_spl _ _ (by rw [tl_slash]; simp) (kind_ok (by decide +kernel)), tl_append, tl_append, tl_slash, List.append_assoc, spl_part1 ha, spl_last1 hb]
  rfl
theorem fig_in : ∀ c : Nat, 48 ≤ c → c ≤ 57 → strIn ⟨#[c]⟩ "0123456789" = true := by
  intro c h1 h2
  have : c = 48 ∨ c = 49 ∨ c = 50 ∨ c = 51 ∨ c = 52 ∨ c = 53 ∨ c = 54 ∨ c = 55 ∨ c = 56 ∨ c = 57 := by omega
  rcases this with h | h | h | h | h | h | h | h | h | h <;> subst h <;> decide +kernel
theorem number_of_num {n : Nat} (h : n < 10 ^ 30) : d_number_of [.val (.str (tn n))] = .ok (.val (.int (n : Int))) := by
  have hl : (tn n).length ≤ 30 := by rw [len_tl, tl_tn]; exact numL_len (by decide) h
  have hl0 : 1 ≤ (tn n).length := by
    rw [len_tl, tl_tn]
    exact List.length_pos_iff.mpr (numL_ne n)
  have e1 := lenF_str (z := tn n) (by omega)
  have e2 := intSF_str (z := tn n) (n := (n : Int)) (int_num (by have := numL_len (k := 30) (by decide) h; omega)) (by omega)
  have e3 : ∃ o, loopO (mgN 1) (mIf (mTest (mB (inF true) (mR (mVar 1)) (mR (mC (.str "0123456789"))))) (mRaise ⟨.NoText, []⟩) mNext) (signs (tn n)) [some (.val (.str (tn n))), none] = .nx [some (.val (.str (tn n))), o] := by
    have hz : ∀ c ∈ tl (tn n), 48 ≤ c ∧ c ≤ 57 := fun c hc => by rw [tl_tn] at hc; exact numL_digits n c hc
    unfold signs
    show ∃ o, loopO _ _ ((tl (tn n)).map _) _ = _
    generalize tn n = z at hz
    generalize hc : tl z = cs at hz
    clear hc
    have : ∀ (cs : List Nat) (o : Option DL.Slot), (∀ c ∈ cs, 48 ≤ c ∧ c ≤ 57) → ∃ o', loopO (mgN 1) (mIf (mTest (mB (inF true) (mR (mVar 1)) (mR (mC (.str "0123456789"))))) (mRaise ⟨.NoText, []⟩) mNext) (cs.map fun c => PyData.str ⟨#[c]⟩) [some (.val (.str z)), o] = .nx [some (.val (.str z)), o'] := by
      intro cs
      induction cs with
      | nil => intro o _; exact ⟨o, rfl⟩
      | cons c cs ih =>
        intro o hz
        have hc := hz c List.mem_cons_self
        obtain ⟨o', e⟩ := ih (some (.val (.str ⟨#[c]⟩))) (fun d hd => hz d (List.mem_cons_of_mem _ hd))
        exact ⟨o', by simp [inF_str, fig_in c hc.1 hc.2, e]⟩
    exact this cs none hz
  obtain ⟨o, e3⟩ := e3
  have a1 : (1 : Int) ≤ ((tn n).length : Int) := by omega
  have a2 : ((tn n).length : Int) ≤ 30 := by omega
  simp [d_number_of, mDef, b_number_of, start0, e1, a1, a2, e3, e2]
/-- a fraction's text without its sign -/
def bodyS (a b : Nat) : Str := if b = 1 then tn a else tn a ++ "/" ++ tn b
theorem show_pos {q : Rat} (h : ¬ q.num < 0) : showQ q = bodyS q.num.natAbs q.den := by
  have e : (q.num.natAbs : Int) = q.num := by omega
  unfold showQ bodyS tn
  rw [e]
theorem tl_show_neg {q : Rat} (h : q.num < 0) : tl (showQ q) = 45 :: tl (bodyS q.num.natAbs q.den) := by
  have e : tl (iS q.num) = 45 :: tl (tn q.num.natAbs) := by rw [tl_int, if_pos h, tl_tn]; rfl
  unfold showQ bodyS
  split
  · exact e
  · rw [tl_append, tl_append, e, tl_append, tl_append]; rfl
theorem body_split (a b : Nat) : Txt.split (bodyS a b) "/" = if b = 1 then [tn a] else [tn a, tn b] := by
  have f : ∀ n, 47 ∉ tl (tn n) := fun n => by rw [tl_tn]; exact numL_free (by decide)
  unfold bodyS
  split
  · exact split_none (f a)
  · exact split_two (f a) (f b)
theorem body_len {a b : Nat} (ha : a < 10 ^ 500) (hb : b < 10 ^ 500) : (bodyS a b).length ≤ 1200 := by
  have f : ∀ n, n < 10 ^ 500 → (tl (tn n)).length ≤ 500 := fun n h => by rw [tl_tn]; exact numL_len (by decide) h
  have h1 := f a ha
  have h2 := f b hb
  rw [len_tl]
  unfold bodyS
  split
  · omega
  · rw [tl_append, tl_append, tl_slash, List.length_append, List.length_append]
    simp only [List.length_cons, List.length_nil]
    omega
theorem body_no_minus (a b : Nat) : Txt.startswith (bodyS a b) "-" = false := by
  rw [starts_iff (by rw [tl_minus]; simp), tl_minus]
  obtain ⟨c, r, e⟩ : ∃ c r, tl (tn a) = c :: r := by
    cases h : tl (tn a) with
    | nil => rw [tl_tn] at h; exact absurd h (numL_ne a)
    | cons c r => exact ⟨c, r, rfl⟩
  have hc : c ≠ 45 := by
    have := numL_digits a c (by rw [← tl_tn, e]; exact List.mem_cons_self)
    omega
  have e2 : ∃ r, tl (bodyS a b) = c :: r := by
    unfold bodyS
    split
    · exact ⟨_, e⟩
    · rw [tl_append, tl_append, e]; exact ⟨_, rfl⟩
  obtain ⟨r2, e2⟩ := e2
  rw [e2]
  exact pre_of_head [] r2 hc
theorem digits_ok {x : Str} (h : ∀ c ∈ tl x, c < 128) : PyData.strOk x = true := by
  unfold PyData.strOk
  rw [Array.all_eq_true_iff_forall_mem]
  intro c hc
  exact decide_eq_true (by have := h c (Array.mem_toList_iff.mpr hc); omega)
theorem body_sign (a b : Nat) : ∀ c ∈ tl (bodyS a b), c < 128 := by
  have f : ∀ n, ∀ c ∈ tl (tn n), c < 128 := fun n c h => by rw [tl_tn] at h; have := numL_digits n c h; omega
  intro c hc
  unfold bodyS at hc
  split at hc
  · exact f a c hc
  · rw [tl_append, tl_append, tl_slash] at hc
    simp only [List.mem_append, List.mem_singleton] at hc
    rcases hc with (hc | hc) | hc
    · exact f a c hc
    · omega
    · exact f b c hc
theorem show_ok (q : Rat) : PyData.strOk (showQ q) = true := by
  refine digits_ok fun c hc => ?_
  by_cases h : q.num < 0
  · rw [tl_show_neg h] at hc
    rcases List.mem_cons.mp hc with hc | hc
    · omega
    · exact body_sign _ _ c hc
  · rw [show_pos h] at hc
    exact body_sign _ _ c hc
theorem read_q {q : Rat} (hn : q.num.natAbs < 10 ^ 30) (hd : q.den < 10 ^ 30) : d_read_ratio [.val (.str (showQ q))] = .ok (.val (qD q)) := by
  have hn5 : q.num.natAbs < 10 ^ 500 := Nat.lt_trans hn (by decide)
  have hd5 : q.den < 10 ^ 500 := Nat.lt_trans hd (by decide)
  have hB := body_len hn5 hd5
  have sq := show_q hn5 hd5
  have n1 := number_of_num hn
  have n2 := number_of_num hd
  have ez : (PyData.strOk (showQ q)) = true := show_ok q
  have eb : PyData.strOk (bodyS q.num.natAbs q.den) = true := digits_ok (body_sign _ _)
  have sp := body_split q.num.natAbs q.den
  have hs : splitF (.str (bodyS q.num.natAbs q.den)) (.str "/") = .ok (.own (.list ((Txt.split (bodyS q.num.natAbs q.den) "/").map PyData.str))) := splitF_str (by decide) (by omega)
  rw [sp] at hs
  have cutb : q.num < 0 → cutS (showQ q) (some 1) none = bodyS q.num.natAbs q.den := fun h => ext_tl (by rw [tl_cut1, tl_show_neg h]; rfl)
  have neb : q.num < 0 → (bodyS q.num.natAbs q.den == showQ q) = false := fun h => by
    refine beq_eq_false_iff_ne.mpr fun e => ?_
    have e2 := congrArg (fun x => (tl x).length) e
    simp only [tl_show_neg h, List.length_cons] at e2
    omega
  have lz : (showQ q).length ≤ 10000 := by
    by_cases h : q.num < 0
    · rw [len_tl, tl_show_neg h, List.length_cons, ← len_tl]; omega
    · rw [show_pos h]; omega
  have stn : q.num < 0 → Txt.startswith (showQ q) "-" = true := fun h => by rw [starts_iff (by rw [tl_minus]; simp), tl_minus, tl_show_neg h]; rfl
  generalize hb : bodyS q.num.natAbs q.den = B at *
  generalize hzz : showQ q = Z at *
  by_cases h : q.num < 0
  · have ea : 0 - (q.num.natAbs : Int) = q.num := by omega
    have ne := neF_str eb ez
    rw [neb h] at ne
    by_cases h1 : q.den = 1
    · rw [if_pos h1] at hs
      have eq : PyData.tuple [.int q.num, .int 1] = qD q := by unfold qD; rw [h1]; rfl
      simp [d_read_ratio, mDef, b_read_ratio, start0, stn h, slF_str lz, cutb h, hs, frz, compR, n1, ne, ea, eq, sq, neF_str ez ez]
      done
    · rw [if_neg h1] at hs
      have eq : PyData.tuple [.int q.num, .int (q.den : Int)] = qD q := rfl
      simp [d_read_ratio, mDef, b_read_ratio, start0, stn h, slF_str lz, cutb h, hs, frz, compR, n1, n2, ne, ea, eq, sq, neF_str ez ez]
      done
  · have ez2 : Z = B := by rw [← hzz, ← hb]; exact show_pos h
    subst ez2
    have st := body_no_minus q.num.natAbs q.den
    rw [hb] at st
    have ea : (q.num.natAbs : Int) = q.num := by omega
    by_cases h1 : q.den = 1
    · rw [if_pos h1] at hs
      have eq : PyData.tuple [.int q.num, .int 1] = qD q := by unfold qD; rw [h1]; rfl
      simp [d_read_ratio, mDef, b_read_ratio, start0, st, hs, frz, compR, n1, neF_str eb eb, ea, eq, sq]
      done
    · rw [if_neg h1] at hs
      have eq : PyData.tuple [.int q.num, .int (q.den : Int)] = qD q := rfl
      simp [d_read_ratio, mDef, b_read_ratio, start0, st, hs, frz, compR, n1, n2, neF_str eb eb, ea, eq, sq]
      done
end Pg
namespace Gk08
open PySem L2 DL
/-! ### the text by places -/
def top (i : Nat) : Stmt := PySem.Challenge.pw_hushduel_k08_sides_exchanged.main.body.getD i (.Pass ⟨0, 0, 0, 0⟩)
abbrev s_turned : Stmt := top 1
abbrev N_turned : List Str := ["game", "ways", "label", "part"]
abbrev P_turned : List Str := ["game"]
theorem sc_turned : FnScope N_turned P_turned (defScope s_turned) := ⟨rfl, rfl, rfl, by decide +kernel, rfl, by decide +kernel, by decide +kernel⟩
abbrev s__law_numbers : Stmt := top 3
abbrev N__law_numbers : List Str := ["_law_script", "_law_found", "_law_k"]
abbrev P__law_numbers : List Str := ["_law_script"]
theorem sc__law_numbers : FnScope N__law_numbers P__law_numbers (defScope s__law_numbers) := ⟨rfl, rfl, rfl, by decide +kernel, rfl, by decide +kernel, by decide +kernel⟩
abbrev s__law_name : Stmt := top 4
abbrev N__law_name : List Str := ["_law_x", "_law_signs", "_law_j"]
abbrev P__law_name : List Str := ["_law_x"]
theorem sc__law_name : FnScope N__law_name P__law_name (defScope s__law_name) := ⟨rfl, rfl, rfl, by decide +kernel, rfl, by decide +kernel, by decide +kernel⟩
abbrev s__law_ratio : Stmt := top 5
abbrev N__law_ratio : List Str := ["_law_x"]
abbrev P__law_ratio : List Str := ["_law_x"]
theorem sc__law_ratio : FnScope N__law_ratio P__law_ratio (defScope s__law_ratio) := ⟨rfl, rfl, rfl, by decide +kernel, rfl, by decide +kernel, by decide +kernel⟩
abbrev s__law_grown : Stmt := top 6
abbrev N__law_grown : List Str := ["_law_xs", "_law_deep", "_law_x", "_law_many", "_law_words", "_law_k", "_law_word"]
abbrev P__law_grown : List Str := ["_law_xs", "_law_deep"]
theorem sc__law_grown : FnScope N__law_grown P__law_grown (defScope s__law_grown) := ⟨rfl, rfl, rfl, by decide +kernel, rfl, by decide +kernel, by decide +kernel⟩
abbrev s__law_is_turned : Stmt := top 7
abbrev N__law_is_turned : List Str := ["_law_found", "_law_game", "_law_stake", "_law_k", "_law_pair"]
abbrev P__law_is_turned : List Str := ["_law_found", "_law_game"]
theorem sc__law_is_turned : FnScope N__law_is_turned P__law_is_turned (defScope s__law_is_turned) := ⟨rfl, rfl, rfl, by decide +kernel, rfl, by decide +kernel, by decide +kernel⟩
abbrev s_law : Stmt := top 8
abbrev N_law : List Str := ["_law_script", "_law_game", "_law_found"]
abbrev P_law : List Str := ["_law_script"]
theorem sc_law : FnScope N_law P_law (defScope s_law) := ⟨rfl, rfl, rfl, by decide +kernel, rfl, by decide +kernel, by decide +kernel⟩
/-! ### what each def does -/
abbrev caught : List EC := []
noncomputable def b__law_numbers : MS := (mSeq (mAsg 1 (mLst mNil)) (mSeq (mFor (mgN 2) (mRng1 (mCons (mV (mBi lenF (mCons (mR (mSl (mR (mVar 0)) mO0 (mO (mR (mC (.int 40)))))) mNil))) mNil)) (mApp 1 (mV (mB modF (mR (mB mulF (mR (mB addF (mR (mB addF (mR (mB addF (mR (mB modF (mR (mB ixF (mR (mVar 0)) (mR (mVar 2)))) (mR (mC (.int 1000000007))))) (mR (mB mulF (mR (mB mulF (mR (mC (.int 41))) (mR (mVar 2)))) (mR (mVar 2)))))) (mR (mB mulF (mR (mC (.int 13))) (mR (mVar 2)))))) (mR (mC (.int 3))))) (mR (mC (.int 16807))))) (mR (mC (.int 1000003))))))) (mRetN 1)))
noncomputable def d__law_numbers : F := mDef 3 1 b__law_numbers
noncomputable def b__law_name : MS := (mSeq (mAsg 1 (mC (.str "abcdefghijklmnopqrstuvwxyz0123456789"))) (mRet (mM1 joinF (mR (mC (.str ""))) (mR (mComp [2] (mgN 2) (mRng1 (mCons (mV (mB addF (mR (mC (.int 1))) (mR (mB modF (mR (mVar 0)) (mR (mC (.int 8))))))) mNil)) mYes (mV (mB ixF (mR (mVar 1)) (mR (mB modF (mR (mB addF (mR (mB divF (mR (mVar 0)) (mR (mB addF (mR (mVar 2)) (mR (mC (.int 1))))))) (mR (mB mulF (mR (mB mulF (mR (mVar 2)) (mR (mVar 2)))) (mR (mC (.int 5))))))) (mR (mC (.int 36))))))))))))
noncomputable def d__law_name : F := mDef 3 1 b__law_name
noncomputable def b__law_ratio : MS := (mSeq (mIf (mTest (mB eqF (mR (mB modF (mR (mVar 0)) (mR (mC (.int 5))))) (mR (mC (.int 4))))) (mRet (mTup (mCons (mV (mB subF (mR (mB subF (mR (mC (.int 0))) (mR (mB powF (mR (mC (.int 10))) (mR (mC (.int 24))))))) (mR (mVar 0)))) (mCons (mV (mC (.int 1))) mNil)))) mNext) (mSeq (mIf (mTest (mB eqF (mR (mB modF (mR (mVar 0)) (mR (mC (.int 5))))) (mR (mC (.int 3))))) (mRet (mTup (mCons (mV (mB subF (mR (mB mulF (mR (mC (.int 6))) (mR (mB modF (mR (mB divF (mR (mVar 0)) (mR (mC (.int 5))))) (mR (mC (.int 30))))))) (mR (mC (.int 89))))) (mCons (mV (mC (.int 3))) mNil)))) mNext) (mSeq (mIf (mTest (mB eqF (mR (mB modF (mR (mVar 0)) (mR (mC (.int 5))))) (mR (mC (.int 2))))) (mRet (mTup (mCons (mV (mB addF (mR (mB powF (mR (mC (.int 10))) (mR (mC (.int 11))))) (mR (mC (.int 1))))) (mCons (mV (mB powF (mR (mC (.int 10))) (mR (mC (.int 11))))) mNil)))) mNext) (mRet (mTup (mCons (mV (mB subF (mR (mB modF (mR (mB divF (mR (mVar 0)) (mR (mC (.int 5))))) (mR (mC (.int 9))))) (mR (mC (.int 4))))) (mCons (mV (mC (.int 1))) mNil)))))))
noncomputable def d__law_ratio : F := mDef 1 1 b__law_ratio
noncomputable def b__law_grown (rc : FM) : MS := (mSeq (mAsg 2 (mC (.int 0))) (mSeq (mIf (mTest (mB gtF (mR (mBi lenF (mCons (mR (mVar 0)) mNil))) (mR (mC (.int 0))))) (mPopG 0 (mgN 2)) mNext) (mSeq (mIf (mOr (mTest (mB eqF (mR (mVar 1)) (mR (mC (.int 0))))) (mOr (mTest (mB eqF (mR (mBi lenF (mCons (mR (mVar 0)) mNil))) (mR (mC (.int 0))))) (mTest (mB eqF (mR (mB modF (mR (mVar 2)) (mR (mC (.int 6))))) (mR (mC (.int 0))))))) (mRetM 0 (emP (mV (mTup (mCons (mV (mC (.str "end"))) (mCons (mV (mCall d__law_ratio (mACons (mB divF (mR (mVar 2)) (mR (mC (.int 6)))) mANil))) mNil)))))) mNext) (mSeq (mIf (mTest (mB ltF (mR (mB modF (mR (mVar 2)) (mR (mC (.int 6))))) (mR (mC (.int 3))))) (mSeq (mAsg 3 (mB addF (mR (mC (.int 1))) (mR (mB modF (mR (mB divF (mR (mVar 2)) (mR (mC (.int 6))))) (mR (mC (.int 3))))))) (mRetM 0 (emTup (emCons (emP (mV (mC (.str "deal")))) (emCons (emP (mV (mCall d__law_name (mACons (mB divF (mR (mVar 2)) (mR (mC (.int 2)))) mANil)))) (emCons (emBi tupleF (emCons (emComp [5] (mgN 5) (mRng1 (mCons (mV (mVar 3)) mNil)) (emTup (emCons (emP (mV (mTup (mCons (mV (mC (.int 1))) (mCons (mV (mVar 3)) mNil))))) (emCons (emCall 0 rc (amLent 0 (amVal (mV (mB subF (mR (mVar 1)) (mR (mC (.int 1))))) mANil))) emNil)))) emNil)) emNil)))))) mNext) (mSeq (mAsg 4 (mSl (mR (mLst (mCons (mV (mC (.str "a"))) (mCons (mV (mB addF (mR (mC (.str "b"))) (mR (mBi strF (mCons (mR (mB modF (mR (mVar 2)) (mR (mC (.int 100))))) mNil))))) (mCons (mV (mC (.str "c"))) mNil))))) mO0 (mO (mR (mB addF (mR (mC (.int 1))) (mR (mB modF (mR (mB divF (mR (mVar 2)) (mR (mC (.int 6))))) (mR (mC (.int 3)))))))))) (mFrz 4 (mRetM 0 (emTup (emCons (emP (mV (mC (.str "move")))) (emCons (emP (mV (mB addF (mR (mC (.int 1))) (mR (mB modF (mR (mB divF (mR (mVar 2)) (mR (mC (.int 3))))) (mR (mC (.int 2)))))))) (emCons (emP (mV (mCall d__law_name (mACons (mB divF (mR (mVar 2)) (mR (mC (.int 5)))) mANil)))) (emCons (emBi tupleF (emCons (emComp [6] (mgN 6) (miV 4) (emTup (emCons (emP (mV (mVar 6))) (emCons (emCall 0 rc (amLent 0 (amVal (mV (mB subF (mR (mVar 1)) (mR (mC (.int 1))))) mANil))) emNil)))) emNil)) emNil))))))))))))
noncomputable def d__law_grown : Nat → FM
  | 0 => fun _ => .stuck
  | n + 1 => mDefM 7 2 (b__law_grown (d__law_grown n))
noncomputable def b__law_is_turned (rc : F) : MS := (mSeq (mIf (mOr (mNot (mTest (mIsi "tuple" (mR (mVar 0))))) (mOr (mTest (mB neF (mR (mBi lenF (mCons (mR (mVar 0)) mNil))) (mR (mBi lenF (mCons (mR (mVar 1)) mNil))))) (mTest (mB neF (mR (mB ixF (mR (mVar 0)) (mR (mC (.int 0))))) (mR (mB ixF (mR (mVar 1)) (mR (mC (.int 0))))))))) (mRet (mC (.bool false))) mNext) (mSeq (mIf (mTest (mB eqF (mR (mB ixF (mR (mVar 1)) (mR (mC (.int 0))))) (mR (mC (.str "end"))))) (mSeq (mAsg 2 (mB ixF (mR (mVar 0)) (mR (mC (.int 1))))) (mSeq (mIf (mOr (mNot (mTest (mIsi "tuple" (mR (mVar 2))))) (mOr (mTest (mB neF (mR (mBi lenF (mCons (mR (mVar 2)) mNil))) (mR (mC (.int 2))))) (mTest (mIsi "bool" (mR (mB ixF (mR (mVar 2)) (mR (mC (.int 0))))))))) (mRet (mC (.bool false))) mNext) (mRet (mAndV (mB eqF (mR (mB addF (mR (mB ixF (mR (mVar 2)) (mR (mC (.int 0))))) (mR (mB ixF (mR (mB ixF (mR (mVar 1)) (mR (mC (.int 1))))) (mR (mC (.int 0))))))) (mR (mC (.int 0)))) (mAndV (mB eqF (mR (mB ixF (mR (mVar 2)) (mR (mC (.int 1))))) (mR (mB ixF (mR (mB ixF (mR (mVar 1)) (mR (mC (.int 1))))) (mR (mC (.int 1)))))) (mNotV (mIsi "bool" (mR (mB ixF (mR (mVar 2)) (mR (mC (.int 1)))))))))))) mNext) (mSeq (mIf (mTest (mB eqF (mR (mB ixF (mR (mVar 1)) (mR (mC (.int 0))))) (mR (mC (.str "move"))))) (mIf (mOr (mTest (mIsi "bool" (mR (mB ixF (mR (mVar 0)) (mR (mC (.int 1))))))) (mOr (mTest (mB neF (mR (mB ixF (mR (mVar 0)) (mR (mC (.int 1))))) (mR (mB subF (mR (mC (.int 3))) (mR (mB ixF (mR (mVar 1)) (mR (mC (.int 1))))))))) (mTest (mB neF (mR (mB ixF (mR (mVar 0)) (mR (mC (.int 2))))) (mR (mB ixF (mR (mVar 1)) (mR (mC (.int 2))))))))) (mRet (mC (.bool false))) mNext) mNext) (mSeq (mIf (mAnd (mTest (mB eqF (mR (mB ixF (mR (mVar 1)) (mR (mC (.int 0))))) (mR (mC (.str "deal"))))) (mTest (mB neF (mR (mB ixF (mR (mVar 0)) (mR (mC (.int 1))))) (mR (mB ixF (mR (mVar 1)) (mR (mC (.int 1)))))))) (mRet (mC (.bool false))) mNext) (mSeq (mIf (mOr (mNot (mTest (mIsi "tuple" (mR (mB ixF (mR (mVar 0)) (mR (mU negF (mR (mC (.int 1)))))))))) (mTest (mB neF (mR (mBi lenF (mCons (mR (mB ixF (mR (mVar 0)) (mR (mU negF (mR (mC (.int 1))))))) mNil))) (mR (mBi lenF (mCons (mR (mB ixF (mR (mVar 1)) (mR (mU negF (mR (mC (.int 1))))))) mNil)))))) (mRet (mC (.bool false))) mNext) (mSeq (mFor (mgN 3) (mRng1 (mCons (mV (mBi lenF (mCons (mR (mB ixF (mR (mVar 1)) (mR (mU negF (mR (mC (.int 1))))))) mNil))) mNil)) (mSeq (mAsg 4 (mB ixF (mR (mB ixF (mR (mVar 0)) (mR (mU negF (mR (mC (.int 1))))))) (mR (mVar 3)))) (mSeq (mIf (mOr (mNot (mTest (mIsi "tuple" (mR (mVar 4))))) (mOr (mTest (mB neF (mR (mBi lenF (mCons (mR (mVar 4)) mNil))) (mR (mC (.int 2))))) (mTest (mB neF (mR (mB ixF (mR (mVar 4)) (mR (mC (.int 0))))) (mR (mB ixF (mR (mB ixF (mR (mB ixF (mR (mVar 1)) (mR (mU negF (mR (mC (.int 1))))))) (mR (mVar 3)))) (mR (mC (.int 0))))))))) (mRet (mC (.bool false))) mNext) (mIf (mNot (mTest (mCall rc (mACons (mB ixF (mR (mVar 4)) (mR (mC (.int 1)))) (mACons (mB ixF (mR (mB ixF (mR (mB ixF (mR (mVar 1)) (mR (mU negF (mR (mC (.int 1))))))) (mR (mVar 3)))) (mR (mC (.int 1)))) mANil))))) (mRet (mC (.bool false))) mNext)))) (mRet (mC (.bool true)))))))))
noncomputable def d__law_is_turned : Nat → F
  | 0 => fun _ => .stuck
  | n + 1 => mDef 5 2 (b__law_is_turned (d__law_is_turned n))
noncomputable def b_law : MS := (mSeq (mAsg 1 (mCallTmp (d__law_grown 6) (mCall d__law_numbers (mACons (mVar 0) mANil)) (mCons (mV (mC (.int 5))) mNil))) (mSeq (mFrz 1 (mAsg 2 (mCall (Pg.d_turned 8) (mACons (mVar 1) mANil)))) (mFrz 1 (mFrz 2 (mRet (mAndV (mCall (d__law_is_turned 8) (mACons (mVar 2) (mACons (mVar 1) mANil))) (mAndV (mB eqF (mR (mCall (Pg.d_turned 8) (mACons (mVar 2) mANil))) (mR (mVar 1))) (mB eqF (mR (mCall (Pg.d_turned 8) (mACons (mVar 1) mANil))) (mR (mVar 2))))))))))
noncomputable def d_law : F := mDef 3 1 b_law
/-! ### what the top has written -/
structure Txt (K : PySem.W.Frag) (mg : Str → Option Value) (ec : EC → Addr) : Prop where
  b_bool : mg "bool" = none
  b_isinstance : mg "isinstance" = none
  b_len : mg "len" = none
  b_range : mg "range" = none
  b_str : mg "str" = none
  b_tuple : mg "tuple" = none
section
variable {P : Program} {w : World} {K : PySem.W.Frag} {mg : Str → Option Value} {base : Heap} {ec : EC → Addr}
set_option maxHeartbeats 4000000 in
theorem ok_turned (T : Txt K mg ec)  (L : Ln K mg "turned" s_turned P_turned) : ∀ n : Nat, Fd P w K mg base ec "turned" P_turned (1 + n) (Pg.d_turned n) := by
  intro n
  induction n with
  | zero => exact fd_bot (N := N_turned) sc_turned L
  | succ n ih =>
    refine fd_of (N := N_turned) (k := 1 + n) sc_turned L fun cdv A outer s H E hr => ?_
    unfold Pg.b_turned
    exact (dss_cons (ds_if (dt_cmp eqF_ok eqF_ne (op_eqD hr.units) (dr (de_ix (dr (de_var 0)) (dr de_int) (fun _ _ => rfl))) (dr de_str) (nomark _)) (dss_one (ds_ret (de_tup (da_cons (dv de_str) (da_cons (dv (de_tup (da_cons (dv (de_op subF_ok subF_ne op_sub (dr de_int) (dr (de_ix (dr (de_ix (dr (de_var 0)) (dr de_int) (fun _ _ => rfl))) (dr de_int) (fun _ _ => rfl))))) (da_cons (dv (de_ix (dr (de_ix (dr (de_var 0)) (dr de_int) (fun _ _ => rfl))) (dr de_int) (fun _ _ => rfl))) da_nil)))) da_nil))))) dss_nil) (dss_cons (ds_asg (i := 1) sc_turned.nd rfl (Or.inl rfl) (de_callT tupleF_ok call_tuple_of rfl T.b_tuple (by decide +kernel) (drl_cons (dr (de_comp (own := [("label", 2), ("part", 3)]) rfl sc_turned.nd (di_seq (dv (de_ix (dr (de_var 0)) (dr (de_neg (dr de_int))) (fun _ _ => rfl)))) (blkOk_by (N := N_turned) (sc := defScope s_turned) (own := [("label", 2), ("part", 3)]) (by decide +kernel)) (by decide) (fun _ _ _ _ _ => (dg_tup rfl (dgs_cons (dg_name (i := 2) sc_turned.nd rfl (Or.inl rfl)) (dgs_cons (dg_name (i := 3) sc_turned.nd rfl (Or.inl rfl)) dgs_nil)))) (fun _ _ _ _ _ => dif_nil) (fun _ _ _ _ _ => (dv (de_tup (da_cons (dv (de_var 2)) (da_cons (dv (de_callF ih (hr.mono (by omega)) rfl takes0 (das_cons (de_var 3) das_nil))) da_nil))))))) drl_nil))) (dss_cons (ds_if (dt_cmp eqF_ok eqF_ne (op_eqD hr.units) (dr (de_ix (dr (de_var 0)) (dr de_int) (fun _ _ => rfl))) (dr de_str) (nomark _)) (dss_one (ds_ret (de_tup (da_cons (dv de_str) (da_cons (dv (de_ix (dr (de_var 0)) (dr de_int) (fun _ _ => rfl))) (da_cons (dv (de_var 1)) da_nil)))))) dss_nil) (dss_one (ds_ret (de_tup (da_cons (dv de_str) (da_cons (dv (de_op subF_ok subF_ne op_sub (dr de_int) (dr (de_ix (dr (de_var 0)) (dr de_int) (fun _ _ => rfl))))) (da_cons (dv (de_ix (dr (de_var 0)) (dr de_int) (fun _ _ => rfl))) (da_cons (dv (de_var 1)) da_nil))))))))))
set_option maxHeartbeats 4000000 in
theorem ok__law_numbers (T : Txt K mg ec)  (L : Ln K mg "_law_numbers" s__law_numbers P__law_numbers) : Fd P w K mg base ec "_law_numbers" P__law_numbers 1 d__law_numbers := by
  refine fd_of (N := N__law_numbers) sc__law_numbers L fun cdv A outer s H E hr => ?_
  unfold b__law_numbers
  exact (dss_cons (ds_asg (i := 1) sc__law_numbers.nd rfl (Or.inl rfl) (de_lst da_nil)) (dss_cons (ds_for (passes_of rfl) rfl (di_range1 rfl T.b_range (da_cons (dv (de_callB lenF_ok call_len rfl T.b_len (by decide +kernel) (drl_cons (dr (de_sl (dr (de_var 0)) do_none (do_some (dr de_int)))) drl_nil))) da_nil)) (dg_name (i := 2) sc__law_numbers.nd rfl (Or.inl rfl)) (dss_one (ds_append (i := 1) (dv (de_op modF_ok modF_ne op_modN (dr (de_op mulF_ok mulF_ne op_mulA (dr (de_op addF_ok addF_ne op_addD (dr (de_op addF_ok addF_ne op_addD (dr (de_op addF_ok addF_ne op_addD (dr (de_op modF_ok modF_ne op_modN (dr (de_ix (dr (de_var 0)) (dr (de_var 2)) (fun _ _ => rfl))) (dr de_int))) (dr (de_op mulF_ok mulF_ne op_mulA (dr (de_op mulF_ok mulF_ne op_mulA (dr de_int) (dr (de_var 2)))) (dr (de_var 2)))))) (dr (de_op mulF_ok mulF_ne op_mulA (dr de_int) (dr (de_var 2)))))) (dr de_int))) (dr de_int))) (dr de_int)))))) (dss_one (ds_retN 1))))
set_option maxHeartbeats 4000000 in
theorem ok__law_name (T : Txt K mg ec)  (L : Ln K mg "_law_name" s__law_name P__law_name) : Fd P w K mg base ec "_law_name" P__law_name 1 d__law_name := by
  refine fd_of (N := N__law_name) sc__law_name L fun cdv A outer s H E hr => ?_
  unfold b__law_name
  exact (dss_cons (ds_asg (i := 1) sc__law_name.nd rfl (Or.inr rfl) de_str) (dss_one (ds_ret (de_join (dr de_str) (dr (de_comp (own := [("_law_j", 2)]) rfl sc__law_name.nd (di_range1 rfl T.b_range (da_cons (dv (de_op addF_ok addF_ne op_addD (dr de_int) (dr (de_op modF_ok modF_ne op_modN (dr (de_var 0)) (dr de_int))))) da_nil)) (blkOk_by (N := N__law_name) (sc := defScope s__law_name) (own := [("_law_j", 2)]) (by decide +kernel)) (by decide) (fun _ _ _ _ _ => (dg_name (i := 2) sc__law_name.nd rfl (Or.inl rfl))) (fun _ _ _ _ _ => dif_nil) (fun _ _ _ _ _ => (dv (de_ix (dr (de_var 1)) (dr (de_op modF_ok modF_ne op_modN (dr (de_op addF_ok addF_ne op_addD (dr (de_op divF_ok divF_ne op_fdivA (dr (de_var 0)) (dr (de_op addF_ok addF_ne op_addD (dr (de_var 2)) (dr de_int))))) (dr (de_op mulF_ok mulF_ne op_mulA (dr (de_op mulF_ok mulF_ne op_mulA (dr (de_var 2)) (dr (de_var 2)))) (dr de_int))))) (dr de_int))) (fun _ _ => rfl))))))))))
set_option maxHeartbeats 4000000 in
theorem ok__law_ratio (T : Txt K mg ec)  (L : Ln K mg "_law_ratio" s__law_ratio P__law_ratio) : Fd P w K mg base ec "_law_ratio" P__law_ratio 1 d__law_ratio := by
  refine fd_of (N := N__law_ratio) sc__law_ratio L fun cdv A outer s H E hr => ?_
  unfold b__law_ratio
  exact (dss_cons (ds_if (dt_cmp eqF_ok eqF_ne (op_eqD hr.units) (dr (de_op modF_ok modF_ne op_modN (dr (de_var 0)) (dr de_int))) (dr de_int) (nomark _)) (dss_one (ds_ret (de_tup (da_cons (dv (de_op subF_ok subF_ne op_sub (dr (de_op subF_ok subF_ne op_sub (dr de_int) (dr (de_op powF_ok powF_ne op_pow (dr de_int) (dr de_int))))) (dr (de_var 0)))) (da_cons (dv de_int) da_nil))))) dss_nil) (dss_cons (ds_if (dt_cmp eqF_ok eqF_ne (op_eqD hr.units) (dr (de_op modF_ok modF_ne op_modN (dr (de_var 0)) (dr de_int))) (dr de_int) (nomark _)) (dss_one (ds_ret (de_tup (da_cons (dv (de_op subF_ok subF_ne op_sub (dr (de_op mulF_ok mulF_ne op_mulA (dr de_int) (dr (de_op modF_ok modF_ne op_modN (dr (de_op divF_ok divF_ne op_fdivA (dr (de_var 0)) (dr de_int))) (dr de_int))))) (dr de_int))) (da_cons (dv de_int) da_nil))))) dss_nil) (dss_cons (ds_if (dt_cmp eqF_ok eqF_ne (op_eqD hr.units) (dr (de_op modF_ok modF_ne op_modN (dr (de_var 0)) (dr de_int))) (dr de_int) (nomark _)) (dss_one (ds_ret (de_tup (da_cons (dv (de_op addF_ok addF_ne op_addD (dr (de_op powF_ok powF_ne op_pow (dr de_int) (dr de_int))) (dr de_int))) (da_cons (dv (de_op powF_ok powF_ne op_pow (dr de_int) (dr de_int))) da_nil))))) dss_nil) (dss_one (ds_ret (de_tup (da_cons (dv (de_op subF_ok subF_ne op_sub (dr (de_op modF_ok modF_ne op_modN (dr (de_op divF_ok divF_ne op_fdivA (dr (de_var 0)) (dr de_int))) (dr de_int))) (dr de_int))) (da_cons (dv de_int) da_nil))))))))
set_option maxHeartbeats 4000000 in
theorem ok__law_grown (T : Txt K mg ec) (F__law_name : Fd P w K mg base ec "_law_name" P__law_name 1 d__law_name) (F__law_ratio : Fd P w K mg base ec "_law_ratio" P__law_ratio 1 d__law_ratio) (L : Ln K mg "_law_grown" s__law_grown P__law_grown) : ∀ n : Nat, FdM P w K mg base ec "_law_grown" P__law_grown (2 + n) (d__law_grown n) := by
  intro n
  induction n with
  | zero => exact fdM_bot (N := N__law_grown) sc__law_grown L
  | succ n ih =>
    refine fdM_of (N := N__law_grown) (k := 2 + n) sc__law_grown L fun Lt cdv A outer s H E hr => ?_
    unfold b__law_grown
    exact (dss_cons (ds_asg (i := 2) sc__law_grown.nd rfl (Or.inl rfl) de_int) (dss_cons (ds_if (dt_cmp cmpF_ok cmpF_ne op_gt (dr (de_callB lenF_ok call_len rfl T.b_len (by decide +kernel) (drl_cons (dr (de_var 0)) drl_nil))) (dr de_int) (nomark _)) (dss_one (ds_popG (i := 0) (dg_name (i := 2) sc__law_grown.nd rfl (Or.inl rfl)))) dss_nil) (dss_cons (ds_if (dt_w (dw_or (dt_cmp eqF_ok eqF_ne (op_eqD hr.units) (dr (de_var 1)) (dr de_int) (nomark _)) (dw_or (dt_cmp eqF_ok eqF_ne (op_eqD hr.units) (dr (de_callB lenF_ok call_len rfl T.b_len (by decide +kernel) (drl_cons (dr (de_var 0)) drl_nil))) (dr de_int) (nomark _)) (dw_or1 (dt_cmp eqF_ok eqF_ne (op_eqD hr.units) (dr (de_op modF_ok modF_ne op_modN (dr (de_var 2)) (dr de_int))) (dr de_int) (nomark _)))))) (dss_one (ds_retM 0 (em_pure (dv (de_tup (da_cons (dv de_str) (da_cons (dv (de_callF F__law_ratio (hr.mono (by omega)) rfl (takes_of rfl rfl rfl rfl) (das_cons (de_op divF_ok divF_ne op_fdivA (dr (de_var 2)) (dr de_int)) das_nil))) da_nil))))))) dss_nil) (dss_cons (ds_if (dt_cmp cmpF_ok cmpF_ne op_lt (dr (de_op modF_ok modF_ne op_modN (dr (de_var 2)) (dr de_int))) (dr de_int) (nomark _)) (dss_cons (ds_asg (i := 3) sc__law_grown.nd rfl (Or.inr rfl) (de_op addF_ok addF_ne op_addD (dr de_int) (dr (de_op modF_ok modF_ne op_modN (dr (de_op divF_ok divF_ne op_fdivA (dr (de_var 2)) (dr de_int))) (dr de_int))))) (dss_one (ds_retM 0 (em_tup (ea_cons (em_pure (dv de_str)) (ea_cons (em_pure (dv (de_callF F__law_name (hr.mono (by omega)) rfl (takes_of rfl rfl rfl rfl) (das_cons (de_op divF_ok divF_ne op_fdivA (dr (de_var 2)) (dr de_int)) das_nil)))) (ea_cons (em_callT tupleF_ok call_tuple_of rfl T.b_tuple (by decide +kernel) (ea_cons (em_comp (own := [("_law_k", 5)]) rfl sc__law_grown.nd (di_range1 rfl T.b_range (da_cons (dv (de_var 3)) da_nil)) (blkOk_by (N := N__law_grown) (sc := defScope s__law_grown) (own := [("_law_k", 5)]) (by decide +kernel)) (by decide) off_name (fun _ _ _ _ _ => (dg_name (i := 5) sc__law_grown.nd rfl (Or.inl rfl))) (fun _ _ _ _ _ => dif_nil) (fun _ _ _ _ _ => (em_tup (ea_cons (em_pure (dv (de_tup (da_cons (dv de_int) (da_cons (dv (de_var 3)) da_nil))))) (ea_cons (em_call ih (hr.mono (by omega)) rfl takes0 (dam_lent (i := 0) (dam_val (dv (de_op subF_ok subF_ne op_sub (dr (de_var 1)) (dr de_int))) dam_nil))) ea_nil))))) ea_nil)) ea_nil))))))) dss_nil) (dss_cons (ds_asg (i := 4) sc__law_grown.nd rfl (Or.inl rfl) (de_sl (dr (de_lst (da_cons (dv de_str) (da_cons (dv (de_op addF_ok addF_ne op_addD (dr de_str) (dr (de_callT strF_ok call_str_int rfl T.b_str (by decide +kernel) (drl_cons (dr (de_op modF_ok modF_ne op_modN (dr (de_var 2)) (dr de_int))) drl_nil))))) (da_cons (dv de_str) da_nil))))) do_none (do_some (dr (de_op addF_ok addF_ne op_addD (dr de_int) (dr (de_op modF_ok modF_ne op_modN (dr (de_op divF_ok divF_ne op_fdivA (dr (de_var 2)) (dr de_int))) (dr de_int)))))))) (dss_one (ds_frz 4 (ds_retM 0 (em_tup (ea_cons (em_pure (dv de_str)) (ea_cons (em_pure (dv (de_op addF_ok addF_ne op_addD (dr de_int) (dr (de_op modF_ok modF_ne op_modN (dr (de_op divF_ok divF_ne op_fdivA (dr (de_var 2)) (dr de_int))) (dr de_int)))))) (ea_cons (em_pure (dv (de_callF F__law_name (hr.mono (by omega)) rfl (takes_of rfl rfl rfl rfl) (das_cons (de_op divF_ok divF_ne op_fdivA (dr (de_var 2)) (dr de_int)) das_nil)))) (ea_cons (em_callT tupleF_ok call_tuple_of rfl T.b_tuple (by decide +kernel) (ea_cons (em_comp (own := [("_law_word", 6)]) rfl sc__law_grown.nd (di_var 4) (blkOk_by (N := N__law_grown) (sc := defScope s__law_grown) (own := [("_law_word", 6)]) (by decide +kernel)) (by decide) off_name (fun _ _ _ _ _ => (dg_name (i := 6) sc__law_grown.nd rfl (Or.inl rfl))) (fun _ _ _ _ _ => dif_nil) (fun _ _ _ _ _ => (em_tup (ea_cons (em_pure (dv (de_var 6))) (ea_cons (em_call ih (hr.mono (by omega)) rfl takes0 (dam_lent (i := 0) (dam_val (dv (de_op subF_ok subF_ne op_sub (dr (de_var 1)) (dr de_int))) dam_nil))) ea_nil))))) ea_nil)) ea_nil)))))))))))))
set_option maxHeartbeats 4000000 in
theorem ok__law_is_turned (T : Txt K mg ec)  (L : Ln K mg "_law_is_turned" s__law_is_turned P__law_is_turned) : ∀ n : Nat, Fd P w K mg base ec "_law_is_turned" P__law_is_turned (1 + n) (d__law_is_turned n) := by
  intro n
  induction n with
  | zero => exact fd_bot (N := N__law_is_turned) sc__law_is_turned L
  | succ n ih =>
    refine fd_of (N := N__law_is_turned) (k := 1 + n) sc__law_is_turned L fun cdv A outer s H E hr => ?_
    unfold b__law_is_turned
    exact (dss_cons (ds_if (dt_w (dw_or (dt_not (dt_val (de_isi rfl T.b_isinstance rfl T.b_tuple (by decide +kernel) (dr (de_var 0))))) (dw_or (dt_cmp neF_ok neF_ne (op_neD hr.units) (dr (de_callB lenF_ok call_len rfl T.b_len (by decide +kernel) (drl_cons (dr (de_var 0)) drl_nil))) (dr (de_callB lenF_ok call_len rfl T.b_len (by decide +kernel) (drl_cons (dr (de_var 1)) drl_nil))) (nomark _)) (dw_or1 (dt_cmp neF_ok neF_ne (op_neD hr.units) (dr (de_ix (dr (de_var 0)) (dr de_int) (fun _ _ => rfl))) (dr (de_ix (dr (de_var 1)) (dr de_int) (fun _ _ => rfl))) (nomark _)))))) (dss_one (ds_ret de_bl)) dss_nil) (dss_cons (ds_if (dt_cmp eqF_ok eqF_ne (op_eqD hr.units) (dr (de_ix (dr (de_var 1)) (dr de_int) (fun _ _ => rfl))) (dr de_str) (nomark _)) (dss_cons (ds_asg (i := 2) sc__law_is_turned.nd rfl (Or.inl rfl) (de_ix (dr (de_var 0)) (dr de_int) (fun _ _ => rfl))) (dss_cons (ds_if (dt_w (dw_or (dt_not (dt_val (de_isi rfl T.b_isinstance rfl T.b_tuple (by decide +kernel) (dr (de_var 2))))) (dw_or (dt_cmp neF_ok neF_ne (op_neD hr.units) (dr (de_callB lenF_ok call_len rfl T.b_len (by decide +kernel) (drl_cons (dr (de_var 2)) drl_nil))) (dr de_int) (nomark _)) (dw_or1 (dt_val (de_isi rfl T.b_isinstance rfl T.b_bool (by decide +kernel) (dr (de_ix (dr (de_var 2)) (dr de_int) (fun _ _ => rfl))))))))) (dss_one (ds_ret de_bl)) dss_nil) (dss_one (ds_ret (de_and (de_cmp eqF_ok eqF_ne (op_eqD hr.units) (dr (de_op addF_ok addF_ne op_addD (dr (de_ix (dr (de_var 2)) (dr de_int) (fun _ _ => rfl))) (dr (de_ix (dr (de_ix (dr (de_var 1)) (dr de_int) (fun _ _ => rfl))) (dr de_int) (fun _ _ => rfl))))) (dr de_int) (nomark _)) (de_and (de_cmp eqF_ok eqF_ne (op_eqD hr.units) (dr (de_ix (dr (de_var 2)) (dr de_int) (fun _ _ => rfl))) (dr (de_ix (dr (de_ix (dr (de_var 1)) (dr de_int) (fun _ _ => rfl))) (dr de_int) (fun _ _ => rfl))) (nomark _)) (de_one (de_not (de_isi rfl T.b_isinstance rfl T.b_bool (by decide +kernel) (dr (de_ix (dr (de_var 2)) (dr de_int) (fun _ _ => rfl)))))))))))) dss_nil) (dss_cons (ds_if (dt_cmp eqF_ok eqF_ne (op_eqD hr.units) (dr (de_ix (dr (de_var 1)) (dr de_int) (fun _ _ => rfl))) (dr de_str) (nomark _)) (dss_one (ds_if (dt_w (dw_or (dt_val (de_isi rfl T.b_isinstance rfl T.b_bool (by decide +kernel) (dr (de_ix (dr (de_var 0)) (dr de_int) (fun _ _ => rfl))))) (dw_or (dt_cmp neF_ok neF_ne (op_neD hr.units) (dr (de_ix (dr (de_var 0)) (dr de_int) (fun _ _ => rfl))) (dr (de_op subF_ok subF_ne op_sub (dr de_int) (dr (de_ix (dr (de_var 1)) (dr de_int) (fun _ _ => rfl))))) (nomark _)) (dw_or1 (dt_cmp neF_ok neF_ne (op_neD hr.units) (dr (de_ix (dr (de_var 0)) (dr de_int) (fun _ _ => rfl))) (dr (de_ix (dr (de_var 1)) (dr de_int) (fun _ _ => rfl))) (nomark _)))))) (dss_one (ds_ret de_bl)) dss_nil)) dss_nil) (dss_cons (ds_if (dt_w (dw_and (dt_cmp eqF_ok eqF_ne (op_eqD hr.units) (dr (de_ix (dr (de_var 1)) (dr de_int) (fun _ _ => rfl))) (dr de_str) (nomark _)) (dw_and1 (dt_cmp neF_ok neF_ne (op_neD hr.units) (dr (de_ix (dr (de_var 0)) (dr de_int) (fun _ _ => rfl))) (dr (de_ix (dr (de_var 1)) (dr de_int) (fun _ _ => rfl))) (nomark _))))) (dss_one (ds_ret de_bl)) dss_nil) (dss_cons (ds_if (dt_w (dw_or (dt_not (dt_val (de_isi rfl T.b_isinstance rfl T.b_tuple (by decide +kernel) (dr (de_ix (dr (de_var 0)) (dr (de_neg (dr de_int))) (fun _ _ => rfl)))))) (dw_or1 (dt_cmp neF_ok neF_ne (op_neD hr.units) (dr (de_callB lenF_ok call_len rfl T.b_len (by decide +kernel) (drl_cons (dr (de_ix (dr (de_var 0)) (dr (de_neg (dr de_int))) (fun _ _ => rfl))) drl_nil))) (dr (de_callB lenF_ok call_len rfl T.b_len (by decide +kernel) (drl_cons (dr (de_ix (dr (de_var 1)) (dr (de_neg (dr de_int))) (fun _ _ => rfl))) drl_nil))) (nomark _))))) (dss_one (ds_ret de_bl)) dss_nil) (dss_cons (ds_for (passes_of rfl) rfl (di_range1 rfl T.b_range (da_cons (dv (de_callB lenF_ok call_len rfl T.b_len (by decide +kernel) (drl_cons (dr (de_ix (dr (de_var 1)) (dr (de_neg (dr de_int))) (fun _ _ => rfl))) drl_nil))) da_nil)) (dg_name (i := 3) sc__law_is_turned.nd rfl (Or.inl rfl)) (dss_cons (ds_asg (i := 4) sc__law_is_turned.nd rfl (Or.inl rfl) (de_ix (dr (de_ix (dr (de_var 0)) (dr (de_neg (dr de_int))) (fun _ _ => rfl))) (dr (de_var 3)) (fun _ _ => rfl))) (dss_cons (ds_if (dt_w (dw_or (dt_not (dt_val (de_isi rfl T.b_isinstance rfl T.b_tuple (by decide +kernel) (dr (de_var 4))))) (dw_or (dt_cmp neF_ok neF_ne (op_neD hr.units) (dr (de_callB lenF_ok call_len rfl T.b_len (by decide +kernel) (drl_cons (dr (de_var 4)) drl_nil))) (dr de_int) (nomark _)) (dw_or1 (dt_cmp neF_ok neF_ne (op_neD hr.units) (dr (de_ix (dr (de_var 4)) (dr de_int) (fun _ _ => rfl))) (dr (de_ix (dr (de_ix (dr (de_ix (dr (de_var 1)) (dr (de_neg (dr de_int))) (fun _ _ => rfl))) (dr (de_var 3)) (fun _ _ => rfl))) (dr de_int) (fun _ _ => rfl))) (nomark _)))))) (dss_one (ds_ret de_bl)) dss_nil) (dss_one (ds_if (dt_not (dt_val (de_callF ih (hr.mono (by omega)) rfl (takes_of rfl rfl rfl rfl) (das_cons (de_ix (dr (de_var 4)) (dr de_int) (fun _ _ => rfl)) (das_cons (de_ix (dr (de_ix (dr (de_ix (dr (de_var 1)) (dr (de_neg (dr de_int))) (fun _ _ => rfl))) (dr (de_var 3)) (fun _ _ => rfl))) (dr de_int) (fun _ _ => rfl)) das_nil))))) (dss_one (ds_ret de_bl)) dss_nil))))) (dss_one (ds_ret de_bl))))))))
set_option maxHeartbeats 4000000 in
theorem ok_law (T : Txt K mg ec) (F__law_is_turned : Fd P w K mg base ec "_law_is_turned" P__law_is_turned 9 (d__law_is_turned 8)) (F_turned : Fd P w K mg base ec "turned" P_turned 9 (Pg.d_turned 8)) (F__law_grown : FdM P w K mg base ec "_law_grown" P__law_grown 8 (d__law_grown 6)) (F__law_numbers : Fd P w K mg base ec "_law_numbers" P__law_numbers 1 d__law_numbers) {fa : Addr} {fd : FuncData} (L : Fun K "law" "law" s_law fa fd) : FnOk P w K mg base (L2.CX P w) 10 fa fd P_law (spD ⟨K, ec, fun _ _ => False, none⟩ d_law) := by
  refine fnok_of (N := N_law) sc_law L fun cdv A outer s H E hr => ?_
  unfold b_law
  exact (dss_cons (ds_asg (i := 1) sc_law.nd rfl (Or.inl rfl) (de_callTmp F__law_grown (hr.mono (by decide)) rfl (takes_of rfl rfl rfl rfl) (de_callF F__law_numbers (hr.mono (by decide)) rfl (takes_of rfl rfl rfl rfl) (das_cons (de_var 0) das_nil)) (da_cons (dv de_int) da_nil))) (dss_cons (ds_frz 1 (ds_asg (i := 2) sc_law.nd rfl (Or.inl rfl) (de_callF F_turned (hr.mono (by decide)) rfl (takes_of rfl rfl rfl rfl) (das_cons (de_var 1) das_nil)))) (dss_one (ds_frz 1 (ds_frz 2 (ds_ret (de_and (de_callF F__law_is_turned (hr.mono (by decide)) rfl (takes_of rfl rfl rfl rfl) (das_cons (de_var 2) (das_cons (de_var 1) das_nil))) (de_and (de_cmp eqF_ok eqF_ne (op_eqD hr.units) (dr (de_callF F_turned (hr.mono (by decide)) rfl (takes_of rfl rfl rfl rfl) (das_cons (de_var 2) das_nil))) (dr (de_var 1)) (nomark _)) (de_one (de_cmp eqF_ok eqF_ne (op_eqD hr.units) (dr (de_callF F_turned (hr.mono (by decide)) rfl (takes_of rfl rfl rfl rfl) (das_cons (de_var 1) das_nil))) (dr (de_var 2)) (nomark _)))))))))))
end
set_option exponentiation.threshold 20000
open PySem L2 DL Pg TL
@[simp] theorem negF_int {i : Int} : negF (.int i) = .ok (.val (.int (-i))) := (rfl)
@[simp] theorem ok_end : PyData.strOk "end" = true := by decide +kernel
@[simp] theorem ok_deal : PyData.strOk "deal" = true := by decide +kernel
@[simp] theorem ok_move : PyData.strOk "move" = true := by decide +kernel
@[simp] theorem b_ee : (("end" : Str) == ("end" : Str)) = true := by decide +kernel
@[simp] theorem b_dd : (("deal" : Str) == ("deal" : Str)) = true := by decide +kernel
@[simp] theorem b_mm : (("move" : Str) == ("move" : Str)) = true := by decide +kernel
@[simp] theorem b_de : (("deal" : Str) == ("end" : Str)) = false := by decide +kernel
@[simp] theorem b_me : (("move" : Str) == ("end" : Str)) = false := by decide +kernel
@[simp] theorem b_md : (("move" : Str) == ("deal" : Str)) = false := by decide +kernel
@[simp] theorem b_dm : (("deal" : Str) == ("move" : Str)) = false := by decide +kernel
@[simp] theorem b_em : (("end" : Str) == ("move" : Str)) = false := by decide +kernel
@[simp] theorem b_ed : (("end" : Str) == ("deal" : Str)) = false := by decide +kernel
@[simp] theorem at_2 {α : Type} {x y : α} : atI [x, y] (-1) = some y := rfl
@[simp] theorem at_3 {α : Type} {x y z : α} : atI [x, y, z] (-1) = some z := rfl
@[simp] theorem at_4 {α : Type} {x y z w : α} : atI [x, y, z, w] (-1) = some w := rfl
@[simp] theorem at_42 {α : Type} {x y z w : α} : atI [x, y, z, w] 2 = some z := rfl
@[simp] theorem at_32 {α : Type} {x y z : α} : atI [x, y, z] 2 = some z := rfl
@[simp] theorem tupleF_list {ds : List PyData} : tupleF [.list ds] = .ok (.val (.tuple ds)) := (rfl)
@[simp] theorem tupleF_tup {ds : List PyData} : tupleF [.tuple ds] = .ok (.val (.tuple ds)) := (rfl)
def endD (a b : Int) : PyData := .tuple [.str "end", .tuple [.int a, .int b]]
def ways (ws : List (PyData × PyData)) : PyData := .tuple (ws.map fun p => .tuple [p.1, p.2])
def dealD (nm : Str) (ws : List (PyData × PyData)) : PyData := .tuple [.str "deal", .str nm, ways ws]
def moveD (s : Int) (nm : Str) (ws : List (PyData × PyData)) : PyData := .tuple [.str "move", .int s, .str nm, ways ws]
def LOk (l : PyData) : Prop := l.canLay0 = true ∧ l.depth ≤ 1
abbrev W3 := List (PyData × PyData × PyData)
def w1 (ws : W3) : List (PyData × PyData) := ws.map fun w => (w.1, w.2.1)
def w2 (ws : W3) : List (PyData × PyData) := ws.map fun w => (w.1, w.2.2)
def TurnR : Nat → PyData → PyData → Prop
  | 0, _, _ => False
  | n + 1, d, e => (∃ a b, d = endD a b ∧ e = endD (0 - a) b) ∨
    (∃ nm, ∃ ws : W3, PyData.strOk nm = true ∧ ws.length ≤ 100 ∧ (∀ w ∈ ws, LOk w.1 ∧ TurnR n w.2.1 w.2.2) ∧ d = dealD nm (w1 ws) ∧ e = dealD nm (w2 ws)) ∨
    (∃ s nm, ∃ ws : W3, PyData.strOk nm = true ∧ ws.length ≤ 100 ∧ (∀ w ∈ ws, LOk w.1 ∧ TurnR n w.2.1 w.2.2) ∧ d = moveD s nm (w1 ws) ∧ e = moveD (3 - s) nm (w2 ws))
def sw (ws : W3) : W3 := ws.map fun w => (w.1, w.2.2, w.2.1)
theorem w1_sw (ws : W3) : w1 (sw ws) = w2 ws := by simp [w1, w2, sw, Function.comp_def]
theorem w2_sw (ws : W3) : w2 (sw ws) = w1 ws := by simp [w1, w2, sw, Function.comp_def]
theorem TurnR.symm : ∀ {n : Nat} {d e : PyData}, TurnR n d e → TurnR n e d
  | 0, _, _, h => h
  | n + 1, d, e, h => by
    rcases h with ⟨a, b, rfl, rfl⟩ | ⟨nm, ws, o, l, h, rfl, rfl⟩ | ⟨s, nm, ws, o, l, h, rfl, rfl⟩
    · exact .inl ⟨0 - a, b, rfl, by rw [show 0 - (0 - a) = a by omega]⟩
    · refine .inr (.inl ⟨nm, sw ws, o, by simpa [sw] using l, fun w hw => ?_, by rw [w1_sw], by rw [w2_sw]⟩)
      obtain ⟨w', hw', rfl⟩ := List.mem_map.mp hw
      exact ⟨(h w' hw').1, (h w' hw').2.symm⟩
    · refine .inr (.inr ⟨3 - s, nm, sw ws, o, by simpa [sw] using l, fun w hw => ?_, by rw [w1_sw], by rw [w2_sw, show 3 - (3 - s) = s by omega]⟩)
      obtain ⟨w', hw', rfl⟩ := List.mem_map.mp hw
      exact ⟨(h w' hw').1, (h w' hw').2.symm⟩
theorem can_ways {ws : List (PyData × PyData)} {k : Nat} (h : ∀ w ∈ ws, LOk w.1 ∧ w.2.canLay0 = true ∧ w.2.depth ≤ k) : (ways ws).canLay0 = true ∧ (ways ws).depth ≤ k + 4 := by
  have : PyData.canLayAll0 (ws.map fun p => PyData.tuple [p.1, p.2]) = true ∧ PyData.depthAll (ws.map fun p => PyData.tuple [p.1, p.2]) ≤ k + 3 := by
    induction ws with
    | nil => simp [PyData.canLayAll0, PyData.depthAll]
    | cons w ws ih =>
      obtain ⟨a1, a2⟩ := ih fun v hv => h v (List.mem_cons_of_mem _ hv)
      obtain ⟨⟨b1, b2⟩, b3, b4⟩ := h w List.mem_cons_self
      refine ⟨by simp [PyData.canLayAll0, PyData.canLay0, a1, b1, b3], ?_⟩
      simp only [List.map_cons, PyData.depthAll, PyData.depth]
      omega
  refine ⟨by simpa [ways, PyData.canLay0] using this.1, ?_⟩
  simp only [ways, PyData.depth]
  omega
theorem TurnR.can : ∀ {n : Nat} {d e : PyData}, TurnR n d e → d.canLay0 = true ∧ d.depth ≤ 6 * n
  | 0, _, _, h => h.elim
  | n + 1, d, e, h => by
    rcases h with ⟨a, b, rfl, rfl⟩ | ⟨nm, ws, o, l, h, rfl, rfl⟩ | ⟨s, nm, ws, o, l, h, rfl, rfl⟩
    · refine ⟨by simp [endD, PyData.canLay0, PyData.canLayAll0], ?_⟩
      simp [endD, PyData.depth, PyData.depthAll]
      omega
    · have := can_ways (ws := w1 ws) (k := 6 * n) fun w hw => by
        obtain ⟨v, hv, rfl⟩ := List.mem_map.mp hw
        exact ⟨(h v hv).1, (h v hv).2.can⟩
      refine ⟨by simp [dealD, PyData.canLay0, PyData.canLayAll0, o, this.1], ?_⟩
      simp only [dealD, PyData.depth, PyData.depthAll]
      omega
    · have := can_ways (ws := w1 ws) (k := 6 * n) fun w hw => by
        obtain ⟨v, hv, rfl⟩ := List.mem_map.mp hw
        exact ⟨(h v hv).1, (h v hv).2.can⟩
      refine ⟨by simp [moveD, PyData.canLay0, PyData.canLayAll0, o, this.1], ?_⟩
      simp only [moveD, PyData.depth, PyData.depthAll]
      omega
theorem TurnR.shaped {n : Nat} {d e : PyData} (hn : n ≤ 10) (h : TurnR n d e) : SeqAt.shaped d = true := by
  have := h.can
  simp [SeqAt.shaped, this.1]
  omega
/-- turned -/
theorem turned_ok : ∀ {n : Nat} {d e : PyData}, TurnR n d e → ∀ m, n ≤ m → d_turned m [.val d] = .ok (.val e)
  | 0, _, _, h, _, _ => h.elim
  | n + 1, d, e, h, 0, hm => absurd hm (by omega)
  | n + 1, d, e, h, m + 1, hm => by
    have cp : ∀ (D : PyData) (ws : W3), ws.length ≤ 100 → (∀ w ∈ ws, LOk w.1 ∧ TurnR n w.2.1 w.2.2) → compR (mgT 2 (mgCons (mgN 2) (mgCons (mgN 3) mgNil))) mYes (mV (mTup (mCons (mV (mVar 2)) (mCons (mV (mCall (d_turned m) (mACons (mVar 3) mANil))) mNil)))) [some (.val D), none, none, none] (ws.map fun w => .tuple [w.1, w.2.1]) = .ok (ws.map fun w => .tuple [w.1, w.2.2]) := by
      intro D ws l h
      refine compR_map fun w hw => ⟨_, rfl, rfl, ?_⟩
      have e := turned_ok (h w hw).2 m (by omega)
      simp [e, fits_of]
    rcases h with ⟨a, b, rfl, rfl⟩ | ⟨nm, ws, o, l, h, rfl, rfl⟩ | ⟨s, nm, ws, o, l, h, rfl, rfl⟩
    · simp [d_turned, mDef, b_turned, start0, endD, fits_of]
    · have e1 : (w1 ws).map (fun p => PyData.tuple [p.1, p.2]) = ws.map fun w => .tuple [w.1, w.2.1] := by simp [w1, Function.comp_def]
      have e2 : (w2 ws).map (fun p => PyData.tuple [p.1, p.2]) = ws.map fun w => .tuple [w.1, w.2.2] := by simp [w2, Function.comp_def]
      have c := cp (dealD nm (w1 ws)) ws l h
      have hf : fits (ws.map fun w => PyData.tuple [w.1, w.2.1]) = true := fits_of (by simp; omega)
      simp only [dealD, ways, e1, e2] at c ⊢
      simp [d_turned, mDef, b_turned, start0, c, hf, fits_of]
    · have e1 : (w1 ws).map (fun p => PyData.tuple [p.1, p.2]) = ws.map fun w => .tuple [w.1, w.2.1] := by simp [w1, Function.comp_def]
      have e2 : (w2 ws).map (fun p => PyData.tuple [p.1, p.2]) = ws.map fun w => .tuple [w.1, w.2.2] := by simp [w2, Function.comp_def]
      have c := cp (moveD s nm (w1 ws)) ws l h
      have hf : fits (ws.map fun w => PyData.tuple [w.1, w.2.1]) = true := fits_of (by simp; omega)
      simp only [moveD, ways, e1, e2] at c ⊢
      simp [d_turned, mDef, b_turned, start0, c, hf, fits_of]
/-- is turned -/
theorem is_turned_ok : ∀ {n : Nat} {d e : PyData}, TurnR n d e → ∀ m, n ≤ m → d__law_is_turned m [.val e, .val d] = .ok (.val (.bool true))
  | 0, _, _, h, _, _ => h.elim
  | n + 1, d, e, h, 0, hm => absurd hm (by omega)
  | n + 1, d, e, h, m + 1, hm => by
    have lp : ∀ (D E : PyData) (ws : W3) (o2 : Option DL.Slot), ws.length ≤ 100 → (∀ w ∈ ws, LOk w.1 ∧ TurnR n w.2.1 w.2.2) → ixF E (.int (-1)) = .ok (.val (.tuple (ws.map fun w => .tuple [w.1, w.2.2]))) → ixF D (.int (-1)) = .ok (.val (.tuple (ws.map fun w => .tuple [w.1, w.2.1]))) →
        ∀ δ, δ = [some (.val E), some (.val D), o2, none, none] → ∃ o3 o4, mFor (mgN 3) (mRng1 (mCons (mV (mBi lenF (mCons (mR (mB ixF (mR (mVar 1)) (mR (mU negF (mR (mC (.int 1))))))) mNil))) mNil)) (mSeq (mAsg 4 (mB ixF (mR (mB ixF (mR (mVar 0)) (mR (mU negF (mR (mC (.int 1))))))) (mR (mVar 3)))) (mSeq (mIf (mOr (mNot (mTest (mIsi "tuple" (mR (mVar 4))))) (mOr (mTest (mB neF (mR (mBi lenF (mCons (mR (mVar 4)) mNil))) (mR (mC (.int 2))))) (mTest (mB neF (mR (mB ixF (mR (mVar 4)) (mR (mC (.int 0))))) (mR (mB ixF (mR (mB ixF (mR (mB ixF (mR (mVar 1)) (mR (mU negF (mR (mC (.int 1))))))) (mR (mVar 3)))) (mR (mC (.int 0))))))))) (mRet (mC (.bool false))) mNext) (mIf (mNot (mTest (mCall (d__law_is_turned m) (mACons (mB ixF (mR (mVar 4)) (mR (mC (.int 1)))) (mACons (mB ixF (mR (mB ixF (mR (mB ixF (mR (mVar 1)) (mR (mU negF (mR (mC (.int 1))))))) (mR (mVar 3)))) (mR (mC (.int 1)))) mANil))))) (mRet (mC (.bool false))) mNext))) δ = .nx [some (.val E), some (.val D), o2, o3, o4] := by
      intro D E ws o2 l h x1 x2 δ hδ
      obtain ⟨δ', e, ⟨o3, o4, rfl⟩⟩ := for_nx (g := mgN 3) (it := mRng1 (mCons (mV (mBi lenF (mCons (mR (mB ixF (mR (mVar 1)) (mR (mU negF (mR (mC (.int 1))))))) mNil))) mNil)) (b := mSeq (mAsg 4 (mB ixF (mR (mB ixF (mR (mVar 0)) (mR (mU negF (mR (mC (.int 1))))))) (mR (mVar 3)))) (mSeq (mIf (mOr (mNot (mTest (mIsi "tuple" (mR (mVar 4))))) (mOr (mTest (mB neF (mR (mBi lenF (mCons (mR (mVar 4)) mNil))) (mR (mC (.int 2))))) (mTest (mB neF (mR (mB ixF (mR (mVar 4)) (mR (mC (.int 0))))) (mR (mB ixF (mR (mB ixF (mR (mB ixF (mR (mVar 1)) (mR (mU negF (mR (mC (.int 1))))))) (mR (mVar 3)))) (mR (mC (.int 0))))))))) (mRet (mC (.bool false))) mNext) (mIf (mNot (mTest (mCall (d__law_is_turned m) (mACons (mB ixF (mR (mVar 4)) (mR (mC (.int 1)))) (mACons (mB ixF (mR (mB ixF (mR (mB ixF (mR (mVar 1)) (mR (mU negF (mR (mC (.int 1))))))) (mR (mVar 3)))) (mR (mC (.int 1)))) mANil))))) (mRet (mC (.bool false))) mNext)))
        (fun δ => ∃ o3 o4, δ = [some (.val E), some (.val D), o2, o3, o4]) (ds := rng 0 ws.length) (δ := δ) (by
          subst hδ
          have e1 : rng1 [.int (ws.length : Int)] = .ok (rng 0 ws.length) := rng1_simp (by omega)
          simp [x2, e1]) (by
          rintro d hd δ ⟨o3, o4, rfl⟩
          obtain ⟨i, hi, rfl⟩ := mem_rng hd
          have hw := h ws[i] (List.getElem_mem hi)
          have a1 : atI (ws.map fun w => PyData.tuple [w.1, w.2.2]) (i : Int) = some (.tuple [ws[i].1, ws[i].2.2]) := by rw [atI_of (by simpa using hi)]; simp
          have a2 : atI (ws.map fun w => PyData.tuple [w.1, w.2.1]) (i : Int) = some (.tuple [ws[i].1, ws[i].2.1]) := by rw [atI_of (by simpa using hi)]; simp
          have ne : neF ws[i].1 ws[i].1 = .ok (.val (.bool false)) := neF_self (by
            have := hw.1
            simp [SeqAt.shaped, this.1]
            have := this.2
            omega)
          have r := is_turned_ok hw.2 m (by omega)
          exact ⟨_, [some (.val E), some (.val D), o2, some (.val (.int (i : Int))), some (.val (.tuple [ws[i].1, ws[i].2.2]))], rfl, by simp [x1, x2, a1, a2, ne, r], ⟨_, _, rfl⟩⟩) ⟨_, _, hδ⟩
      exact ⟨o3, o4, e⟩
    rcases h with ⟨a, b, rfl, rfl⟩ | ⟨nm, ws, o, l, h, rfl, rfl⟩ | ⟨s, nm, ws, o, l, h, rfl, rfl⟩
    · have z : -a + a = 0 := by omega
      simp [d__law_is_turned, mDef, b__law_is_turned, start0, endD, z]
    · have e1 : (w1 ws).map (fun p => PyData.tuple [p.1, p.2]) = ws.map fun w => .tuple [w.1, w.2.1] := by simp [w1, Function.comp_def]
      have e2 : (w2 ws).map (fun p => PyData.tuple [p.1, p.2]) = ws.map fun w => .tuple [w.1, w.2.2] := by simp [w2, Function.comp_def]
      obtain ⟨o3, o4, f⟩ := lp (dealD nm (w1 ws)) (dealD nm (w2 ws)) ws none l h (by simp [dealD, ways, e2]) (by simp [dealD, ways, e1]) _ rfl
      have ns := neF_self (d := .str nm) (shaped_str o)
      have e0 : d__law_is_turned (m + 1) [.val (dealD nm (w2 ws)), .val (dealD nm (w1 ws))] = (b__law_is_turned (d__law_is_turned m) [some (.val (dealD nm (w2 ws))), some (.val (dealD nm (w1 ws))), none, none, none]).res := by simp [d__law_is_turned, mDef, start0]
      have st : ∀ {m n : MS} {δ : DEnv}, m δ = .nx δ → mSeq m n δ = n δ := fun h => seq_nx h
      rw [e0]
      unfold b__law_is_turned
      rw [st (by simp [dealD]), st (by simp [dealD]), st (by simp [dealD]), st (by simp [dealD, ns]), st (by simp [dealD, ways, w1, w2]), seq_nx f]
      simp
    · have e1 : (w1 ws).map (fun p => PyData.tuple [p.1, p.2]) = ws.map fun w => .tuple [w.1, w.2.1] := by simp [w1, Function.comp_def]
      have e2 : (w2 ws).map (fun p => PyData.tuple [p.1, p.2]) = ws.map fun w => .tuple [w.1, w.2.2] := by simp [w2, Function.comp_def]
      obtain ⟨o3, o4, f⟩ := lp (moveD s nm (w1 ws)) (moveD (3 - s) nm (w2 ws)) ws none l h (by simp [moveD, ways, e2]) (by simp [moveD, ways, e1]) _ rfl
      have ns := neF_self (d := .str nm) (shaped_str o)
      have e0 : d__law_is_turned (m + 1) [.val (moveD (3 - s) nm (w2 ws)), .val (moveD s nm (w1 ws))] = (b__law_is_turned (d__law_is_turned m) [some (.val (moveD (3 - s) nm (w2 ws))), some (.val (moveD s nm (w1 ws))), none, none, none]).res := by simp [d__law_is_turned, mDef, start0]
      have st : ∀ {m n : MS} {δ : DEnv}, m δ = .nx δ → mSeq m n δ = n δ := fun h => seq_nx h
      rw [e0]
      unfold b__law_is_turned
      rw [st (by simp [moveD]), st (by simp [moveD]), st (by simp [moveD, ns]), st (by simp [moveD]), st (by simp [moveD, ways, w1, w2]), seq_nx f]
      simp
/-! the law's own game -/
theorem ratio_ok2 (x : Int) : ∃ a b : Int, d__law_ratio [.val (.int x)] = .ok (.val (.tuple [.int a, .int b])) := by
  by_cases h1 : x % 5 = 4
  · exact ⟨_, _, by simp [d__law_ratio, mDef, b__law_ratio, start0, h1, fits_of]; exact ⟨rfl, rfl⟩⟩
  · by_cases h2 : x % 5 = 3
    · exact ⟨_, _, by simp [d__law_ratio, mDef, b__law_ratio, start0, h1, h2, fits_of]; exact ⟨rfl, rfl⟩⟩
    · by_cases h3 : x % 5 = 2
      · exact ⟨_, _, by simp [d__law_ratio, mDef, b__law_ratio, start0, h1, h2, h3, fits_of]; exact ⟨rfl, rfl⟩⟩
      · exact ⟨_, _, by simp [d__law_ratio, mDef, b__law_ratio, start0, h1, h2, h3, fits_of]; exact ⟨rfl, rfl⟩⟩
abbrev S36 : Str := "abcdefghijklmnopqrstuvwxyz0123456789"
theorem s36 : (tl S36).length = 36 ∧ ∀ c ∈ tl S36, c < 128 := by decide +kernel
theorem sign_at (i : Int) (h0 : 0 ≤ i) (h1 : i < 36) : ∃ c : Nat, c < 128 ∧ ixF (.str S36) (.int i) = .ok (.val (.str ⟨#[c]⟩)) := by
  obtain ⟨c, hc, e⟩ := atI_mem (xs := tl S36) h0 (by rw [s36.1]; exact h1)
  refine ⟨c, s36.2 c hc, ?_⟩
  have hl : S36.length ≤ sizeLine := Nat.le_trans (by rw [len_tl, s36.1]; decide : S36.length ≤ 100) (by decide)
  show (if S36.length ≤ sizeLine then (match atI (tl S36) i with
    | some c => okV (.str ⟨#[c]⟩)
    | none => .stuck) else .stuck) = _
  rw [if_pos hl, e]
  rfl
theorem joinL_nil : ∀ L : List (List Nat), joinL [] L = L.flatten
  | [] => rfl
  | [a] => by simp [joinL]
  | a :: b :: r => by
    have := joinL_nil (b :: r)
    simp only [joinL, List.flatten_cons] at this ⊢
    simp [this]
theorem name_ok (x : Int) : ∃ nm : Str, PyData.strOk nm = true ∧ d__law_name [.val (.int x)] = .ok (.val (.str nm)) := by
  obtain ⟨k, hk, hk2⟩ : ∃ k : Nat, 1 + x % 8 = (k : Int) ∧ k ≤ 8 := ⟨(1 + x % 8).toNat, by omega, by omega⟩
  have F := fun j : Nat => sign_at ((x / ((j : Int) + 1) + (j : Int) * (j : Int) * 5) % 36) (by omega) (by omega)
  let g : Nat → Nat := fun j => Classical.choose (F j)
  have hg : ∀ j, g j < 128 ∧ ixF (.str S36) (.int ((x / ((j : Int) + 1) + (j : Int) * (j : Int) * 5) % 36)) = .ok (.val (.str ⟨#[g j]⟩)) := fun j => Classical.choose_spec (F j)
  let ys : List Str := (List.range k).map fun j => (⟨#[g j]⟩ : Str)
  have hsum : ∀ l : List Nat, ((l.map fun j => (⟨#[g j]⟩ : Str)).map (·.length)).sum = l.length := by
    intro l
    induction l with
    | nil => rfl
    | cons a l ih => simp only [List.map_cons, List.sum_cons, ih, List.length_cons]; show 1 + l.length = _; omega
  refine ⟨Txt.join "" ys, digits_ok fun c hc => ?_, ?_⟩
  · rw [join_eq, tl_join, show tl ("" : Str) = [] from by decide, joinL_nil] at hc
    obtain ⟨l, hl, hc⟩ := List.mem_flatten.mp hc
    obtain ⟨y, hy, rfl⟩ := List.mem_map.mp hl
    obtain ⟨j, hj, rfl⟩ := List.mem_map.mp hy
    have : c = g j := by simpa [tl] using hc
    rw [this]
    exact (hg j).1
  · have ec : compR (mgN 2) mYes (mV (mB ixF (mR (mVar 1)) (mR (mB modF (mR (mB addF (mR (mB divF (mR (mVar 0)) (mR (mB addF (mR (mVar 2)) (mR (mC (.int 1))))))) (mR (mB mulF (mR (mB mulF (mR (mVar 2)) (mR (mVar 2)))) (mR (mC (.int 5))))))) (mR (mC (.int 36))))))) [some (.val (.int x)), some (.val (.str S36)), none] (rng 0 k) = .ok ((List.range k).map fun j => PyData.str ⟨#[g j]⟩) := by
      refine compR_map fun j hj => ⟨_, rfl, rfl, ?_⟩
      have hj' : j < k := List.mem_range.mp hj
      have a1 : 0 < (j : Int) + 1 := by omega
      have a2 : (j : Int) + 1 < 18446744073709551616 := by omega
      have a3 : -18446744073709551616 < (j : Int) := by omega
      have a4 : (j : Int) < 18446744073709551616 := by omega
      simp [a1, a2, a3, a4, (hg j).2]
    have e1 : rng1 [.int (k : Int)] = .ok (rng 0 k) := rng1_simp (by omega)
    have e2 : fits (rng 0 k) = true := fits_of (by simp [rng]; omega)
    have em : ((List.range k).map fun j => PyData.str ⟨#[g j]⟩) = ys.map PyData.str := by simp [ys, Function.comp_def]
    have ej : joinF (.str "") (.list (ys.map PyData.str)) = .ok (.val (.str (Txt.join "" ys))) := by
      show (match strsOf (ys.map PyData.str) with
        | some ys => if (ys.map (fun s : Str => s.length)).sum + ys.length * ("" : Str).length ≤ 16777216 then okV (.str (Txt.join "" ys)) else .stuck
        | none => .stuck) = _
      rw [strsOf_map]
      have h0 : ("" : Str).length = 0 := by decide
      have hs := hsum (List.range k)
      have hb : (ys.map (fun s : Str => s.length)).sum + ys.length * ("" : Str).length ≤ 16777216 := by
        rw [h0]
        show ((List.map (fun j => (⟨#[g j]⟩ : Str)) (List.range k)).map (fun s : Str => s.length)).sum + _ ≤ _
        rw [hs]
        simp
        omega
      simp only [if_pos hb]
      rfl
    rw [em] at ec
    simp [d__law_name, mDef, b__law_name, start0, hk, e1, e2, ec, ej]
theorem numbers_ok (ns : List Int) (hl : ns.length ≤ 63) : ∃ xs : List Int, d__law_numbers [.val (.list (ns.map PyData.int))] = .ok (.own (.list (xs.map PyData.int))) := by
  have lp : ∀ (js : List Nat) (xs : List Int) (o : Option DL.Slot), (∀ j ∈ js, j < ns.length) → xs.length + js.length ≤ 100 → ∃ (ys : List Int) (o' : Option DL.Slot), loopO (mgN 2) (mApp 1 (mV (mB modF (mR (mB mulF (mR (mB addF (mR (mB addF (mR (mB addF (mR (mB modF (mR (mB ixF (mR (mVar 0)) (mR (mVar 2)))) (mR (mC (.int 1000000007))))) (mR (mB mulF (mR (mB mulF (mR (mC (.int 41))) (mR (mVar 2)))) (mR (mVar 2)))))) (mR (mB mulF (mR (mC (.int 13))) (mR (mVar 2)))))) (mR (mC (.int 3))))) (mR (mC (.int 16807))))) (mR (mC (.int 1000003)))))) (js.map fun (i : Nat) => PyData.int (0 + (i : Int))) [some (.val (.list (ns.map PyData.int))), some (.own (.list (xs.map PyData.int))), o] = .nx [some (.val (.list (ns.map PyData.int))), some (.own (.list (ys.map PyData.int))), o'] := by
    intro js
    induction js with
    | nil => intro xs o _ _; exact ⟨xs, o, rfl⟩
    | cons j js ih =>
      intro xs o hj hb
      have hj0 := hj j List.mem_cons_self
      have ek : atI (ns.map PyData.int) (j : Int) = some (.int ns[j]) := by rw [atI_of (by simpa using hj0)]; simp
      have a3 : -18446744073709551616 < (j : Int) := by omega
      have a4 : (j : Int) < 18446744073709551616 := by omega
      have hz : xs.length < sizeLine := lt_sizeLine (by simp at hb; omega)
      obtain ⟨ys, o', e⟩ := ih (xs ++ [(ns[j] % 1000000007 + 41 * (j : Int) * (j : Int) + 13 * (j : Int) + 3) * 16807 % 1000003]) (some (.val (.int (j : Int)))) (fun i hi => hj i (List.mem_cons_of_mem _ hi)) (by simp at hb ⊢; omega)
      refine ⟨ys, o', ?_⟩
      simp [ek, a3, a4, hz]
      simpa using e
  obtain ⟨ys, o', e⟩ := lp (List.range (min 40 ns.length)) [] none (fun j hj => by have := List.mem_range.mp hj; omega) (by simp; omega)
  have e1 : rng1 [.int ((min 40 ns.length : Nat) : Int)] = .ok (rng 0 (min 40 ns.length)) := rng1_simp (by omega)
  refine ⟨ys, ?_⟩
  have e' : loopO (mgN 2) _ (rng 0 (min 40 ns.length)) _ = _ := e
  simp [d__law_numbers, mDef, b__law_numbers, start0, cutD_to]
  rw [e1]
  simp at e'
  simp [e']
/-- the parts, one after another -/
theorem parts_ok {m n : Nat} {deep : Int} (rec : ∀ xs : List Int, ∃ (d e : PyData) (ys : List Int), d__law_grown m [.lent (.list (xs.map PyData.int)), .val (.int (deep - 1))] = .ok (d, .list (ys.map PyData.int)) ∧ TurnR n d e)
    {i : Nat} {lab : PyData → PyData} {em : MM} {δ0 : List Int → DEnv} (hset : ∀ xs ys : List Int, ∀ v, wipeD (((δ0 xs).set i (some (.val v))).set 0 (some (.lent (.list (ys.map PyData.int))))) [i] = δ0 ys)
    (he : ∀ (v : PyData) (xs : List Int) (d : PyData) (ys : List Int), d__law_grown m [.lent (.list (xs.map PyData.int)), .val (.int (deep - 1))] = .ok (d, .list (ys.map PyData.int)) → em ((δ0 xs).set i (some (.val v))) = .ok (.tuple [lab v, d], ((δ0 xs).set i (some (.val v))).set 0 (some (.lent (.list (ys.map PyData.int)))))) :
    ∀ (ds : List PyData) (xs : List Int), (∀ v ∈ ds, LOk (lab v)) → ∃ (ws : W3) (ys : List Int), ws.length = ds.length ∧ (∀ w ∈ ws, LOk w.1 ∧ TurnR n w.2.1 w.2.2) ∧ compM (mgN i) em [i] ds (δ0 xs) = .ok (ws.map fun w => .tuple [w.1, w.2.1], δ0 ys)
  | [], xs, _ => ⟨[], xs, rfl, by simp, rfl⟩
  | v :: ds, xs, hl => by
    obtain ⟨d, e, ys, h1, h2⟩ := rec xs
    obtain ⟨ws, zs, g1, g2, g3⟩ := parts_ok rec hset he ds ys fun v hv => hl v (List.mem_cons_of_mem _ hv)
    refine ⟨(lab v, d, e) :: ws, zs, by simp [g1], ?_, ?_⟩
    · intro w hw
      rcases List.mem_cons.mp hw with rfl | hw
      · exact ⟨hl v List.mem_cons_self, h2⟩
      · exact g2 w hw
    · unfold compM
      simp only [mgN_ap, he v xs d ys h1, hset, g3]
      rfl
@[simp] theorem emP_ap {m : MD} {δ : DEnv} : emP m δ = (m δ).bind fun d => .ok (d, δ) := (rfl)
@[simp] theorem emNil_ap {δ : DEnv} : emNil δ = .ok ([], δ) := (rfl)
@[simp] theorem emCons_ap {m : MM} {n : MML} {δ : DEnv} : emCons m n δ = (m δ).bind fun r => (n r.2).bind fun s => .ok (r.1 :: s.1, s.2) := (rfl)
@[simp] theorem emTup_ap {m : MML} {δ : DEnv} : emTup m δ = (m δ).bind fun r => if fits r.1 = true then .ok (.tuple r.1, r.2) else .stuck := (rfl)
@[simp] theorem emBi_ap {f : List PyData → Res DL.Slot} {m : MML} {δ : DEnv} : emBi f m δ = (m δ).bind fun r => (f r.1).bind fun s => s.vl.bind fun d => .ok (d, r.2) := (rfl)
@[simp] theorem mRetM_ap {l : Nat} {m : MM} {δ : DEnv} : mRetM l m δ = (match m δ with
  | .ok r => (match r.2[l]? with
    | some (some (.lent c)) => .rm (.val r.1) c
    | _ => .stuck)
  | _ => .stuck) := (rfl)
@[simp] theorem amVal_ap {m : MD} {n : DEnv → Res (List DL.Slot)} {δ : DEnv} : amVal m n δ = (m δ).bind fun d => (n δ).bind fun ss => .ok (.val d :: ss) := (rfl)
@[simp] theorem amLent_ap {i : Nat} {n : DEnv → Res (List DL.Slot)} {δ : DEnv} : amLent i n δ = (match δ[i]? with
  | some (some (.own d)) => (n δ).bind fun ss => .ok (.lent d :: ss)
  | some (some (.lent d)) => (n δ).bind fun ss => .ok (.lent d :: ss)
  | _ => .stuck) := (rfl)
@[simp] theorem emCall_ap {i : Nat} {f : FM} {m : DEnv → Res (List DL.Slot)} {δ : DEnv} : emCall i f m δ = (m δ).bind fun ss => (f ss).bind fun r => (match δ[i]? with
  | some (some (.own _)) => .ok (r.1, δ.set i (some (.own r.2)))
  | some (some (.lent _)) => .ok (r.1, δ.set i (some (.lent r.2)))
  | _ => .stuck) := (rfl)
theorem emComp_of {vs : List Nat} {g : MG} {it : ML} {m : MM} {δ δ' : DEnv} {ds ys : List PyData} (h1 : it δ = .ok ds) (h2 : fits ds = true) (h3 : allOff vs δ = true) (h4 : compM g m vs ds δ = .ok (ys, δ')) : emComp vs g it m δ = .ok (.list ys, δ') := by
  unfold emComp
  rw [h1]
  simp only
  rw [if_pos ⟨h2, h3⟩, h4]
  rfl
theorem pop_ok (xs : List Int) (D : PyData) : ∃ (x : Int) (ys : List Int), mSeq (mAsg 2 (mC (.int 0))) (mIf (mTest (mB gtF (mR (mBi lenF (mCons (mR (mVar 0)) mNil))) (mR (mC (.int 0))))) (mPopG 0 (mgN 2)) mNext) [some (.lent (.list (xs.map PyData.int))), some (.val D), none, none, none, none, none] = .nx [some (.lent (.list (ys.map PyData.int))), some (.val D), some (.val (.int x)), none, none, none, none] := by
  rcases List.eq_nil_or_concat xs with rfl | ⟨zs, x, rfl⟩
  · exact ⟨0, [], by simp⟩
  · have hp : 0 < (zs.length : Int) + 1 := by omega
    refine ⟨x, zs, ?_⟩
    simp [hp, mPopG, popD, tgtO]
theorem grown_ok : ∀ (n : Nat) (xs : List Int), ∃ (d e : PyData) (ys : List Int), d__law_grown (n + 1) [.lent (.list (xs.map PyData.int)), .val (.int (n : Int))] = .ok (d, .list (ys.map PyData.int)) ∧ TurnR (n + 1) d e := by
  intro n
  induction n with
  | zero =>
    intro xs
    obtain ⟨x, ys, hp⟩ := pop_ok xs (.int ((0 : Nat) : Int))
    obtain ⟨a, b, hr⟩ := ratio_ok2 (x / 6)
    refine ⟨endD a b, endD (0 - a) b, ys, ?_, .inl ⟨a, b, rfl, rfl⟩⟩
    show mDefM 7 2 (b__law_grown (d__law_grown 0)) _ = _
    simp only [mDefM, start0, once, noLent]
    simp only [b__law_grown, List.length_cons, List.length_nil, List.map_cons, List.map_nil, List.cons_append, List.nil_append, List.replicate]
    rw [seq_seq, seq_nx hp]
    simp [hr, endD, fits_of]
  | succ n ih =>
    intro xs
    obtain ⟨x, ys, hp⟩ := pop_ok xs (.int ((n + 1 : Nat) : Int))
    show ∃ d e ys, mDefM 7 2 (b__law_grown (d__law_grown (n + 1))) _ = _ ∧ _
    simp only [mDefM, start0, once, noLent]
    simp only [b__law_grown, List.length_cons, List.length_nil, List.map_cons, List.map_nil, List.cons_append, List.nil_append, List.replicate]
    rw [seq_seq, seq_nx hp]
    have hd : ((n + 1 : Nat) : Int) ≠ 0 := by omega
    have hd1 : ((n + 1 : Nat) : Int) - 1 = (n : Int) := by omega
    have hrec : ∀ zs : List Int, ∃ (d e : PyData) (ys : List Int), d__law_grown (n + 1) [.lent (.list (zs.map PyData.int)), .val (.int (((n + 1 : Nat) : Int) - 1))] = .ok (d, .list (ys.map PyData.int)) ∧ TurnR (n + 1) d e := by rw [hd1]; exact ih
    generalize ((n + 1 : Nat) : Int) = deep at hd hrec
    obtain ⟨a, b, hr⟩ := ratio_ok2 (x / 6)
    by_cases hend : ys = [] ∨ x % 6 = 0
    · refine ⟨endD a b, endD (0 - a) b, ys, ?_, .inl ⟨a, b, rfl, rfl⟩⟩
      rcases hend with rfl | h6
      · simp [hr, endD, fits_of, hd]
      · by_cases hy : ys = []
        · subst hy; simp [hr, endD, fits_of, hd]
        · simp [hr, endD, fits_of, hd, h6, hy]
    · have hy : ¬ ys = [] := fun z => hend (.inl z)
      have h6 : ¬ x % 6 = 0 := fun z => hend (.inr z)
      by_cases h3 : x % 6 < 3
      · obtain ⟨nm, hok, hnm⟩ := name_ok (x / 2)
        obtain ⟨k, hk, hk2⟩ : ∃ k : Nat, 1 + x / 6 % 3 = (k : Int) ∧ k ≤ 3 := ⟨(1 + x / 6 % 3).toNat, by omega, by omega⟩
        obtain ⟨ws, zs, g1, g2, g3⟩ := parts_ok (i := 5) (lab := fun _ => .tuple [.int 1, .int (k : Int)]) (em := emTup (emCons (emP (mV (mTup (mCons (mV (mC (.int 1))) (mCons (mV (mVar 3)) mNil))))) (emCons (emCall 0 (d__law_grown (n + 1)) (amLent 0 (amVal (mV (mB subF (mR (mVar 1)) (mR (mC (.int 1))))) mANil))) emNil)))
          (δ0 := fun xs => [some (.lent (.list (xs.map PyData.int))), some (.val (.int deep)), some (.val (.int x)), some (.val (.int (k : Int))), none, none, none]) hrec (by intro xs ys v; simp) (by intro v xs d ys h; simp [fits_of, h]) (rng 0 k) ys (by intro v _; exact ⟨by simp [PyData.canLay0, PyData.canLayAll0], by simp [PyData.depth, PyData.depthAll]⟩)
        have c := emComp_of (it := mRng1 (mCons (mV (mVar 3)) mNil)) (δ := [some (.lent (.list (ys.map PyData.int))), some (.val (.int deep)), some (.val (.int x)), some (.val (.int (k : Int))), none, none, none]) (by simp; exact rng1_simp (by omega)) (fits_of (by simp [rng]; omega)) (by simp [allOff]) g3
        refine ⟨dealD nm (w1 ws), dealD nm (w2 ws), zs, ?_, .inr (.inl ⟨nm, ws, hok, by rw [g1]; simp [rng]; omega, g2, rfl, rfl⟩)⟩
        have e1 : (w1 ws).map (fun p => PyData.tuple [p.1, p.2]) = ws.map fun w => .tuple [w.1, w.2.1] := by simp [w1, Function.comp_def]
        simp [hd, h6, hy, h3, hk, hnm, c, fits_of, dealD, ways, e1]
      · obtain ⟨nm, hok, hnm⟩ := name_ok (x / 5)
        have hlog : (x % 100).natAbs.log2 < 1920 := Nat.lt_trans (log2_lt (k := 7) (by decide) (by omega)) (by decide)
        have sb := strF_iS hlog
        have lb : (iS (x % 100)).length ≤ 3 := len_int (k := 2) (by decide) (by omega)
        have ab := addF_str (x := ("b" : Str)) (y := iS (x % 100)) (by
          have : ("b" : Str).length = 1 := by decide
          omega)
        have okb : PyData.strOk (("b" : Str) ++ iS (x % 100)) = true := digits_ok fun c hc => by
          rw [tl_append] at hc
          rcases List.mem_append.mp hc with hc | hc
          · have : ∀ c ∈ tl ("b" : Str), c < 128 := by decide
            exact this c hc
          · rw [tl_int, if_neg (by omega)] at hc
            have := numL_digits _ c (by simpa using hc)
            omega
        have oka : PyData.strOk "a" = true := by decide +kernel
        have okc : PyData.strOk "c" = true := by decide +kernel
        generalize hB : ("b" : Str) ++ iS (x % 100) = wb at ab okb
        obtain ⟨k, hk, hk2⟩ : ∃ k : Nat, 1 + x / 6 % 3 = (k : Int) ∧ k ≤ 3 := ⟨(1 + x / 6 % 3).toNat, by omega, by omega⟩
        generalize hds : [PyData.str "a", .str wb, .str "c"].take k = ds
        have hcut : cutD [PyData.str "a", .str wb, .str "c"] none (some (k : Int)) = ds := by rw [cutD_to (by omega), Int.toNat_natCast, hds]
        have hdm : ∀ v ∈ ds, LOk v := by
          intro v hv
          rw [← hds] at hv
          have := List.mem_of_mem_take hv
          simp only [List.mem_cons, List.not_mem_nil, or_false] at this
          rcases this with rfl | rfl | rfl
          · exact ⟨by simpa [PyData.canLay0] using oka, by simp [PyData.depth]⟩
          · exact ⟨by simpa [PyData.canLay0] using okb, by simp [PyData.depth]⟩
          · exact ⟨by simpa [PyData.canLay0] using okc, by simp [PyData.depth]⟩
        have hdl : ds.length ≤ 3 := by rw [← hds]; simp; omega
        obtain ⟨ws, zs, g1, g2, g3⟩ := parts_ok (i := 6) (lab := fun v => v) (em := emTup (emCons (emP (mV (mVar 6))) (emCons (emCall 0 (d__law_grown (n + 1)) (amLent 0 (amVal (mV (mB subF (mR (mVar 1)) (mR (mC (.int 1))))) mANil))) emNil)))
          (δ0 := fun xs => [some (.lent (.list (xs.map PyData.int))), some (.val (.int deep)), some (.val (.int x)), none, some (.val (.list ds)), none, none]) hrec (by intro xs ys v; simp) (by intro v xs d ys h; simp [fits_of, h]) ds ys hdm
        have c := emComp_of (it := miV 4) (δ := [some (.lent (.list (ys.map PyData.int))), some (.val (.int deep)), some (.val (.int x)), none, some (.val (.list ds)), none, none]) (by simp) (fits_of (by omega)) (by simp [allOff]) g3
        refine ⟨moveD (1 + x / 3 % 2) nm (w1 ws), moveD (3 - (1 + x / 3 % 2)) nm (w2 ws), zs, ?_, .inr (.inr ⟨_, nm, ws, hok, by rw [g1]; omega, g2, rfl, rfl⟩)⟩
        have e1 : (w1 ws).map (fun p => PyData.tuple [p.1, p.2]) = ws.map fun w => .tuple [w.1, w.2.1] := by simp [w1, Function.comp_def]
        simp [hd, h6, hy, h3, hk, hnm, sb, ab, hcut, frz, c, fits_of, moveD, ways, e1]
theorem law_ok (ns : List Int) (hl : ns.length ≤ 63) : d_law [.val (.list (ns.map PyData.int))] = .ok (.val (.bool true)) := by
  obtain ⟨xs, hx⟩ := numbers_ok ns hl
  obtain ⟨d, e, ys, hg, ht⟩ := grown_ok 5 xs
  have hg' : d__law_grown 6 [.lent (.list (xs.map PyData.int)), .val (.int 5)] = .ok (d, .list (ys.map PyData.int)) := hg
  have t1 := turned_ok ht 8 (by decide)
  have t2 := turned_ok ht.symm 8 (by decide)
  have t3 := is_turned_ok ht 8 (by decide)
  have s1 := eqF_self (ht.shaped (by decide))
  have s2 := eqF_self (ht.symm.shaped (by decide))
  simp [d_law, mDef, b_law, start0, mCallTmp, hx, hg', t1, t2, t3, s1, s2, frz]
/-! ### the end -/
def ecOf  : EC → Addr
  | .DuelError => 0
  | .NoNumber => 0
  | .NoText => 0
  | .TooGreat => 0
  | .NoPlan => 0
  | .NoWord => 0
  | .NoPlace => 0
  | .NoName => 0
  | .NoRow => 0
  | .NoShares => 0
  | .Unlike => 0
  | .Forgets => 0
theorem all_mk {l : PySem.W.OpenLaw} {w : World} {K : PySem.W.Frag} {h : Heap} {mg : Str → Option Value} {fa f_turned f__law_numbers f__law_name f__law_ratio f__law_grown f__law_is_turned f_law : Addr} (X : K.In h) (G : h.Ns mainGlobals mg) (hfa : mg "law" = some (.ref fa))
    {od_turned an_turned od__law_numbers an__law_numbers od__law_name an__law_name od__law_ratio an__law_ratio od__law_grown an__law_grown od__law_is_turned an__law_is_turned od_law an_law : Option Addr} {sl_turned sl__law_numbers sl__law_name sl__law_ratio sl__law_grown sl__law_is_turned sl_law : Array (Option Value)} {oc_turned kV_turned dc_turned pm_turned cd_turned ct_turned oc__law_numbers kV__law_numbers dc__law_numbers pm__law_numbers cd__law_numbers ct__law_numbers oc__law_name kV__law_name dc__law_name pm__law_name cd__law_name ct__law_name oc__law_ratio kV__law_ratio dc__law_ratio pm__law_ratio cd__law_ratio ct__law_ratio oc__law_grown kV__law_grown dc__law_grown pm__law_grown cd__law_grown ct__law_grown oc__law_is_turned kV__law_is_turned dc__law_is_turned pm__law_is_turned cd__law_is_turned ct__law_is_turned oc_law kV_law dc_law pm_law cd_law ct_law : Value}
    (a_turned : PySem.W.nsIn K mainGlobals "turned" = some (some (.ref f_turned)))
    (l_turned : K.lookup f_turned = some ⟨oc_turned, od_turned, .func (PySem.W.fnOf "turned" "turned" (defArgs s_turned) (defBody s_turned) (defScope s_turned) .none kV_turned dc_turned pm_turned an_turned cd_turned ct_turned), sl_turned⟩)
    (q_turned : PySem.W.codeIn K cd_turned "turned" = true)
    (p_turned : PySem.W.keepIn K (.ref f_turned) = true)
    (a__law_numbers : PySem.W.nsIn K mainGlobals "_law_numbers" = some (some (.ref f__law_numbers)))
    (l__law_numbers : K.lookup f__law_numbers = some ⟨oc__law_numbers, od__law_numbers, .func (PySem.W.fnOf "_law_numbers" "_law_numbers" (defArgs s__law_numbers) (defBody s__law_numbers) (defScope s__law_numbers) .none kV__law_numbers dc__law_numbers pm__law_numbers an__law_numbers cd__law_numbers ct__law_numbers), sl__law_numbers⟩)
    (q__law_numbers : PySem.W.codeIn K cd__law_numbers "_law_numbers" = true)
    (p__law_numbers : PySem.W.keepIn K (.ref f__law_numbers) = true)
    (a__law_name : PySem.W.nsIn K mainGlobals "_law_name" = some (some (.ref f__law_name)))
    (l__law_name : K.lookup f__law_name = some ⟨oc__law_name, od__law_name, .func (PySem.W.fnOf "_law_name" "_law_name" (defArgs s__law_name) (defBody s__law_name) (defScope s__law_name) .none kV__law_name dc__law_name pm__law_name an__law_name cd__law_name ct__law_name), sl__law_name⟩)
    (q__law_name : PySem.W.codeIn K cd__law_name "_law_name" = true)
    (p__law_name : PySem.W.keepIn K (.ref f__law_name) = true)
    (a__law_ratio : PySem.W.nsIn K mainGlobals "_law_ratio" = some (some (.ref f__law_ratio)))
    (l__law_ratio : K.lookup f__law_ratio = some ⟨oc__law_ratio, od__law_ratio, .func (PySem.W.fnOf "_law_ratio" "_law_ratio" (defArgs s__law_ratio) (defBody s__law_ratio) (defScope s__law_ratio) .none kV__law_ratio dc__law_ratio pm__law_ratio an__law_ratio cd__law_ratio ct__law_ratio), sl__law_ratio⟩)
    (q__law_ratio : PySem.W.codeIn K cd__law_ratio "_law_ratio" = true)
    (p__law_ratio : PySem.W.keepIn K (.ref f__law_ratio) = true)
    (a__law_grown : PySem.W.nsIn K mainGlobals "_law_grown" = some (some (.ref f__law_grown)))
    (l__law_grown : K.lookup f__law_grown = some ⟨oc__law_grown, od__law_grown, .func (PySem.W.fnOf "_law_grown" "_law_grown" (defArgs s__law_grown) (defBody s__law_grown) (defScope s__law_grown) .none kV__law_grown dc__law_grown pm__law_grown an__law_grown cd__law_grown ct__law_grown), sl__law_grown⟩)
    (q__law_grown : PySem.W.codeIn K cd__law_grown "_law_grown" = true)
    (p__law_grown : PySem.W.keepIn K (.ref f__law_grown) = true)
    (a__law_is_turned : PySem.W.nsIn K mainGlobals "_law_is_turned" = some (some (.ref f__law_is_turned)))
    (l__law_is_turned : K.lookup f__law_is_turned = some ⟨oc__law_is_turned, od__law_is_turned, .func (PySem.W.fnOf "_law_is_turned" "_law_is_turned" (defArgs s__law_is_turned) (defBody s__law_is_turned) (defScope s__law_is_turned) .none kV__law_is_turned dc__law_is_turned pm__law_is_turned an__law_is_turned cd__law_is_turned ct__law_is_turned), sl__law_is_turned⟩)
    (q__law_is_turned : PySem.W.codeIn K cd__law_is_turned "_law_is_turned" = true)
    (p__law_is_turned : PySem.W.keepIn K (.ref f__law_is_turned) = true)
    (a_law : PySem.W.nsIn K mainGlobals "law" = some (some (.ref f_law)))
    (l_law : K.lookup f_law = some ⟨oc_law, od_law, .func (PySem.W.fnOf "law" "law" (defArgs s_law) (defBody s_law) (defScope s_law) .none kV_law dc_law pm_law an_law cd_law ct_law), sl_law⟩)
    (q_law : PySem.W.codeIn K cd_law "law" = true)
    (p_law : PySem.W.keepIn K (.ref f_law) = true)
    (zb_bool : PySem.W.nsIn K mainGlobals "bool" = some none)
    (zb_isinstance : PySem.W.nsIn K mainGlobals "isinstance" = some none)
    (zb_len : PySem.W.nsIn K mainGlobals "len" = some none)
    (zb_range : PySem.W.nsIn K mainGlobals "range" = some none)
    (zb_str : PySem.W.nsIn K mainGlobals "str" = some none)
    (zb_tuple : PySem.W.nsIn K mainGlobals "tuple" = some none)
    : ∃ fd : FuncData, (∀ (s : Shared) (v : Value), BindsTo s fd ⟨[v], []⟩ [("_law_script", v)]) ∧ ∀ base : Heap, K.In base → base.Ns mainGlobals mg → FnOk l.prog w K mg base (L2.CX l.prog w) 10 fa fd P_law (spD ⟨K, ecOf , fun _ _ => False, none⟩ d_law) := by
  have e := hfa.symm.trans (PySem.W.mg_of X G a_law)
  cases e
  have T : Txt K mg (ecOf ) := {
    b_bool := PySem.W.mg_none_of X G zb_bool
    b_isinstance := PySem.W.mg_none_of X G zb_isinstance
    b_len := PySem.W.mg_none_of X G zb_len
    b_range := PySem.W.mg_none_of X G zb_range
    b_str := PySem.W.mg_none_of X G zb_str
    b_tuple := PySem.W.mg_none_of X G zb_tuple
  }
  have L_turned : Ln K mg "turned" s_turned P_turned := ⟨f_turned, _, fun_mk (st := s_turned) l_turned q_turned p_turned, PySem.W.mg_of X G a_turned, (fun_mk (st := s_turned) l_turned q_turned p_turned).binds (ps := P_turned) fun _ _ _ _ _ _ us hl => match us, hl with | [_], _ => rfl⟩
  have L__law_numbers : Ln K mg "_law_numbers" s__law_numbers P__law_numbers := ⟨f__law_numbers, _, fun_mk (st := s__law_numbers) l__law_numbers q__law_numbers p__law_numbers, PySem.W.mg_of X G a__law_numbers, (fun_mk (st := s__law_numbers) l__law_numbers q__law_numbers p__law_numbers).binds (ps := P__law_numbers) fun _ _ _ _ _ _ us hl => match us, hl with | [_], _ => rfl⟩
  have L__law_name : Ln K mg "_law_name" s__law_name P__law_name := ⟨f__law_name, _, fun_mk (st := s__law_name) l__law_name q__law_name p__law_name, PySem.W.mg_of X G a__law_name, (fun_mk (st := s__law_name) l__law_name q__law_name p__law_name).binds (ps := P__law_name) fun _ _ _ _ _ _ us hl => match us, hl with | [_], _ => rfl⟩
  have L__law_ratio : Ln K mg "_law_ratio" s__law_ratio P__law_ratio := ⟨f__law_ratio, _, fun_mk (st := s__law_ratio) l__law_ratio q__law_ratio p__law_ratio, PySem.W.mg_of X G a__law_ratio, (fun_mk (st := s__law_ratio) l__law_ratio q__law_ratio p__law_ratio).binds (ps := P__law_ratio) fun _ _ _ _ _ _ us hl => match us, hl with | [_], _ => rfl⟩
  have L__law_grown : Ln K mg "_law_grown" s__law_grown P__law_grown := ⟨f__law_grown, _, fun_mk (st := s__law_grown) l__law_grown q__law_grown p__law_grown, PySem.W.mg_of X G a__law_grown, (fun_mk (st := s__law_grown) l__law_grown q__law_grown p__law_grown).binds (ps := P__law_grown) fun _ _ _ _ _ _ us hl => match us, hl with | [_, _], _ => rfl⟩
  have L__law_is_turned : Ln K mg "_law_is_turned" s__law_is_turned P__law_is_turned := ⟨f__law_is_turned, _, fun_mk (st := s__law_is_turned) l__law_is_turned q__law_is_turned p__law_is_turned, PySem.W.mg_of X G a__law_is_turned, (fun_mk (st := s__law_is_turned) l__law_is_turned q__law_is_turned p__law_is_turned).binds (ps := P__law_is_turned) fun _ _ _ _ _ _ us hl => match us, hl with | [_, _], _ => rfl⟩
  refine ⟨PySem.W.fnOf "law" "law" (defArgs s_law) (defBody s_law) (defScope s_law) .none kV_law dc_law pm_law an_law cd_law ct_law, fun s v => .of_eq rfl, fun base _ _ => ?_⟩
  have F_turned : Fd l.prog w K mg base _ "turned" P_turned 9 (Pg.d_turned 8) := ok_turned T  L_turned 8
  have F__law_numbers : Fd l.prog w K mg base _ "_law_numbers" P__law_numbers 1 d__law_numbers := ok__law_numbers T  L__law_numbers
  have F__law_name : Fd l.prog w K mg base _ "_law_name" P__law_name 1 d__law_name := ok__law_name T  L__law_name
  have F__law_ratio : Fd l.prog w K mg base _ "_law_ratio" P__law_ratio 1 d__law_ratio := ok__law_ratio T  L__law_ratio
  have F__law_grown : FdM l.prog w K mg base _ "_law_grown" P__law_grown 8 (d__law_grown 6) := ok__law_grown T F__law_name F__law_ratio L__law_grown 6
  have F__law_is_turned : Fd l.prog w K mg base _ "_law_is_turned" P__law_is_turned 9 (d__law_is_turned 8) := ok__law_is_turned T  L__law_is_turned 8
  exact ok_law T F__law_is_turned F_turned F__law_grown F__law_numbers (fun_mk (st := s_law) l_law q_law p_law)
theorem walk {l : PySem.W.OpenLaw} {q : Program} {loose : List Str} {XP : (Str → Option Value) → Heap → Prop} {YP : World → Heap → Prop} {d : DefRec} {K : Params → PySem.W.Frag} (hn : l.most = some 63) (hdf : d.params.defaults = [])
    (hY : ∀ (w : World) (h : Heap), YP w h → (K w.params).In h) {ec : EC → Addr}
    (F : ∀ (w : World) (mg : Str → Option Value) (fa : Addr) (h : Heap), (K w.params).In h → h.Ns mainGlobals mg → mg d.name = some (.ref fa) →
      ∃ fd : FuncData, (∀ (s : Shared) (u : Value), BindsTo s fd ⟨[u], []⟩ [("_law_script", u)]) ∧ ∀ base : Heap, (K w.params).In base → base.Ns mainGlobals mg → FnOk l.prog w (K w.params) mg base (L2.CX l.prog w) 10 fa fd P_law (spD ⟨K w.params, ec, fun _ _ => False, none⟩ d_law)) :
    PySem.W.WalkO q loose XP YP l.row.toRowW d [] (fun f vs => PySem.call f vs) :=
  L2.walk_ofB (n := 63) (k := 10) (x := "_law_script") (CX := fun w => L2.CX l.prog w) (sp := fun w => spD ⟨K w.params, ec, fun _ _ => False, none⟩ d_law) hn (by decide) hdf ⟨rfl, by decide, by decide⟩ hY F (fun _ _ a ns hl hb _ hS => law_sp hS (law_ok ns hl)) fun _ _ _ _ _ z => cx_none z
end Gk08
open PySem PySem.W PyProof.Rows in
set_option maxRecDepth 100000 in
set_option maxHeartbeats 0 in
theorem PySem.Challenge.cw_hushduel_k08_sides_exchanged_holds : PySem.Challenge.rw_hushduel_k08_sides_exchanged.Holds := by
  w_on; o_law; k_head; (case hw => w_witness2)
  k_fill
  refine' Gk08.walk (l := PySem.Challenge.rw_hushduel_k08_sides_exchanged) (ec := Gk08.ecOf ) rfl rfl (fun w h Y => PySem.W.kIn_of Y) ?F
  case F =>
    intro w mg fa h KX G hmg
    refine' Gk08.all_mk KX G hmg ?a_turned ?l_turned ?q_turned ?p_turned ?a__law_numbers ?l__law_numbers ?q__law_numbers ?p__law_numbers ?a__law_name ?l__law_name ?q__law_name ?p__law_name ?a__law_ratio ?l__law_ratio ?q__law_ratio ?p__law_ratio ?a__law_grown ?l__law_grown ?q__law_grown ?p__law_grown ?a__law_is_turned ?l__law_is_turned ?q__law_is_turned ?p__law_is_turned ?a_law ?l_law ?q_law ?p_law ?zb_bool ?zb_isinstance ?zb_len ?zb_range ?zb_str ?zb_tuple
    (case a_turned => k_is)
    (case l_turned => k_is)
    (case q_turned => k_is)
    (case p_turned => k_is)
    (case a__law_numbers => k_is)
    (case l__law_numbers => k_is)
    (case q__law_numbers => k_is)
    (case p__law_numbers => k_is)
    (case a__law_name => k_is)
    (case l__law_name => k_is)
    (case q__law_name => k_is)
    (case p__law_name => k_is)
    (case a__law_ratio => k_is)
    (case l__law_ratio => k_is)
    (case q__law_ratio => k_is)
    (case p__law_ratio => k_is)
    (case a__law_grown => k_is)
    (case l__law_grown => k_is)
    (case q__law_grown => k_is)
    (case p__law_grown => k_is)
    (case a__law_is_turned => k_is)
    (case l__law_is_turned => k_is)
    (case q__law_is_turned => k_is)
    (case p__law_is_turned => k_is)
    (case a_law => k_is)
    (case l_law => k_is)
    (case q_law => k_is)
    (case p_law => k_is)
    (case zb_bool => k_is)
    (case zb_isinstance => k_is)
    (case zb_len => k_is)
    (case zb_range => k_is)
    (case zb_str => k_is)
    (case zb_tuple => k_is)
