import PyProof.Rows.All
import Wide.All
import OpenK.AllK
import Wide.FinOn
import HandS.ForMost
import HandS.Exc
import HandS.ExcOwn
import HandS.TryOnly
import HandS.WordsExc
import HandS.IsInst
import HandS.ExcIs
import HandS.Style
import HandS.Wide
import HandS.Deep
import KE.KDictKeyed
import KE.KDictWalk
import HandS.TupAny
import HandS.More
import HandS.Small
import HandS.EndBits
import HandS.Text
import HandS.RevRange
import HandS.TupLen
import HandS.Conv
import KE.KDictCopyH
import HandS.Strs
import PyProof.StrBlock2
import HandS.DictComp
import PySem.Challenge.RW_hushduel_k70_plans_as_text
set_option Elab.async false
set_option linter.all false
set_option maxRecDepth 100000
set_option maxHeartbeats 4000000
/-! DLa: data without the heap, and how the heap bears it -/
namespace DL
open PySem L2
/-! ### 1. words -/
/-- the classes of refusal -/
inductive EC | DuelError | NoNumber | NoText | TooGreat | NoPlan | NoWord | NoPlace | NoName | NoRow | NoShares | Unlike | Forgets
  deriving DecidableEq
structure Exn where
  c : EC
  fs : List (Str × PyData) := []
/-- a thing with parts of one's own: d lasts; f is a list or dict of one's own, all in it lasts; l, m, p, o: a list, a dict, a tuple, an object of such -/
inductive T where
  | d (x : PyData) | f (x : PyData) | l (xs : List T) | m (kvs : List (Key × T)) | p (xs : List T) | o (fs : List (Str × T))
inductive Slot where
  | val (d : PyData) | own (d : PyData) | bor (d : PyData) | tr (t : T) | bt (t : T) | exn (x : Exn)
abbrev DEnv := List (Option Slot)
inductive Res (α : Type) where
  | ok (a : α) | exc (x : Exn) | stuck
inductive Out where
  | nx (δ : DEnv) | rt (s : Slot) (δ : DEnv) | bk (δ : DEnv) | ct (δ : DEnv) | ex (x : Exn) (δ : DEnv) | stuck
def Res.bind {α β : Type} (r : Res α) (f : α → Res β) : Res β := match r with
  | .ok a => f a
  | .exc x => .exc x
  | .stuck => .stuck
theorem bind_ok {α β : Type} (a : α) (f : α → Res β) : (Res.ok a).bind f = f a := rfl
theorem bind_exc {α β : Type} (x : Exn) (f : α → Res β) : (Res.exc x : Res α).bind f = .exc x := rfl
theorem bind_stuck {α β : Type} (f : α → Res β) : (Res.stuck : Res α).bind f = .stuck := rfl
/-! ### 2. how a heap bears data -/
/-- the written part, the world -/
structure Kw where
  K : PySem.W.Frag
  w : World
instance : Coe Kw PySem.W.Frag := ⟨Kw.K⟩
abbrev _root_.L2.Cx.kw (X : Cx) : Kw := ⟨X.K, X.w⟩
def keyD : Key → PyData
  | .inl i => .int i
  | .inr s => .str s
/-- a dict whose keys are tuples, nested as they are: keys, where they stand, values -/
def dnOk (w : World) (a : Addr) (l : List (NestedKey × Addr × V)) (h : Heap) : Prop :=
  (a == sysModules) = false ∧ ∃ (xs : List (NestedKey × Addr × Value)) (o : Obj) (es : Array DictEntry) (ep : Nat), Paired (fun p q => p.1 = q.1 ∧ p.2.1 = q.2.1 ∧ RelV p.2.2 q.2.2) l xs ∧ h.get? a = some o ∧ o.ExactDict ∧ o.data = .dict es ep ∧ es.toList = xs.map (fun x => (⟨x.1.hash w, .ref x.2.1, x.2.2⟩ : DictEntry)) ∧ (xs.map (·.1)).Nodup ∧ (∀ x ∈ xs, x.1.depth ≤ 8)
def dnO (w : World) (a : Addr) (l : List (NestedKey × Addr × V)) : HO := .ext (dnOk w a l)
mutual
inductive Rep (K : Kw) (G : Hp) : V → PyData → Prop
  | non : Rep K G .non .none
  | bl (b : Bool) : Rep K G (.bl b) (.bool b)
  | int (i : Int) : Rep K G (.int i) (.int i)
  | str (x : Str) : Rep K G (.str x) (.str x)
  | lst {a : Addr} {xs : List V} {ds : List PyData} : SqL K G a xs → RepL K G xs ds → Rep K G (.ref a) (.list ds)
  | tup {a : Addr} {xs : List V} {ds : List PyData} : SqT K G a xs → RepL K G xs ds → Rep K G (.ref a) (.tuple ds)
  | dk {a : Addr} {o : Obj} {l : List (Key × V)} {ds : List (PyData × PyData)} : G a = some (.frz o (.dK l)) → RepK K G l ds → Rep K G (.ref a) (.dict ds)
  | dn {a : Addr} {o : Obj} {l : List (NestedKey × Addr × V)} {ds : List (PyData × PyData)} : G a = some (.frz o (dnO K.w a l)) → l.length ≤ sizeLine → RepN K G l ds → Rep K G (.ref a) (.dict ds)
inductive RepL (K : Kw) (G : Hp) : List V → List PyData → Prop
  | nil : RepL K G [] []
  | cons {v : V} {vs : List V} {d : PyData} {ds : List PyData} : Rep K G v d → RepL K G vs ds → RepL K G (v :: vs) (d :: ds)
inductive RepK (K : Kw) (G : Hp) : List (Key × V) → List (PyData × PyData) → Prop
  | nil : RepK K G [] []
  | cons {k : Key} {v : V} {vs : List (Key × V)} {d : PyData} {ds : List (PyData × PyData)} : Rep K G v d → RepK K G vs ds → RepK K G ((k, v) :: vs) ((keyD k, d) :: ds)
inductive RepN (K : Kw) (G : Hp) : List (NestedKey × Addr × V) → List (PyData × PyData) → Prop
  | nil : RepN K G [] []
  | cons {k : NestedKey} {b : Addr} {v : V} {vs : List (NestedKey × Addr × V)} {kd d : PyData} {ds : List (PyData × PyData)} : kd = k.data → Rep K G (.ref b) kd → Rep K G v d → RepN K G vs ds → RepN K G ((k, b, v) :: vs) ((kd, d) :: ds)
end
section
variable {K : Kw} {G G' : Hp}
theorem rd_mono (s : Same G G') {a : Addr} {o : HO} (h : Rd G a o) : Rd G' a o := by
  rcases h with h | ⟨u, h⟩
  · exact .inl (s _ _ h)
  · exact .inr ⟨u, s _ _ h⟩
theorem sqL_mono (s : Same G G') {a : Addr} {xs : List V} (h : SqL K G a xs) : SqL K G' a xs := by
  rcases h with h | h
  · exact .inl (rd_mono s h)
  · exact .inr h
theorem sqT_mono (s : Same G G') {a : Addr} {xs : List V} (h : SqT K G a xs) : SqT K G' a xs := by
  rcases h with h | h
  · exact .inl (rd_mono s h)
  · exact .inr h
mutual
theorem Rep.mono (s : Same G G') : ∀ {d : PyData} {v : V}, Rep K G v d → Rep K G' v d
  | .none, _, .non => .non
  | .bool _, _, .bl b => .bl b
  | .int _, _, .int i => .int i
  | .str _, _, .str x => .str x
  | .list _, _, .lst h r => .lst (sqL_mono s h) (RepL.mono s r)
  | .tuple _, _, .tup h r => .tup (sqT_mono s h) (RepL.mono s r)
  | .dict _, _, .dk h r => .dk (s _ _ h) (RepK.mono s r)
  | .dict _, _, .dn h hl r => .dn (s _ _ h) hl (RepN.mono s r)
theorem RepL.mono (s : Same G G') : ∀ {ds : List PyData} {vs : List V}, RepL K G vs ds → RepL K G' vs ds
  | [], _, .nil => .nil
  | _ :: _, _, .cons h r => .cons (Rep.mono s h) (RepL.mono s r)
theorem RepK.mono (s : Same G G') : ∀ {ds : List (PyData × PyData)} {vs : List (Key × V)}, RepK K G vs ds → RepK K G' vs ds
  | [], _, .nil => .nil
  | _ :: _, _, .cons h r => .cons (Rep.mono s h) (RepK.mono s r)
theorem RepN.mono (s : Same G G') : ∀ {ds : List (PyData × PyData)} {vs : List (NestedKey × Addr × V)}, RepN K G vs ds → RepN K G' vs ds
  | [], _, .nil => .nil
  | (_, _) :: _, _, .cons e k h r => .cons e (Rep.mono s k) (Rep.mono s h) (RepN.mono s r)
end
theorem RepL.length : ∀ {ds : List PyData} {vs : List V}, RepL K G vs ds → vs.length = ds.length
  | [], _, .nil => rfl
  | _ :: _, _, .cons _ r => by rw [List.length_cons, List.length_cons, r.length]
theorem RepK.length : ∀ {ds : List (PyData × PyData)} {vs : List (Key × V)}, RepK K G vs ds → vs.length = ds.length
  | [], _, .nil => rfl
  | _ :: _, _, .cons _ r => by rw [List.length_cons, List.length_cons, r.length]
theorem RepN.length : ∀ {ds : List (PyData × PyData)} {vs : List (NestedKey × Addr × V)}, RepN K G vs ds → vs.length = ds.length
  | [], _, .nil => rfl
  | _ :: _, _, .cons _ _ _ r => by rw [List.length_cons, List.length_cons, r.length]
theorem RepL.get : ∀ {ds : List PyData} {vs : List V} {i : Nat} {d : PyData}, RepL K G vs ds → ds[i]? = some d → ∃ v, vs[i]? = some v ∧ Rep K G v d
  | [], _, i, _, .nil, e => by simp at e
  | _ :: _, _, 0, _, .cons h _, e => by simp at e; subst e; exact ⟨_, rfl, h⟩
  | _ :: _, _, i + 1, _, .cons _ r, e => by
    obtain ⟨v, h1, h2⟩ := RepL.get (i := i) r (by simpa using e)
    exact ⟨v, by simpa using h1, h2⟩
theorem RepL.get' : ∀ {ds : List PyData} {vs : List V} {i : Nat} {v : V}, RepL K G vs ds → vs[i]? = some v → ∃ d, ds[i]? = some d ∧ Rep K G v d
  | [], _, i, _, .nil, e => by simp at e
  | _ :: _, _, 0, _, .cons h _, e => by simp at e; subst e; exact ⟨_, rfl, h⟩
  | _ :: _, _, i + 1, _, .cons _ r, e => by
    obtain ⟨v, h1, h2⟩ := RepL.get' (i := i) r (by simpa using e)
    exact ⟨v, by simpa using h1, h2⟩
theorem RepL.append : ∀ {ds es : List PyData} {vs us : List V}, RepL K G vs ds → RepL K G us es → RepL K G (vs ++ us) (ds ++ es)
  | [], _, _, _, .nil, s => s
  | _ :: _, _, _, _, .cons h r, s => .cons h (RepL.append r s)
theorem RepL.take : ∀ {ds : List PyData} {vs : List V} (n : Nat), RepL K G vs ds → RepL K G (vs.take n) (ds.take n)
  | _, _, 0, _ => .nil
  | [], _, n + 1, .nil => .nil
  | _ :: _, _, n + 1, .cons h r => .cons h (RepL.take n r)
theorem RepL.drop : ∀ {ds : List PyData} {vs : List V} (n : Nat), RepL K G vs ds → RepL K G (vs.drop n) (ds.drop n)
  | _, _, 0, r => r
  | [], _, n + 1, .nil => .nil
  | _ :: _, _, n + 1, .cons h r => RepL.drop n r
theorem RepL.reverse : ∀ {ds : List PyData} {vs : List V}, RepL K G vs ds → RepL K G vs.reverse ds.reverse
  | [], _, .nil => .nil
  | _ :: _, _, .cons h r => by
    rw [List.reverse_cons, List.reverse_cons]
    exact (RepL.reverse r).append (.cons h .nil)
theorem RepL.snoc {ds : List PyData} {vs : List V} {d : PyData} {v : V} (r : RepL K G vs ds) (h : Rep K G v d) : RepL K G (vs ++ [v]) (ds ++ [d]) := r.append (.cons h .nil)
theorem RepL.set : ∀ {ds : List PyData} {vs : List V} (i : Nat) {d : PyData} {v : V}, RepL K G vs ds → Rep K G v d → RepL K G (vs.set i v) (ds.set i d)
  | [], _, _, _, _, .nil, _ => .nil
  | _ :: _, _, 0, _, _, .cons _ r, h => .cons h r
  | _ :: _, _, i + 1, _, _, .cons q r, h => .cons q (RepL.set i r h)
end
/-! ### 3. a top cell: a list or dict that may change, its items in G -/
def Top (K : Kw) (G H : Hp) (a : Addr) : PyData → Prop
  | .list ds => ∃ xs, H a = some (.lst xs) ∧ RepL K G xs ds
  | .dict ds => (∃ l, H a = some (.dK l) ∧ RepK K G l ds) ∨ (∃ l, H a = some (dnO K.w a l) ∧ l.length ≤ sizeLine ∧ RepN K G l ds)
  | _ => False
/-- readable: borne by G, or a top cell in H -/
def RdR (K : Kw) (G H : Hp) (v : V) (d : PyData) : Prop := Rep K G v d ∨ ∃ a, v = .ref a ∧ Top K G H a d
section
variable {K : Kw} {G G' H H' : Hp} {a : Addr} {d : PyData} {v : V}
theorem Top.some (h : Top K G H a d) : ∃ o, H a = some o := by
  cases d with
  | list ds => obtain ⟨_, e, _⟩ := h; exact ⟨_, e⟩
  | dict ds => rcases h with ⟨_, e, _⟩ | ⟨_, e, _⟩ <;> exact ⟨_, e⟩
  | none => exact h.elim
  | bool _ => exact h.elim
  | int _ => exact h.elim
  | str _ => exact h.elim
  | tuple _ => exact h.elim
theorem Top.ne (h : Top K G H a d) : H a ≠ none := by
  obtain ⟨o, e⟩ := h.some
  rw [e]
  exact fun z => nomatch z
theorem Top.mono' (g : Same G G') (e : H' a = H a) (h : Top K G H a d) : Top K G' H' a d := by
  cases d with
  | list ds => obtain ⟨xs, q, r⟩ := h; exact ⟨xs, e.trans q, r.mono g⟩
  | dict ds =>
    rcases h with ⟨l, q, r⟩ | ⟨l, q, hl, r⟩
    · exact .inl ⟨l, e.trans q, r.mono g⟩
    · exact .inr ⟨l, e.trans q, hl, r.mono g⟩
  | none => exact h.elim
  | bool _ => exact h.elim
  | int _ => exact h.elim
  | str _ => exact h.elim
  | tuple _ => exact h.elim
theorem Top.mono (g : Same G G') (s : Same H H') (h : Top K G H a d) : Top K G' H' a d := by
  obtain ⟨o, e⟩ := h.some
  exact h.mono' g ((s _ _ e).trans e.symm)
theorem RdR.mono (g : Same G G') (s : Same H H') (h : RdR K G H v d) : RdR K G' H' v d := by
  rcases h with h | ⟨a, e, h⟩
  · exact .inl (h.mono g)
  · exact .inr ⟨a, e, h.mono g s⟩
/-- P, where a dict at v is locked (what lasts is known to the object) -/
def Frz (H : Hp) (v : V) (P : Hp → Prop) : Prop := P H ∨ ∃ a u, v = .ref a ∧ H a = some u ∧ Mut (some u) ∧ ∀ o, P (upd H a (.frz o u))
/-- a top cell becomes lasting -/
theorem Top.freeze {P : Hp → Prop} (n : G a = none) (gh : Same G H) (h : Top K G H a d) (k : ∀ G' H', Same G G' → Same G' H' → Rep K G' (.ref a) d → (∀ b, b ≠ a → G' b = G b) → (∀ b, b ≠ a → H' b = H b) → H' a ≠ none → P H') : Frz H (.ref a) P := by
  have s1 : ∀ o, Same G (upd G a o) := fun o b u q => by rw [upd_ne (ne_of_none q n)]; exact q
  have s2 : ∀ o, Same (upd G a o) (upd H a o) := fun o b u q => by
    by_cases hb : b = a
    · subst hb; rw [upd_same] at q ⊢; exact q
    · rw [upd_ne hb] at q ⊢; exact gh _ _ q
  cases d with
  | list ds =>
    obtain ⟨xs, q, r⟩ := h
    refine .inl (k (upd G a (.lst xs)) H (s1 _) (fun b u e => ?_) (.lst (.inl (.inl upd_same)) (r.mono (s1 _))) (fun b hb => upd_ne hb) (fun _ _ => rfl) (by rw [q]; exact fun z => nomatch z))
    by_cases hb : b = a
    · subst hb; rw [upd_same] at e; rw [← e]; exact q
    · rw [upd_ne hb] at e; exact gh _ _ e
  | dict ds =>
    rcases h with ⟨l, q, r⟩ | ⟨l, q, hl, r⟩
    · exact .inr ⟨a, _, rfl, q, True.intro, fun o => k (upd G a (.frz o (.dK l))) (upd H a (.frz o (.dK l))) (s1 _) (s2 _) (.dk upd_same (r.mono (s1 _))) (fun b hb => upd_ne hb) (fun b hb => upd_ne hb) (by rw [upd_same]; exact fun z => nomatch z)⟩
    · exact .inr ⟨a, _, rfl, q, True.intro, fun o => k (upd G a (.frz o (dnO K.w a l))) (upd H a (.frz o (dnO K.w a l))) (s1 _) (s2 _) (.dn upd_same hl (r.mono (s1 _))) (fun b hb => upd_ne hb) (fun b hb => upd_ne hb) (by rw [upd_same]; exact fun z => nomatch z)⟩
  | none => exact h.elim
  | bool _ => exact h.elim
  | int _ => exact h.elim
  | str _ => exact h.elim
  | tuple _ => exact h.elim
end
/-! ### 4. steps -/
/-- from (G, H) to (G', H'): all stays, what lasts newly is new -/
structure Stp (G H G' H' : Hp) : Prop where
  g : Same G G'
  h : Same H H'
  gh : Same G' H'
  fr : ∀ a, G a = none → H a ≠ none → G' a = none
section
variable {G H G1 H1 G2 H2 : Hp}
theorem Stp.refl (s : Same G H) : Stp G H G H := ⟨Same.refl _, Same.refl _, s, fun _ e _ => e⟩
theorem Stp.trans (a : Stp G H G1 H1) (b : Stp G1 H1 G2 H2) : Stp G H G2 H2 :=
  ⟨a.g.trans b.g, a.h.trans b.h, b.gh, fun x e n => b.fr x (a.fr x e n) fun z => n (a.h.free z)⟩
/-- a new lasting object -/
theorem Stp.new {p : Addr} {o : HO} (s : Same G H) (n : H p = none) : Stp G H (upd G p o) (upd H p o) := by
  have ng : G p = none := s.free n
  refine ⟨fun b u q => ?_, fun b u q => ?_, fun b u q => ?_, fun b e h => ?_⟩
  · rw [upd_ne (ne_of_none q ng)]; exact q
  · rw [upd_ne (ne_of_none q n)]; exact q
  · by_cases hb : b = p
    · subst hb; rw [upd_same] at q ⊢; exact q
    · rw [upd_ne hb] at q ⊢; exact s _ _ q
  · have hb : b ≠ p := fun z => h (by rw [z]; exact n)
    rw [upd_ne hb]; exact e
/-- a new object of one's own -/
theorem Stp.newH {p : Addr} {o : HO} (s : Same G H) (n : H p = none) : Stp G H G (upd H p o) := by
  refine ⟨Same.refl _, fun b u q => ?_, fun b u q => ?_, fun b e h => e⟩
  · rw [upd_ne (ne_of_none q n)]; exact q
  · rw [upd_ne (ne_of_none (s _ _ q) n)]; exact s _ _ q
theorem Same.ne {H H' : Hp} (s : Same H H') {a : Addr} (h : H a ≠ none) : H' a ≠ none := fun z => h (s.free z)
theorem same_at {H H' : Hp} (s : Same H H') {a : Addr} (h : H a ≠ none) : H' a = H a := by
  cases e : H a with
  | none => exact absurd e h
  | some o => exact s _ _ e
end
/-! ### 5. things with parts of one's own -/
mutual
inductive Own (K : Kw) (G H : Hp) : V → T → List Addr → Prop
  | d {v : V} {x : PyData} : Rep K G v x → Own K G H v (.d x) []
  | f {a : Addr} {x : PyData} : Top K G H a x → Own K G H (.ref a) (.f x) [a]
  | l {a : Addr} {vs : List V} {ts : List T} {fp : List Addr} : H a = some (.lst vs) → OwnL K G H vs ts fp → Own K G H (.ref a) (.l ts) (a :: fp)
  | m {a : Addr} {vs : List (Key × V)} {ts : List (Key × T)} {fp : List Addr} : H a = some (.dK vs) → OwnM K G H vs ts fp → Own K G H (.ref a) (.m ts) (a :: fp)
  | p {a : Addr} {vs : List V} {ts : List T} {fp : List Addr} : H a = some (.tup vs) → OwnL K G H vs ts fp → Own K G H (.ref a) (.p ts) (a :: fp)
  | o {a c dx : Addr} {vs : List (Str × V)} {ts : List (Str × T)} {fp : List Addr} : H a = some (.ins c dx vs) → H dx = some (.own a) → OwnF K G H vs ts fp → Own K G H (.ref a) (.o ts) (a :: dx :: fp)
inductive OwnL (K : Kw) (G H : Hp) : List V → List T → List Addr → Prop
  | nil : OwnL K G H [] [] []
  | cons {v : V} {vs : List V} {t : T} {ts : List T} {f1 f2 : List Addr} : Own K G H v t f1 → OwnL K G H vs ts f2 → OwnL K G H (v :: vs) (t :: ts) (f1 ++ f2)
inductive OwnM (K : Kw) (G H : Hp) : List (Key × V) → List (Key × T) → List Addr → Prop
  | nil : OwnM K G H [] [] []
  | cons {k : Key} {v : V} {vs : List (Key × V)} {t : T} {ts : List (Key × T)} {f1 f2 : List Addr} : Own K G H v t f1 → OwnM K G H vs ts f2 → OwnM K G H ((k, v) :: vs) ((k, t) :: ts) (f1 ++ f2)
inductive OwnF (K : Kw) (G H : Hp) : List (Str × V) → List (Str × T) → List Addr → Prop
  | nil : OwnF K G H [] [] []
  | cons {k : Str} {v : V} {vs : List (Str × V)} {t : T} {ts : List (Str × T)} {f1 f2 : List Addr} : Own K G H v t f1 → OwnF K G H vs ts f2 → OwnF K G H ((k, v) :: vs) ((k, t) :: ts) (f1 ++ f2)
end
section
variable {K : Kw} {G G' H H' : Hp}
mutual
/-- it stays while its own cells stay -/
theorem Own.keep (g : Same G G') : ∀ {t : T} {v : V} {fp : List Addr}, Own K G H v t fp → (∀ b ∈ fp, H' b = H b) → Own K G' H' v t fp
  | .d _, _, _, .d r, _ => .d (r.mono g)
  | .f _, _, _, .f t, e => .f (t.mono' g (e _ List.mem_cons_self))
  | .l _, _, _, .l q r, e => .l ((e _ List.mem_cons_self).trans q) (OwnL.keep g r fun b hb => e b (List.mem_cons_of_mem _ hb))
  | .m _, _, _, .m q r, e => .m ((e _ List.mem_cons_self).trans q) (OwnM.keep g r fun b hb => e b (List.mem_cons_of_mem _ hb))
  | .p _, _, _, .p q r, e => .p ((e _ List.mem_cons_self).trans q) (OwnL.keep g r fun b hb => e b (List.mem_cons_of_mem _ hb))
  | .o _, _, _, .o q q2 r, e => .o ((e _ List.mem_cons_self).trans q) ((e _ (List.mem_cons_of_mem _ List.mem_cons_self)).trans q2) (OwnF.keep g r fun b hb => e b (List.mem_cons_of_mem _ (List.mem_cons_of_mem _ hb)))
theorem OwnL.keep (g : Same G G') : ∀ {ts : List T} {vs : List V} {fp : List Addr}, OwnL K G H vs ts fp → (∀ b ∈ fp, H' b = H b) → OwnL K G' H' vs ts fp
  | [], _, _, .nil, _ => .nil
  | _ :: _, _, _, .cons q r, e => .cons (Own.keep g q fun b hb => e b (List.mem_append_left _ hb)) (OwnL.keep g r fun b hb => e b (List.mem_append_right _ hb))
theorem OwnM.keep (g : Same G G') : ∀ {ts : List (Key × T)} {vs : List (Key × V)} {fp : List Addr}, OwnM K G H vs ts fp → (∀ b ∈ fp, H' b = H b) → OwnM K G' H' vs ts fp
  | [], _, _, .nil, _ => .nil
  | (_, _) :: _, _, _, .cons q r, e => .cons (Own.keep g q fun b hb => e b (List.mem_append_left _ hb)) (OwnM.keep g r fun b hb => e b (List.mem_append_right _ hb))
theorem OwnF.keep (g : Same G G') : ∀ {ts : List (Str × T)} {vs : List (Str × V)} {fp : List Addr}, OwnF K G H vs ts fp → (∀ b ∈ fp, H' b = H b) → OwnF K G' H' vs ts fp
  | [], _, _, .nil, _ => .nil
  | (_, _) :: _, _, _, .cons q r, e => .cons (Own.keep g q fun b hb => e b (List.mem_append_left _ hb)) (OwnF.keep g r fun b hb => e b (List.mem_append_right _ hb))
end
mutual
/-- its cells are there -/
theorem Own.there : ∀ {t : T} {v : V} {fp : List Addr}, Own K G H v t fp → ∀ b ∈ fp, H b ≠ none
  | .d _, _, _, .d _, b, hb => by cases hb
  | .f _, _, _, .f t, b, hb => by rw [List.mem_singleton] at hb; subst hb; exact t.ne
  | .l _, _, _, .l q r, b, hb => by
    rcases List.mem_cons.mp hb with rfl | hb
    · rw [q]; exact fun z => nomatch z
    · exact OwnL.there r b hb
  | .m _, _, _, .m q r, b, hb => by
    rcases List.mem_cons.mp hb with rfl | hb
    · rw [q]; exact fun z => nomatch z
    · exact OwnM.there r b hb
  | .p _, _, _, .p q r, b, hb => by
    rcases List.mem_cons.mp hb with rfl | hb
    · rw [q]; exact fun z => nomatch z
    · exact OwnL.there r b hb
  | .o _, _, _, .o q q2 r, b, hb => by
    rcases List.mem_cons.mp hb with rfl | hb
    · rw [q]; exact fun z => nomatch z
    · rcases List.mem_cons.mp hb with rfl | hb
      · rw [q2]; exact fun z => nomatch z
      · exact OwnF.there r b hb
theorem OwnL.there : ∀ {ts : List T} {vs : List V} {fp : List Addr}, OwnL K G H vs ts fp → ∀ b ∈ fp, H b ≠ none
  | [], _, _, .nil, b, hb => by cases hb
  | _ :: _, _, _, .cons q r, b, hb => by
    rcases List.mem_append.mp hb with hb | hb
    · exact Own.there q b hb
    · exact OwnL.there r b hb
theorem OwnM.there : ∀ {ts : List (Key × T)} {vs : List (Key × V)} {fp : List Addr}, OwnM K G H vs ts fp → ∀ b ∈ fp, H b ≠ none
  | [], _, _, .nil, b, hb => by cases hb
  | (_, _) :: _, _, _, .cons q r, b, hb => by
    rcases List.mem_append.mp hb with hb | hb
    · exact Own.there q b hb
    · exact OwnM.there r b hb
theorem OwnF.there : ∀ {ts : List (Str × T)} {vs : List (Str × V)} {fp : List Addr}, OwnF K G H vs ts fp → ∀ b ∈ fp, H b ≠ none
  | [], _, _, .nil, b, hb => by cases hb
  | (_, _) :: _, _, _, .cons q r, b, hb => by
    rcases List.mem_append.mp hb with hb | hb
    · exact Own.there q b hb
    · exact OwnF.there r b hb
end
theorem Own.mono (g : Same G G') (s : Same H H') {t : T} {v : V} {fp : List Addr} (h : Own K G H v t fp) : Own K G' H' v t fp := h.keep g fun b hb => same_at s (h.there b hb)
end
/-! ### 6. results -/
/-- what a result is, its own cells fp (new since H0) -/
def ResF (K : Kw) (H0 G H : Hp) : Slot → V → Prop
  | .val d, v => Rep K G v d
  | .own d, v => ∃ a, v = .ref a ∧ G a = none ∧ H0 a = none ∧ Top K G H a d
  | .bor d, v => ∃ a, v = .ref a ∧ Top K G H a d
  | .tr t, v => ∃ fp, Own K G H v t fp ∧ fp.Nodup ∧ ∀ a ∈ fp, G a = none ∧ H0 a = none
  | .bt t, v => ∃ fp, Own K G H v t fp
  | .exn _, _ => False
def Slot.rd : Slot → Res PyData
  | .val d => .ok d
  | .own d => .ok d
  | .bor d => .ok d
  | _ => .stuck
def Slot.vl : Slot → Res PyData
  | .val d => .ok d
  | .own d => .ok d
  | _ => .stuck
section
variable {K : Kw} {H0 G H G1 H1 G2 H2 : Hp} {s : Slot} {v : V}
theorem ResF.rd (h : ResF K H0 G H s v) {d : PyData} (e : s.rd = .ok d) : RdR K G H v d := by
  cases s with
  | val d => cases e; exact .inl h
  | own d => cases e; obtain ⟨a, e, _, _, t⟩ := h; exact .inr ⟨a, e, t⟩
  | bor d => cases e; obtain ⟨a, e, t⟩ := h; exact .inr ⟨a, e, t⟩
  | tr t => cases e
  | bt t => cases e
  | exn x => exact h.elim
theorem rd_noexc {x : Exn} : s.rd ≠ .exc x := by cases s <;> (intro h; cases h)
theorem vl_noexc {x : Exn} : s.vl ≠ .exc x := by cases s <;> (intro h; cases h)
theorem ResF.vl {d : PyData} {P : Hp → Prop} (st : Stp G H G1 H1) (h : ResF K H G1 H1 s v) (e : s.vl = .ok d) (k : ∀ G2 H2, Stp G H G2 H2 → Same G1 G2 → Rep K G2 v d → P H2) : Frz H1 v P := by
  cases s with
  | val d' =>
    cases e
    exact .inl (k G1 H1 st (Same.refl _) h)
  | own d' =>
    cases e
    obtain ⟨a, ev, n, n0, t⟩ := h
    subst ev
    refine t.freeze n st.gh fun G2 H2 s1 s2 r hb hh hn => k G2 H2 ⟨st.g.trans s1, fun x o q => ?_, s2, fun x ex hx => ?_⟩ s1 r
    · have hxa : x ≠ a := fun z => by rw [z, n0] at q; cases q
      rw [hh x hxa]; exact st.h x o q
    · have hxa : x ≠ a := fun z => hx (by rw [z]; exact n0)
      rw [hb x hxa]
      exact st.fr x ex hx
  | bor d' => cases e
  | tr d' => cases e
  | bt d' => cases e
  | exn x => cases e
theorem ResF.mono0 (s0 : Same H0 H1) (h : ResF K H1 G H s v) : ResF K H0 G H s v := by
  cases s with
  | val d => exact h
  | own d => obtain ⟨a, e, n, n0, t⟩ := h; exact ⟨a, e, n, s0.free n0, t⟩
  | bor d => exact h
  | tr t => obtain ⟨fp, o, n, q⟩ := h; exact ⟨fp, o, n, fun a ha => ⟨(q a ha).1, s0.free (q a ha).2⟩⟩
  | bt t => exact h
  | exn x => exact h
end
/-! ### 7. a frame's state -/
/-- the law's fixed things: the written part, the classes of refusal, what is held in an except suite, what the frame was lent: places and roots -/
structure Cn where
  K : Kw
  ec : EC → Addr
  A : Addr → Exn → Prop := fun _ _ => False
  R : List (Nat × V) := []
/-- a slot's value, its own cells fp -/
def SlR (C : Cn) (B G H : Hp) (fp : List Addr) : Slot → V → Prop
  | .val d, v => fp = [] ∧ Rep C.K G v d
  | .own d, v => ∃ a, v = .ref a ∧ fp = [a] ∧ Top C.K G H a d
  | .bor d, v => ∃ a, v = .ref a ∧ fp = [] ∧ B a ≠ none ∧ Top C.K G H a d
  | .tr t, v => Own C.K G H v t fp
  | .bt t, v => fp = [] ∧ ∃ fq, Own C.K G H v t fq ∧ ∀ a ∈ fq, B a ≠ none
  | .exn x, v => fp = [] ∧ ∃ a, v = .ref a ∧ C.A a x
theorem SlR.there {C : Cn} {B G H : Hp} {fp : List Addr} {s : Slot} {v : V} (h : SlR C B G H fp s v) : ∀ a ∈ fp, H a ≠ none := by
  cases s with
  | val d => obtain ⟨e, _⟩ := h; subst e; exact fun a ha => nomatch ha
  | own d => obtain ⟨b, _, e, t⟩ := h; subst e; intro a ha; rw [List.mem_singleton] at ha; subst ha; exact t.ne
  | bor d => obtain ⟨b, _, e, _⟩ := h; subst e; exact fun a ha => nomatch ha
  | tr t => exact Own.there h
  | bt t => obtain ⟨e, _⟩ := h; subst e; exact fun a ha => nomatch ha
  | exn x => obtain ⟨e, _⟩ := h; subst e; exact fun a ha => nomatch ha
theorem SlR.keep {C : Cn} {B G H G' H' : Hp} {fp : List Addr} {s : Slot} {v : V} (g : Same G G') (e : ∀ b ∈ fp, H' b = H b) (eb : ∀ b, B b ≠ none → H' b = H b) (h : SlR C B G H fp s v) : SlR C B G' H' fp s v := by
  cases s with
  | val d => exact ⟨h.1, h.2.mono g⟩
  | own d => obtain ⟨b, ev, ef, t⟩ := h; subst ef; exact ⟨b, ev, rfl, t.mono' g (e b List.mem_cons_self)⟩
  | bor d => obtain ⟨b, ev, ef, nb, t⟩ := h; exact ⟨b, ev, ef, nb, t.mono' g (eb b nb)⟩
  | tr t => exact Own.keep g h e
  | bt t => obtain ⟨ef, fq, o, q⟩ := h; exact ⟨ef, fq, o.keep g fun b hb => eb b (q b hb), q⟩
  | exn x => exact h
/-- the slots of a frame, the own cells of each -/
structure EnR (C : Cn) (B G H : Hp) (σ : St) (δ : DEnv) (fps : Nat → List Addr) : Prop where
  sl : ∀ (i : Nat) (s : Slot), δ[i]? = some (some s) → ∃ v, σ[i]? = some (some v) ∧ SlR C B G H (fps i) s v
  no : ∀ i : Nat, (∀ s, δ[i]? ≠ some (some s)) → fps i = []
  nd : ∀ i, (fps i).Nodup
  dj : ∀ i j a, i ≠ j → a ∈ fps i → a ∉ fps j
  off : ∀ i a, a ∈ fps i → B a = none ∧ G a = none
structure StR (C : Cn) (B G0 G H : Hp) (σ : St) (δ : DEnv) : Prop where
  bh : Same B H
  g0 : Same G0 G
  gh : Same G H
  fr : ∀ a, G0 a = none → B a ≠ none → G a = none
  len : σ.length = δ.length
  rt : ∀ p ∈ C.R, σ[p.1]? = some (some p.2)
  en : ∃ fps, EnR C B G H σ δ fps
section
variable {C : Cn} {B G0 G H G' H' : Hp} {σ : St} {δ : DEnv} {fps : Nat → List Addr}
theorem EnR.there (E : EnR C B G H σ δ fps) {i : Nat} {a : Addr} (h : a ∈ fps i) : H a ≠ none := by
  by_cases hs : ∃ s, δ[i]? = some (some s)
  · obtain ⟨s, e⟩ := hs
    obtain ⟨v, _, r⟩ := E.sl i s e
    exact r.there a h
  · rw [E.no i fun s z => hs ⟨s, z⟩] at h; cases h
theorem EnR.step (E : EnR C B G H σ δ fps) (bh : Same B H) (st : Stp G H G' H') : EnR C B G' H' σ δ fps :=
  ⟨fun i s e => let ⟨v, q, r⟩ := E.sl i s e; ⟨v, q, r.keep st.g (fun b hb => same_at st.h (E.there hb)) fun b hb => same_at st.h (Same.ne bh hb)⟩, E.no, E.nd, E.dj, fun i a ha => ⟨(E.off i a ha).1, st.fr a (E.off i a ha).2 (E.there ha)⟩⟩
theorem StR.step (S : StR C B G0 G H σ δ) (st : Stp G H G' H') : StR C B G0 G' H' σ δ :=
  ⟨S.bh.trans st.h, S.g0.trans st.g, st.gh, fun a e n => st.fr a (S.fr a e n) (fun z => n (S.bh.free z)), S.len, S.rt, let ⟨fps, E⟩ := S.en; ⟨fps, E.step S.bh st⟩⟩
/-- another word for what stood ahead -/
theorem StR.base (S : StR C B G0 G H σ δ) : StR C B G G H σ δ :=
  ⟨S.bh, Same.refl _, S.gh, fun _ e _ => e, S.len, S.rt, S.en⟩
theorem StR.unbase (S : StR C B G0 G H σ δ) {σ' : St} {δ' : DEnv} (T : StR C B G G' H' σ' δ') : StR C B G0 G' H' σ' δ' :=
  ⟨T.bh, S.g0.trans T.g0, T.gh, fun a e n => T.fr a (S.fr a e n) n, T.len, T.rt, T.en⟩
/-- the frame's end against its entry -/
theorem StR.end (S : StR C B G0 G H σ δ) : Stp G0 B G H := ⟨S.g0, S.bh, S.gh, S.fr⟩
def fset (fps : Nat → List Addr) (i : Nat) (fp : List Addr) : Nat → List Addr := fun j => if j = i then fp else fps j
theorem fset_same {i : Nat} {fp : List Addr} : fset fps i fp i = fp := if_pos rfl
theorem fset_ne {i j : Nat} {fp : List Addr} (h : j ≠ i) : fset fps i fp j = fps j := if_neg h
/-- THE change of one place: nothing but its own cells changes -/
theorem EnR.put (E : EnR C B G H σ δ fps) (bh : Same B H) (hl : σ.length = δ.length) {i : Nat} {fp : List Addr} {s : Slot} {v : V} (hi : i < δ.length) (g : Same G G') (h : ∀ a o, H a = some o → a ∉ fps i → H' a = some o)
    (gn : ∀ a, G' a ≠ none → G a ≠ none ∨ H a = none ∨ a ∈ fps i) (r : SlR C B G' H' fp s v) (nd : fp.Nodup) (nw : ∀ a ∈ fp, (a ∈ fps i ∨ H a = none) ∧ G' a = none) : EnR C B G' H' (σ.set i (some v)) (δ.set i (some s)) (fset fps i fp) := by
  have keep : ∀ a, H a ≠ none → a ∉ fps i → H' a = H a := fun a ha hn => by
    cases e : H a with
    | none => exact absurd e ha
    | some o => exact h a o e hn
  have nb : ∀ a, B a ≠ none → a ∉ fps i := fun a ha z => ha (E.off i a z).1
  refine ⟨fun j u e => ?_, fun j e => ?_, fun j => ?_, fun j k a hjk ha => ?_, fun j a ha => ?_⟩
  · by_cases hj : i = j
    · subst hj
      rw [List.getElem?_set_self hi] at e
      cases e
      exact ⟨v, by rw [List.getElem?_set_self (by rw [hl]; exact hi)], by rw [fset_same]; exact r⟩
    · rw [List.getElem?_set_ne hj] at e
      obtain ⟨w, q, z⟩ := E.sl j u e
      refine ⟨w, by rw [List.getElem?_set_ne hj]; exact q, ?_⟩
      rw [fset_ne (Ne.symm hj)]
      exact z.keep g (fun b hb => keep b (E.there hb) (E.dj j i b (Ne.symm hj) hb)) fun b hb => keep b (Same.ne bh hb) (nb b hb)
  · by_cases hj : i = j
    · subst hj
      exact absurd (List.getElem?_set_self hi) (e s)
    · rw [fset_ne (Ne.symm hj)]
      exact E.no j fun u z => e u (by rw [List.getElem?_set_ne hj]; exact z)
  · by_cases hj : j = i
    · subst hj; rw [fset_same]; exact nd
    · rw [fset_ne hj]; exact E.nd j
  · by_cases hj : j = i
    · subst hj
      rw [fset_same] at ha
      rw [fset_ne (Ne.symm hjk)]
      rcases (nw a ha).1 with z | z
      · exact E.dj j k a hjk z
      · exact fun w => E.there w z
    · rw [fset_ne hj] at ha
      by_cases hk : k = i
      · subst hk
        rw [fset_same]
        intro w
        rcases (nw a w).1 with z | z
        · exact E.dj j k a hjk ha z
        · exact E.there ha z
      · rw [fset_ne hk]; exact E.dj j k a hjk ha
  · by_cases hj : j = i
    · subst hj
      rw [fset_same] at ha
      refine ⟨?_, (nw a ha).2⟩
      rcases (nw a ha).1 with z | z
      · exact (E.off j a z).1
      · exact bh.free z
    · rw [fset_ne hj] at ha
      refine ⟨(E.off j a ha).1, ?_⟩
      cases e : G' a with
      | none => rfl
      | some o =>
        rcases gn a (by rw [e]; exact fun z => nomatch z) with z | z | z
        · exact absurd (E.off j a ha).2 z
        · exact absurd z (E.there ha)
        · exact absurd z (E.dj j i a hj ha)
theorem StR.put (S : StR C B G0 G H σ δ) (E : EnR C B G H σ δ fps) {i : Nat} {fp : List Addr} {s : Slot} {v : V} (hi : i < δ.length) (g : Same G G') (gh : Same G' H') (h : ∀ a o, H a = some o → a ∉ fps i → H' a = some o)
    (gn : ∀ a, G' a ≠ none → G a ≠ none ∨ H a = none ∨ a ∈ fps i) (r : SlR C B G' H' fp s v) (nd : fp.Nodup) (nw : ∀ a ∈ fp, (a ∈ fps i ∨ H a = none) ∧ G' a = none) (hr : ∀ p ∈ C.R, p.1 = i → v = p.2) : StR C B G0 G' H' (σ.set i (some v)) (δ.set i (some s)) := by
  refine ⟨fun b o e => h b o (S.bh _ _ e) fun z => ?_, S.g0.trans g, gh, fun a e n => ?_, by simp [S.len], fun p hp => ?_, _, E.put S.bh S.len hi g h gn r nd nw⟩
  · rw [(E.off i b z).1] at e; cases e
  · cases q : G' a with
    | none => rfl
    | some o =>
      rcases gn a (by rw [q]; exact fun z => nomatch z) with z | z | z
      · exact absurd (S.fr a e n) z
      · exact absurd z (Same.ne S.bh n)
      · exact absurd (E.off i a z).1 n
  · by_cases hp1 : p.1 = i
    · rw [hp1, hr p hp hp1, List.getElem?_set_self (by rw [S.len]; exact hi)]
    · rw [List.getElem?_set_ne (Ne.symm hp1)]; exact S.rt p hp
theorem set_out {α : Type} {xs : List α} {i : Nat} {x : α} (h : ¬ i < xs.length) : xs.set i x = xs := List.set_eq_of_length_le (by omega)
/-- i is not the place of what was lent -/
def Cn.free (C : Cn) (i : Nat) : Prop := ∀ p ∈ C.R, p.1 ≠ i
/-- a slot gets a value -/
theorem StR.setVal (S : StR C B G0 G H σ δ) {i : Nat} {v : V} {d : PyData} (hf : C.free i) (r : Rep C.K G v d) : StR C B G0 G H (σ.set i (some v)) (δ.set i (some (.val d))) := by
  obtain ⟨fps, E⟩ := S.en
  by_cases hi : i < δ.length
  · exact S.put E hi (Same.refl _) S.gh (fun _ _ e _ => e) (fun a h => .inl h) (fp := []) (s := .val d) ⟨rfl, r⟩ List.nodup_nil (fun a ha => nomatch ha) (fun p hp e => absurd e (hf p hp))
  · rw [set_out hi, set_out (by rw [S.len]; exact hi)]; exact S
/-- a slot is forgotten -/
theorem StR.setNone (S : StR C B G0 G H σ δ) {i : Nat} (hf : C.free i) (o : Option V) : StR C B G0 G H (σ.set i o) (δ.set i none) := by
  obtain ⟨fps, E⟩ := S.en
  refine ⟨S.bh, S.g0, S.gh, S.fr, by simp [S.len], fun p hp => by rw [List.getElem?_set_ne (Ne.symm (hf p hp))]; exact S.rt p hp, fset fps i [], ⟨fun j s e => ?_, fun j e => ?_, fun j => ?_, fun j k a hjk ha => ?_, fun j a ha => ?_⟩⟩
  · by_cases hj : i = j
    · subst hj
      rw [List.getElem?_set] at e
      split at e
      · split at e
        · cases e
        · cases e
      · rename_i z; exact (z rfl).elim
    · rw [List.getElem?_set_ne hj] at e ⊢
      rw [fset_ne (Ne.symm hj)]
      exact E.sl j s e
  · by_cases hj : i = j
    · subst hj; exact fset_same
    · rw [fset_ne (Ne.symm hj)]
      exact E.no j fun u z => e u (by rw [List.getElem?_set_ne hj]; exact z)
  · by_cases hj : j = i
    · subst hj; rw [fset_same]; exact List.nodup_nil
    · rw [fset_ne hj]; exact E.nd j
  · by_cases hj : j = i
    · subst hj; rw [fset_same] at ha; cases ha
    · rw [fset_ne hj] at ha
      by_cases hk : k = i
      · subst hk; rw [fset_same]; exact fun z => nomatch z
      · rw [fset_ne hk]; exact E.dj j k a hjk ha
  · by_cases hj : j = i
    · subst hj; rw [fset_same] at ha; cases ha
    · rw [fset_ne hj] at ha; exact E.off j a ha
/-- a slot gets a result that is new -/
theorem StR.setNew (S : StR C B G0 G H σ δ) {i : Nat} (hf : C.free i) (st : Stp G H G' H') {s : Slot} {v : V} (r : ResF C.K H G' H' s v) (hs : (∃ d, s = .val d) ∨ (∃ d, s = .own d) ∨ ∃ t, s = .tr t) : StR C B G0 G' H' (σ.set i (some v)) (δ.set i (some s)) := by
  obtain ⟨fps, E⟩ := S.en
  by_cases hi : i < δ.length
  · have hr : ∀ p ∈ C.R, p.1 = i → v = p.2 := fun p hp e => absurd e (hf p hp)
    have h : ∀ a o, H a = some o → a ∉ fps i → H' a = some o := fun a o e _ => st.h a o e
    have gn : ∀ a, G' a ≠ none → G a ≠ none ∨ H a = none ∨ a ∈ fps i := fun a ha => by
      by_cases hg : G a = none
      · by_cases hh : H a = none
        · exact .inr (.inl hh)
        · exact absurd (st.fr a hg hh) ha
      · exact .inl hg
    rcases hs with ⟨d, rfl⟩ | ⟨d, rfl⟩ | ⟨t, rfl⟩
    · exact S.put E hi st.g st.gh h gn (fp := []) (s := .val d) ⟨rfl, r⟩ List.nodup_nil (fun a ha => nomatch ha) hr
    · obtain ⟨b, e, n, n0, t⟩ := r
      exact S.put E hi st.g st.gh h gn (fp := [b]) (s := .own d) ⟨b, e, rfl, t⟩ (by simp) (fun a ha => by rw [List.mem_singleton] at ha; subst ha; exact ⟨.inr n0, n⟩) hr
    · obtain ⟨fp, o, nd, q⟩ := r
      exact S.put E hi st.g st.gh h gn (fp := fp) (s := .tr t) o nd (fun a ha => ⟨.inr (q a ha).2, (q a ha).1⟩) hr
  · rw [set_out hi, set_out (by rw [S.len]; exact hi)]; exact S.step st
theorem set_id {α : Type} {xs : List α} {i : Nat} {x : α} (h : xs[i]? = some x) : xs.set i x = xs := by
  refine List.ext_getElem? fun j => ?_
  by_cases hj : i = j
  · subst hj
    rw [List.getElem?_set_self (List.getElem?_eq_some_iff.mp h).1, h]
  · rw [List.getElem?_set_ne hj]
/-- an object of one's own is changed -/
theorem StR.write (S : StR C B G0 G H σ δ) {i : Nat} {a : Addr} {d d' : PyData} {o : HO} (hi : δ[i]? = some (some (.own d))) (ha : σ[i]? = some (some (.ref a))) (t : Top C.K G (upd H a o) a d') :
    StR C B G0 G (upd H a o) σ (δ.set i (some (.own d'))) := by
  obtain ⟨fps, E⟩ := S.en
  obtain ⟨v, q, b, ev, ef, tb⟩ := E.sl i _ hi
  rw [ha] at q; cases q; cases ev
  have hli : i < δ.length := (List.getElem?_eq_some_iff.mp hi).1
  have hoff := E.off i a (by rw [ef]; exact List.mem_cons_self)
  have := S.put E (s := .own d') (v := .ref a) (fp := [a]) hli (Same.refl _) (fun b u q => by rw [upd_ne (ne_of_none q hoff.2)]; exact S.gh _ _ q) (fun b u e hn => by rw [upd_ne (fun z => hn (by rw [ef, z]; exact List.mem_cons_self))]; exact e) (fun b h => .inl h) ⟨a, rfl, rfl, t⟩ (by simp)
    (fun b hb => by rw [List.mem_singleton] at hb; subst hb; exact ⟨.inl (by rw [ef]; exact List.mem_cons_self), hoff.2⟩) (fun p hp e => by have := S.rt p hp; rw [e, ha] at this; exact Option.some.inj (Option.some.inj this))
  rw [set_id ha] at this
  exact this
/-- an object of one's own becomes lasting -/
theorem StR.freeze {P : Hp → Prop} (S : StR C B G0 G H σ δ) {i : Nat} {d : PyData} (hi : δ[i]? = some (some (.own d))) (k : ∀ G' H', StR C B G0 G' H' σ (δ.set i (some (.val d))) → P H') : ∃ v, Frz H v P := by
  obtain ⟨fps, E⟩ := S.en
  obtain ⟨v, q, a, ev, ef, t⟩ := E.sl i _ hi
  subst ev
  have hoff := E.off i a (by rw [ef]; exact List.mem_cons_self)
  have hli : i < δ.length := (List.getElem?_eq_some_iff.mp hi).1
  refine ⟨.ref a, t.freeze hoff.2 S.gh fun G' H' s1 s2 r hb hh hn => k G' H' ?_⟩
  have := S.put E (s := .val d) (v := .ref a) (fp := []) hli s1 s2 (fun b u e hn => by rw [hh b (fun z => hn (by rw [ef, z]; exact List.mem_cons_self))]; exact e) (fun b h => ?_) ⟨rfl, r⟩ List.nodup_nil (fun b hb => nomatch hb) (fun p hp e => by have := S.rt p hp; rw [e, q] at this; exact Option.some.inj (Option.some.inj this))
  · rw [set_id q] at this
    exact this
  · by_cases hba : b = a
    · exact .inr (.inr (by rw [ef, hba]; exact List.mem_cons_self))
    · rw [hb b hba] at h; exact .inl h
/-- .. or forgotten, its cells no longer one's own -/
theorem StR.sl (S : StR C B G0 G H σ δ) {i : Nat} {s : Slot} (e : δ[i]? = some (some s)) : ∃ v fp, σ[i]? = some (some v) ∧ SlR C B G H fp s v ∧ fp.Nodup ∧ ∀ a ∈ fp, B a = none ∧ G a = none := by
  obtain ⟨fps, E⟩ := S.en
  obtain ⟨v, q, r⟩ := E.sl i s e
  exact ⟨v, fps i, q, r, E.nd i, E.off i⟩
end
end DL
/-! DLb: what code does, said over data: expressions -/
namespace DL
open PySem L2
/-! ### 1. soundness -/
structure Ax where
  ec : EC → Addr
  A : Addr → Exn → Prop := fun _ _ => False
  R : List (Nat × V) := []
abbrev cn (X : Cx) (a : Ax) : Cn := ⟨X.kw, a.ec, a.A, a.R⟩
def FldR (K : Kw) (G H : Hp) (fs : List (Str × PyData)) (d : Option Addr) : Prop :=
  match fs with
  | [] => d = none
  | _ => ∃ dd vs, d = some dd ∧ H dd = some (.xd vs) ∧ vs.map (·.1) = fs.map (·.1) ∧ RepL K G (vs.map (·.2)) (fs.map (·.2))
def ExR (C : Cn) (G H : Hp) (x : Exn) (cls : Value) (d : Option Addr) : Prop := cls = .ref (C.ec x.c) ∧ FldR C.K G H x.fs d
/-- what is wanted of a result -/
def ROk {α β : Type} (C : Cn) (W : WX) (σ : St) (G H : Hp) (rel : Hp → Hp → α → β → Prop) (r : Res α) (Q : β → Hp → Prop) : Prop :=
  match r with
  | .ok a => ∀ v G' H', Stp G H G' H' → rel G' H' a v → Q v H'
  | .exc x => ∀ cls d G' H', Stp G H G' H' → ExR C G' H' x cls d → W cls d σ H'
  | .stuck => False
/-- t does what m says -/
def Snd {α β : Type} (C : Cn) (W : WX) (rel : Hp → Hp → Hp → α → β → Prop) (t : St → Hp → (β → Hp → Prop) → Prop) (m : DEnv → Res α) : Prop :=
  ∀ B G0 G H σ δ, StR C B G0 G H σ δ → ∀ Q, ROk C W σ G H (rel H) (m δ) Q → t σ H Q
abbrev relE (K : Kw) : Hp → Hp → Hp → Slot → V → Prop := fun H0 G H s v => ResF K H0 G H s v
abbrev relV (K : Kw) : Hp → Hp → Hp → PyData → V → Prop := fun _ G _ d v => Rep K G v d
abbrev relD (K : Kw) : Hp → Hp → Hp → PyData → V → Prop := fun _ G H d v => RdR K G H v d
abbrev relB : Hp → Hp → Hp → Bool → Bool → Prop := fun _ _ _ a b => a = b
abbrev relL (K : Kw) : Hp → Hp → Hp → List PyData → List V → Prop := fun _ G _ ds vs => RepL K G vs ds
def ArgR (K : Kw) (G H : Hp) : Slot → V → Prop
  | .val d, v => Rep K G v d
  | .bor d, v => ∃ a, v = .ref a ∧ Top K G H a d
  | .bt t, v => ∃ fp, Own K G H v t fp
  | _, _ => False
abbrev ArgsR (K : Kw) (G H : Hp) : List Slot → List V → Prop := Paired (ArgR K G H)
abbrev relS (K : Kw) : Hp → Hp → Hp → List Slot → List V → Prop := fun _ G H ss vs => ArgsR K G H ss vs
section
variable {C : Cn} {W : WX} {σ : St} {G H G1 H1 : Hp} {α β γ ε : Type}
theorem ROk.exc_step {rel : Hp → Hp → α → β → Prop} {x : Exn} {Q : β → Hp → Prop} (st : Stp G H G1 H1) (h : ROk C W σ G H rel (.exc x) Q) {rel' : Hp → Hp → γ → ε → Prop} {Q' : ε → Hp → Prop} : ROk C W σ G1 H1 rel' (.exc x) Q' :=
  fun cls d G' H' s r => h cls d G' H' (st.trans s) r
theorem snd_bind {rel1 : Hp → Hp → Hp → α → β → Prop} {rel2 : Hp → Hp → Hp → γ → ε → Prop} (down : ∀ H0 H1 G H a v, Same H0 H1 → rel2 H1 G H a v → rel2 H0 G H a v) {t1 : St → Hp → (β → Hp → Prop) → Prop} {m1 : DEnv → Res α} (h1 : Snd C W rel1 t1 m1)
    {t2 : β → St → Hp → (ε → Hp → Prop) → Prop} {m2 : α → DEnv → Res γ}
    (h2 : ∀ a v B G0 G H σ δ H0, StR C B G0 G H σ δ → rel1 H0 G H a v → ∀ Q, ROk C W σ G H (rel2 H) (m2 a δ) Q → t2 v σ H Q) :
    Snd C W rel2 (fun σ H Q => t1 σ H fun v H1 => t2 v σ H1 Q) (fun δ => (m1 δ).bind fun a => m2 a δ) := by
  intro B G0 G H σ δ S Q hq
  refine h1 B G0 G H σ δ S _ ?_
  show ROk C W σ G H (rel1 H) (m1 δ) _
  have hq' : ROk C W σ G H (rel2 H) ((m1 δ).bind fun a => m2 a δ) Q := hq
  generalize m1 δ = r at hq'
  cases r with
  | stuck => exact hq'.elim
  | exc x => exact fun cls d G' H' st r => hq' cls d G' H' st r
  | ok a =>
    intro v G' H' st r
    refine h2 a v B G0 G' H' σ δ H (S.step st) r Q ?_
    have hq2 : ROk C W σ G H (rel2 H) (m2 a δ) Q := hq'
    generalize m2 a δ = r2 at hq2
    cases r2 with
    | stuck => exact hq2.elim
    | exc x => exact fun cls d G2 H2 s2 r => hq2 cls d G2 H2 (st.trans s2) r
    | ok c => exact fun u G2 H2 s2 r => hq2 u G2 H2 (st.trans s2) (down _ _ _ _ _ _ st.h r)
/-- a pure end: nothing is done -/
theorem rok_ok {rel : Hp → Hp → α → β → Prop} {a : α} {Q : β → Hp → Prop} (h : ROk C W σ G H rel (.ok a) Q) (s : Same G H) {v : β} (r : rel G H a v) : Q v H := h v G H (Stp.refl s) r
theorem downE {K : Kw} : ∀ H0 H1 G H a v, Same H0 H1 → relE K H1 G H a v → relE K H0 G H a v := fun _ _ _ _ _ _ s r => ResF.mono0 s r
theorem downV {K : Kw} : ∀ H0 H1 G H a v, Same H0 H1 → relV K H1 G H a v → relV K H0 G H a v := fun _ _ _ _ _ _ _ r => r
theorem downD {K : Kw} : ∀ H0 H1 G H a v, Same H0 H1 → relD K H1 G H a v → relD K H0 G H a v := fun _ _ _ _ _ _ _ r => r
theorem downB : ∀ H0 H1 G H a v, Same H0 H1 → relB H1 G H a v → relB H0 G H a v := fun _ _ _ _ _ _ _ r => r
theorem downL {K : Kw} : ∀ H0 H1 G H a v, Same H0 H1 → relL K H1 G H a v → relL K H0 G H a v := fun _ _ _ _ _ _ _ r => r
theorem downS {K : Kw} : ∀ H0 H1 G H a v, Same H0 H1 → relS K H1 G H a v → relS K H0 G H a v := fun _ _ _ _ _ _ _ r => r
/-- .. and a dict that is told is locked -/
def tLk (t : TE) : TE := fun σ H Q => t σ H fun v H1 => Frz H1 v (Q v)
theorem pe_lk {X : Cx} {e : Expr} {t : TE} (h : PE X e t) : PE X e (tLk t) := by
  refine ⟨fun pins s σ H Q I hw => ?_⟩
  refine thn (h.run pins s σ _ _ I hw) fun v s1 ⟨x, H1, I2, r, q⟩ => ?_
  rcases q with q | ⟨a, u, ev, ha, mu, q⟩
  · exact ⟨x, H1, I2, r, q⟩
  · obtain ⟨od, I3⟩ := I2.lock ha mu
    exact ⟨x, _, I3, r, q od⟩
/-- a slot's result as a value that may last, as a readable one -/
theorem snd_v {t : TE} {m : DEnv → Res Slot} (h : Snd C W (relE C.K) t m) : Snd C W (relV C.K) (tLk t) (fun δ => (m δ).bind Slot.vl) := by
  intro B G0 G H σ δ S Q hq
  refine h B G0 G H σ δ S _ ?_
  have hq' : ROk C W σ G H (relV C.K H) ((m δ).bind Slot.vl) Q := hq
  generalize m δ = r at hq'
  cases r with
  | stuck => exact hq'.elim
  | exc x => exact hq'
  | ok s =>
    intro v G' H' st r
    have hq2 : ROk C W σ G H (relV C.K H) s.vl Q := hq'
    cases e : s.vl with
    | stuck => rw [e] at hq2; exact hq2.elim
    | exc x => exact (vl_noexc e).elim
    | ok d =>
      rw [e] at hq2
      exact ResF.vl st r e fun G2 H2 s2 _ rp => hq2 v G2 H2 s2 rp
theorem snd_d {t : TE} {m : DEnv → Res Slot} (h : Snd C W (relE C.K) t m) : Snd C W (relD C.K) t (fun δ => (m δ).bind Slot.rd) := by
  intro B G0 G H σ δ S Q hq
  refine h B G0 G H σ δ S Q ?_
  have hq' : ROk C W σ G H (relD C.K H) ((m δ).bind Slot.rd) Q := hq
  generalize m δ = r at hq'
  cases r with
  | stuck => exact hq'.elim
  | exc x => exact hq'
  | ok s =>
    intro v G' H' st r
    have hq2 : ROk C W σ G H (relD C.K H) s.rd Q := hq'
    cases e : s.rd with
    | stuck => rw [e] at hq2; exact hq2.elim
    | exc x => exact (rd_noexc e).elim
    | ok d => rw [e] at hq2; exact hq2 v G' H' st (ResF.rd r e)
end
/-! ### 2. judgements -/
abbrev ME := DEnv → Res Slot
abbrev MD := DEnv → Res PyData
abbrev MT := DEnv → Res Bool
abbrev ML := DEnv → Res (List PyData)
def DE (X : Cx) (a : Ax) (W : WX) (e : Expr) (m : ME) : Prop := ∃ t, PE X e t ∧ Snd (cn X a) W (relE X.kw) t m
def DV (X : Cx) (a : Ax) (W : WX) (e : Expr) (m : MD) : Prop := ∃ t, PE X e t ∧ Snd (cn X a) W (relV X.kw) t m
def DR (X : Cx) (a : Ax) (W : WX) (e : Expr) (m : MD) : Prop := ∃ t, PE X e t ∧ Snd (cn X a) W (relD X.kw) t m
def DT (X : Cx) (a : Ax) (W : WX) (e : Expr) (m : MT) : Prop := ∃ t, PT X e t ∧ Snd (cn X a) W relB t m
def DA (X : Cx) (a : Ax) (W : WX) (es : List Expr) (m : ML) : Prop := ∃ t, PA X es t ∧ Snd (cn X a) W (relL X.kw) t m
def DAS (X : Cx) (a : Ax) (W : WX) (es : List Expr) (m : DEnv → Res (List Slot)) : Prop := ∃ t, PA X es t ∧ Snd (cn X a) W (relS X.kw) t m
def mV (m : ME) : MD := fun δ => (m δ).bind Slot.vl
def mR (m : ME) : MD := fun δ => (m δ).bind Slot.rd
/-- a value as a slot -/
def Res.v (r : Res PyData) : Res Slot := r.bind fun d => .ok (.val d)
section
variable {X : Cx} {a : Ax} {W : WX} {e e1 e2 e3 : Expr} {es : List Expr} {pos : Pos}
theorem dv {m : ME} (h : DE X a W e m) : DV X a W e (mV m) := let ⟨t, p, s⟩ := h; ⟨_, pe_lk p, snd_v s⟩
theorem dr {m : ME} (h : DE X a W e m) : DR X a W e (mR m) := let ⟨t, p, s⟩ := h; ⟨t, p, snd_d s⟩
/-! names and constants -/
def mVar (i : Nat) : ME := fun δ => match δ[i]? with
  | some (some (.val d)) => .ok (.val d)
  | some (some (.own d)) => .ok (.bor d)
  | some (some (.bor d)) => .ok (.bor d)
  | some (some (.tr t)) => .ok (.bt t)
  | some (some (.bt t)) => .ok (.bt t)
  | _ => .stuck
theorem snd_var {C : Cn} {i : Nat} : Snd C W (relE C.K) (tVar i) (mVar i) := by
  intro B G0 G H σ δ S Q hq
  have hq' : ROk C W σ G H (relE C.K H) (mVar i δ) Q := hq
  unfold mVar at hq'
  split at hq'
  · rename_i d e
    obtain ⟨v, fp, q, r, _⟩ := S.sl e
    exact ⟨v, q, hq' v G H (Stp.refl S.gh) r.2⟩
  · rename_i d e
    obtain ⟨v, fp, q, ⟨b, ev, ef, t⟩, _⟩ := S.sl e
    exact ⟨v, q, hq' v G H (Stp.refl S.gh) ⟨b, ev, t⟩⟩
  · rename_i d e
    obtain ⟨v, fp, q, ⟨b, ev, ef, nb, t⟩, _⟩ := S.sl e
    exact ⟨v, q, hq' v G H (Stp.refl S.gh) ⟨b, ev, t⟩⟩
  · rename_i t e
    obtain ⟨v, fp, q, r, _⟩ := S.sl e
    exact ⟨v, q, hq' v G H (Stp.refl S.gh) ⟨fp, r⟩⟩
  · rename_i t e
    obtain ⟨v, fp, q, ⟨_, fq, r, _⟩, _⟩ := S.sl e
    exact ⟨v, q, hq' v G H (Stp.refl S.gh) ⟨fq, r⟩⟩
  · exact hq'.elim
theorem de_var (i : Nat) {x : Str} {pos : Pos} (hN : X.N[i]? = some x := by rfl) (hv : Vis X.env.scope x := by first | exact Or.inl rfl | exact Or.inr (Or.inl rfl) | exact Or.inr (Or.inr rfl)) (hd : (x == ("__debug__" : Str)) = false := by decide)
    (hcd : (x == ("__classdict__" : Str)) = false := by decide) : DE X a W (.Name x pos) (mVar i) := ⟨_, pe_var hN hv hd hcd, snd_var⟩
/-- a value that is known -/
def mC (d : PyData) : ME := fun _ => .ok (.val d)
theorem snd_c {C : Cn} {v : V} {d : PyData} (h : ∀ G, Rep C.K G v d) : Snd C W (relE C.K) (tC v) (mC d) := fun B G0 G H σ δ S Q hq => hq v G H (Stp.refl S.gh) (h G)
theorem de_int {i j} : DE X a W (.Constant (.int i) j pos) (mC (.int i)) := ⟨_, pe_int, snd_c fun _ => .int i⟩
theorem de_bl {b j} : DE X a W (.Constant (.bool b) j pos) (mC (.bool b)) := ⟨_, pe_bl, snd_c fun _ => .bl b⟩
theorem de_non {j} : DE X a W (.Constant .none j pos) (mC .none) := ⟨_, pe_non, snd_c fun _ => .non⟩
theorem de_str {x j} : DE X a W (.Constant (.str x) j pos) (mC (.str x)) := ⟨_, pe_str, snd_c fun _ => .str x⟩
/-- a module's constant -/
theorem de_glob {x : Str} {v : V} {u : Value} {d : PyData} (hg : Gl X x) (hm : X.mg x = some u) (r : RelV v u) (h : ∀ G, Rep X.kw G v d) (hd : (x == ("__debug__" : Str)) = false := by decide) : DE X a W (.Name x pos) (mC d) := ⟨_, pe_glob hg hm r hd, snd_c h⟩
/-! operators -/
/-- f tells what the rule r does -/
def OpS (K : Kw) (r : R2) (f : PyData → PyData → Res Slot) : Prop :=
  ∀ (G H : Hp) (x y : V) (d e : PyData) (s : Slot) (Q : VK), Same G H → RdR K G H x d → RdR K G H y e → f d e = .ok s → (∀ v G' H', Stp G H G' H' → ResF K H G' H' s v → Q v H') → r x y H Q
/-- f never refuses -/
def NoExc (f : PyData → PyData → Res Slot) : Prop := ∀ d e x, f d e ≠ .exc x
def mB (f : PyData → PyData → Res Slot) (ma mb : MD) : ME := fun δ => (ma δ).bind fun d => (mb δ).bind fun e => f d e
theorem snd_op {C : Cn} {r : R2} {f : PyData → PyData → Res Slot} (hf : OpS C.K r f) (hn : NoExc f) {ta tb : TE} {ma mb : MD} (ha : Snd C W (relD C.K) ta ma) (hb : Snd C W (relD C.K) tb mb) : Snd C W (relE C.K) (tOp r ta tb) (mB f ma mb) := by
  refine snd_bind (rel1 := relD C.K) (rel2 := relE C.K) downE ha (t2 := fun x σ H Q => tb σ H fun y H2 => r x y H2 Q) (m2 := fun d δ => (mb δ).bind fun e => f d e) ?_
  intro d x B G0 G H σ δ H0 S rd Q hq
  refine hb B G0 G H σ δ S _ ?_
  have hq' : ROk C W σ G H (relE C.K H) ((mb δ).bind fun e => f d e) Q := hq
  generalize mb δ = rb at hq'
  cases rb with
  | stuck => exact hq'.elim
  | exc z => exact hq'
  | ok e =>
    intro y G' H' st ry
    have hq2 : ROk C W σ G H (relE C.K H) (f d e) Q := hq'
    cases ef : f d e with
    | stuck => rw [ef] at hq2; exact hq2.elim
    | exc z => exact (hn d e z ef).elim
    | ok s =>
      rw [ef] at hq2
      exact hf G' H' x y d e s Q st.gh (rd.mono st.g st.h) ry ef fun v G2 H2 s2 rv => hq2 v G2 H2 (st.trans s2) (rv.mono0 st.h)
theorem de_op {op : Operator} {r : R2} {f : PyData → PyData → Res Slot} (hf : OpS X.kw r f) (hn : NoExc f) (ho : OpR X (binaryOp op) r) {ma mb : MD} (ha : DR X a W e1 ma) (hb : DR X a W e2 mb) : DE X a W (.BinOp e1 op e2 pos) (mB f ma mb) :=
  let ⟨_, pa, sa⟩ := ha; let ⟨_, pb, sb⟩ := hb; ⟨_, pe_op ho pa pb, snd_op (C := cn X a) hf hn sa sb⟩
theorem de_cmp {op : CmpOp} {r : R2} {f : PyData → PyData → Res Slot} (hf : OpS X.kw r f) (hn : NoExc f) (ho : OpR X (compareOp op) r) {ma mb : MD} (ha : DR X a W e1 ma) (hb : DR X a W e2 mb) (hm : behindInMarks op e2 = false) : DE X a W (.Compare e1 [op] [e2] pos) (mB f ma mb) :=
  let ⟨_, pa, sa⟩ := ha; let ⟨_, pb, sb⟩ := hb; ⟨_, pe_cmpR ho pa pb hm, snd_op (C := cn X a) hf hn sa sb⟩
/-- the truth of a slot that holds a bool -/
def Slot.bl : Slot → Res Bool
  | .val (.bool b) => .ok b
  | _ => .stuck
def mTest (m : ME) : MT := fun δ => (m δ).bind Slot.bl
theorem snd_test {C : Cn} {t : TE} {m : ME} (h : Snd C W (relE C.K) t m) : Snd C W relB (tTest t) (mTest m) := by
  intro B G0 G H σ δ S Q hq
  refine h B G0 G H σ δ S _ ?_
  have hq' : ROk C W σ G H (relB H) ((m δ).bind Slot.bl) Q := hq
  generalize m δ = r at hq'
  cases r with
  | stuck => exact hq'.elim
  | exc x => exact hq'
  | ok s =>
    intro v G' H' st r
    have hq2 : ROk C W σ G H (relB H) s.bl Q := hq'
    unfold Slot.bl at hq2
    split at hq2
    · have r' : Rep C.K G' v (.bool _) := r
      cases r'
      exact ⟨_, rfl, hq2 _ G' H' st rfl⟩
    · exact hq2.elim
theorem dt_cmp {op : CmpOp} {r : R2} {f : PyData → PyData → Res Slot} (hf : OpS X.kw r f) (hn : NoExc f) (ho : OpR X (compareOp op) r) {ma mb : MD} (ha : DR X a W e1 ma) (hb : DR X a W e2 mb) (hm : behindInMarks op e2 = false) : DT X a W (.Compare e1 [op] [e2] pos) (mTest (mB f ma mb)) :=
  let ⟨_, pa, sa⟩ := ha; let ⟨_, pb, sb⟩ := hb; ⟨_, pt_cmpR ho pa pb hm, snd_test (C := cn X a) (snd_op (C := cn X a) hf hn sa sb)⟩
/-- an expression that gives a bool, as a test -/
theorem dt_val {m : ME} (h : DE X a W e m) (he : ∀ whole, isTrue e X.env whole = (do let v ← whole; standAt e.pos; holding [v] (truthy v)) := by intro _; rfl) : DT X a W e (mTest m) :=
  let ⟨_, p, s⟩ := h; ⟨_, pt_val p he, snd_test (C := cn X a) s⟩
/-! and, or, not -/
def mAnd (m n : MT) : MT := fun δ => (m δ).bind fun b => if b = true then n δ else .ok false
def mOr (m n : MT) : MT := fun δ => (m δ).bind fun b => if b = true then .ok true else n δ
def mNot (m : MT) : MT := fun δ => (m δ).bind fun b => .ok (!b)
theorem snd_and {C : Cn} {t u : TT} {m n : MT} (h : Snd C W relB t m) (k : Snd C W relB u n) : Snd C W relB (tAnd t u) (mAnd m n) := by
  refine snd_bind (rel1 := relB) (rel2 := relB) downB h (t2 := fun c σ H Q => if c = true then u σ H Q else Q false H) (m2 := fun b δ => if b = true then n δ else .ok false) ?_
  intro b c B G0 G H σ δ H0 S e Q hq
  cases e
  cases b with
  | true =>
    show u σ H Q
    exact k B G0 G H σ δ S Q hq
  | false =>
    show Q false H
    exact hq false G H (Stp.refl S.gh) rfl
theorem snd_or {C : Cn} {t u : TT} {m n : MT} (h : Snd C W relB t m) (k : Snd C W relB u n) : Snd C W relB (tOr t u) (mOr m n) := by
  refine snd_bind (rel1 := relB) (rel2 := relB) downB h (t2 := fun c σ H Q => if c = true then Q true H else u σ H Q) (m2 := fun b δ => if b = true then .ok true else n δ) ?_
  intro b c B G0 G H σ δ H0 S e Q hq
  cases e
  cases b with
  | true =>
    show Q true H
    exact hq true G H (Stp.refl S.gh) rfl
  | false =>
    show u σ H Q
    exact k B G0 G H σ δ S Q hq
theorem snd_not {C : Cn} {t : TT} {m : MT} (h : Snd C W relB t m) : Snd C W relB (tNot t) (mNot m) := by
  refine snd_bind (rel1 := relB) (rel2 := relB) downB h (t2 := fun c σ H Q => Q (!c) H) (m2 := fun b δ => .ok (!b)) ?_
  intro b c B G0 G H σ δ H0 S e Q hq
  cases e
  exact hq (!b) G H (Stp.refl S.gh) rfl
def DW (X : Cx) (a : Ax) (W : WX) (e : Expr) (m : MT) : Prop := ∃ t, PW X e t ∧ Snd (cn X a) W relB t m
theorem dw_and1 {m : MT} (h : DT X a W e m) : DW X a W (.BoolOp .And [e] pos) m := let ⟨t, p, s⟩ := h; ⟨t, pw_and1 p, s⟩
theorem dw_or1 {m : MT} (h : DT X a W e m) : DW X a W (.BoolOp .Or [e] pos) m := let ⟨t, p, s⟩ := h; ⟨t, pw_or1 p, s⟩
theorem dw_and {m n : MT} (h : DT X a W e m) (k : DW X a W (.BoolOp .And (e2 :: es) pos) n) : DW X a W (.BoolOp .And (e :: e2 :: es) pos) (mAnd m n) :=
  let ⟨_, p, s⟩ := h; let ⟨_, q, u⟩ := k; ⟨_, pw_and p q, snd_and s u⟩
theorem dw_or {m n : MT} (h : DT X a W e m) (k : DW X a W (.BoolOp .Or (e2 :: es) pos) n) : DW X a W (.BoolOp .Or (e :: e2 :: es) pos) (mOr m n) :=
  let ⟨_, p, s⟩ := h; let ⟨_, q, u⟩ := k; ⟨_, pw_or p q, snd_or s u⟩
theorem dt_w {m : MT} (h : DW X a W e m) : DT X a W e m := let ⟨t, p, s⟩ := h; ⟨t, p.pt, s⟩
theorem dt_not {m : MT} (h : DT X a W e m) : DT X a W (.UnaryOp .Not e pos) (mNot m) := let ⟨_, p, s⟩ := h; ⟨_, pt_not p, snd_not s⟩
/-- .. as values: bools -/
def mAndV (m n : ME) : ME := fun δ => (mTest m δ).bind fun b => if b = true then n δ else .ok (.val (.bool false))
def mOrV (m n : ME) : ME := fun δ => (mTest m δ).bind fun b => if b = true then .ok (.val (.bool true)) else n δ
def mNotV (m : ME) : ME := fun δ => (mTest m δ).bind fun b => .ok (.val (.bool (!b)))
theorem snd_andV {C : Cn} {t u : TE} {m n : ME} (h : Snd C W (relE C.K) t m) (k : Snd C W (relE C.K) u n) : Snd C W (relE C.K) (tAndV t u) (mAndV m n) := by
  intro B G0 G H σ δ S Q hq
  refine snd_test h B G0 G H σ δ S (fun c H1 => if c = true then u σ H1 Q else Q (.bl false) H1) ?_
  have hq' : ROk C W σ G H (relE C.K H) ((mTest m δ).bind fun b => if b = true then n δ else .ok (.val (.bool false))) Q := hq
  generalize mTest m δ = r at hq'
  cases r with
  | stuck => exact hq'.elim
  | exc x => exact hq'
  | ok b =>
    intro c G' H' st e
    cases e
    cases b with
    | true =>
      show u σ H' Q
      refine k B G0 G' H' σ δ (S.step st) Q ?_
      have hq2 : ROk C W σ G H (relE C.K H) (n δ) Q := hq'
      generalize n δ = r2 at hq2
      cases r2 with
      | stuck => exact hq2.elim
      | exc x => exact fun cls d G2 H2 s2 r => hq2 cls d G2 H2 (st.trans s2) r
      | ok c => exact fun v G2 H2 s2 r => hq2 v G2 H2 (st.trans s2) (ResF.mono0 st.h r)
    | false =>
      show Q (.bl false) H'
      exact hq' _ G' H' st (Rep.bl false)
theorem snd_orV {C : Cn} {t u : TE} {m n : ME} (h : Snd C W (relE C.K) t m) (k : Snd C W (relE C.K) u n) : Snd C W (relE C.K) (tOrV t u) (mOrV m n) := by
  intro B G0 G H σ δ S Q hq
  refine snd_test h B G0 G H σ δ S (fun c H1 => if c = true then Q (.bl true) H1 else u σ H1 Q) ?_
  have hq' : ROk C W σ G H (relE C.K H) ((mTest m δ).bind fun b => if b = true then .ok (.val (.bool true)) else n δ) Q := hq
  generalize mTest m δ = r at hq'
  cases r with
  | stuck => exact hq'.elim
  | exc x => exact hq'
  | ok b =>
    intro c G' H' st e
    cases e
    cases b with
    | false =>
      show u σ H' Q
      refine k B G0 G' H' σ δ (S.step st) Q ?_
      have hq2 : ROk C W σ G H (relE C.K H) (n δ) Q := hq'
      generalize n δ = r2 at hq2
      cases r2 with
      | stuck => exact hq2.elim
      | exc x => exact fun cls d G2 H2 s2 r => hq2 cls d G2 H2 (st.trans s2) r
      | ok c => exact fun v G2 H2 s2 r => hq2 v G2 H2 (st.trans s2) (ResF.mono0 st.h r)
    | true =>
      show Q (.bl true) H'
      exact hq' _ G' H' st (Rep.bl true)
theorem snd_notV {C : Cn} {t : TE} {m : ME} (h : Snd C W (relE C.K) t m) : Snd C W (relE C.K) (tNotV t) (mNotV m) := by
  intro B G0 G H σ δ S Q hq
  refine snd_test h B G0 G H σ δ S (fun c H1 => Q (.bl (!c)) H1) ?_
  have hq' : ROk C W σ G H (relE C.K H) ((mTest m δ).bind fun b => .ok (.val (.bool (!b)))) Q := hq
  generalize mTest m δ = r at hq'
  cases r with
  | stuck => exact hq'.elim
  | exc x => exact hq'
  | ok b =>
    intro c G' H' st e
    cases e
    exact hq' _ G' H' st (Rep.bl _)
theorem de_one {op} {m : ME} (h : DE X a W e m) : DE X a W (.BoolOp op [e] pos) m := let ⟨t, p, s⟩ := h; ⟨t, pe_one p, s⟩
theorem de_and {m n : ME} (h : DE X a W e m) (k : DE X a W (.BoolOp .And (e2 :: es) pos) n) : DE X a W (.BoolOp .And (e :: e2 :: es) pos) (mAndV m n) :=
  let ⟨_, p, s⟩ := h; let ⟨_, q, u⟩ := k; ⟨_, pe_and p q, snd_andV (C := cn X a) s u⟩
theorem de_or {m n : ME} (h : DE X a W e m) (k : DE X a W (.BoolOp .Or (e2 :: es) pos) n) : DE X a W (.BoolOp .Or (e :: e2 :: es) pos) (mOrV m n) :=
  let ⟨_, p, s⟩ := h; let ⟨_, q, u⟩ := k; ⟨_, pe_or p q, snd_orV (C := cn X a) s u⟩
theorem de_not {m : ME} (h : DE X a W e m) : DE X a W (.UnaryOp .Not e pos) (mNotV m) := let ⟨_, p, s⟩ := h; ⟨_, pe_not p, snd_notV (C := cn X a) s⟩
/-- a if t else b -/
def mIte (c : MT) (m n : ME) : ME := fun δ => (c δ).bind fun b => if b = true then m δ else n δ
theorem snd_ite {C : Cn} {tc : TT} {t u : TE} {c : MT} {m n : ME} (hc : Snd C W relB tc c) (h : Snd C W (relE C.K) t m) (k : Snd C W (relE C.K) u n) : Snd C W (relE C.K) (tIf tc t u) (mIte c m n) := by
  refine snd_bind (rel1 := relB) (rel2 := relE C.K) downE hc (t2 := fun c σ H Q => if c = true then t σ H Q else u σ H Q) (m2 := fun b δ => if b = true then m δ else n δ) ?_
  intro b c B G0 G H σ δ H0 S e Q hq
  cases e
  cases b with
  | true =>
    show t σ H Q
    exact h B G0 G H σ δ S Q hq
  | false =>
    show u σ H Q
    exact k B G0 G H σ δ S Q hq
theorem de_ite {c : MT} {m n : ME} (hc : DT X a W e1 c) (h : DE X a W e2 m) (k : DE X a W e3 n) : DE X a W (.IfExp e1 e2 e3 pos) (mIte c m n) :=
  let ⟨_, pc, sc⟩ := hc; let ⟨_, p, s⟩ := h; let ⟨_, q, u⟩ := k; ⟨_, pe_ifExp pc p q, snd_ite (C := cn X a) sc s u⟩
/-! argument lists, displays -/
def mNil : ML := fun _ => .ok []
def mCons (m : MD) (n : ML) : ML := fun δ => (m δ).bind fun d => (n δ).bind fun ds => .ok (d :: ds)
theorem snd_nil {C : Cn} : Snd C W (relL C.K) tNil mNil := fun B G0 G H σ δ S Q hq => hq [] G H (Stp.refl S.gh) .nil
theorem snd_cons {C : Cn} {t : TE} {u : TA} {m : MD} {n : ML} (h : Snd C W (relV C.K) t m) (k : Snd C W (relL C.K) u n) : Snd C W (relL C.K) (tCons t u) (mCons m n) := by
  refine snd_bind (rel1 := relV C.K) (rel2 := relL C.K) downL h (t2 := fun x σ H Q => u σ H fun xs H2 => Q (x :: xs) H2) (m2 := fun d δ => (n δ).bind fun ds => .ok (d :: ds)) ?_
  intro d x B G0 G H σ δ H0 S r Q hq
  refine k B G0 G H σ δ S _ ?_
  have hq' : ROk C W σ G H (relL C.K H) ((n δ).bind fun ds => .ok (d :: ds)) Q := hq
  generalize n δ = rn at hq'
  cases rn with
  | stuck => exact hq'.elim
  | exc z => exact hq'
  | ok ds => exact fun xs G' H' st rs => hq' (x :: xs) G' H' st (.cons (r.mono st.g) rs)
theorem da_nil : DA X a W [] mNil := ⟨_, pa_nil, snd_nil⟩
theorem da_cons {m : MD} {n : ML} (h : DV X a W e m) (k : DA X a W es n) (hs : starEach (e :: es) X.env = (false, eval e X.env) :: starEach es X.env := by rfl) : DA X a W (e :: es) (mCons m n) :=
  let ⟨_, p, s⟩ := h; let ⟨_, q, u⟩ := k; ⟨_, pa_cons p q hs, snd_cons (C := cn X a) s u⟩
def fits {α : Type} (ds : List α) : Bool := decide (ds.length ≤ sizeLine)
def mTup (m : ML) : ME := fun δ => (m δ).bind fun ds => if fits ds = true then .ok (.val (.tuple ds)) else .stuck
def mLst (m : ML) : ME := fun δ => (m δ).bind fun ds => if fits ds = true then .ok (.own (.list ds)) else .stuck
theorem snd_tup {C : Cn} {t : TA} {m : ML} (h : Snd C W (relL C.K) t m) : Snd C W (relE C.K) (tTup t) (mTup m) := by
  refine snd_bind (rel1 := relL C.K) (rel2 := relE C.K) downE h (t2 := fun xs _ H Q => xs.length ≤ sizeLine ∧ ∀ p, H p = none → Q (.ref p) (upd H p (.tup xs))) (m2 := fun ds _ => if fits ds = true then .ok (.val (.tuple ds)) else .stuck) ?_
  intro ds xs B G0 G H σ δ H0 S r Q hq
  by_cases hz : fits ds = true
  · have hq' : ROk C W σ G H (relE C.K H) (if fits ds = true then .ok (.val (.tuple ds)) else .stuck) Q := hq
    rw [if_pos hz] at hq'
    refine ⟨by rw [RepL.length r]; exact of_decide_eq_true hz, fun p hp => ?_⟩
    have st : Stp G H (upd G p (.tup xs)) (upd H p (.tup xs)) := Stp.new S.gh hp
    exact hq' _ _ _ st (Rep.tup (.inl (.inl upd_same)) (RepL.mono st.g r))
  · have hq' : ROk C W σ G H (relE C.K H) (if fits ds = true then .ok (.val (.tuple ds)) else .stuck) Q := hq
    rw [if_neg hz] at hq'
    exact hq'.elim
theorem snd_lst {C : Cn} {t : TA} {m : ML} (h : Snd C W (relL C.K) t m) : Snd C W (relE C.K) (tLst t) (mLst m) := by
  refine snd_bind (rel1 := relL C.K) (rel2 := relE C.K) downE h (t2 := fun xs _ H Q => xs.length ≤ sizeLine ∧ ∀ p, H p = none → Q (.ref p) (upd H p (.lst xs))) (m2 := fun ds _ => if fits ds = true then .ok (.own (.list ds)) else .stuck) ?_
  intro ds xs B G0 G H σ δ H0 S r Q hq
  by_cases hz : fits ds = true
  · have hq' : ROk C W σ G H (relE C.K H) (if fits ds = true then .ok (.own (.list ds)) else .stuck) Q := hq
    rw [if_pos hz] at hq'
    refine ⟨by rw [RepL.length r]; exact of_decide_eq_true hz, fun p hp => ?_⟩
    have st : Stp G H G (upd H p (.lst xs)) := Stp.newH S.gh hp
    exact hq' _ _ _ st ⟨p, rfl, S.gh.free hp, hp, xs, upd_same, r⟩
  · have hq' : ROk C W σ G H (relE C.K H) (if fits ds = true then .ok (.own (.list ds)) else .stuck) Q := hq
    rw [if_neg hz] at hq'
    exact hq'.elim
theorem de_tup {m : ML} {k} (h : DA X a W es m) : DE X a W (.Tuple es k pos) (mTup m) := let ⟨_, p, s⟩ := h; ⟨_, pe_tup p, snd_tup (C := cn X a) s⟩
theorem de_lst {m : ML} (h : DA X a W es m) : DE X a W (.List es pos) (mLst m) := let ⟨_, p, s⟩ := h; ⟨_, pe_lst p, snd_lst (C := cn X a) s⟩
end
end DL
/-! DLc: what code does, said over data: statements, loops, calls, refusals -/
namespace DL
open PySem L2
/-! ### 1. statements -/
abbrev MS := DEnv → Out
/-- what is given back: a value that lasts, or one's own, with nothing of it in the frame -/
def RvR (C : Cn) (G H : Hp) (fp : List Addr) : Slot → V → Prop
  | .val d, v => fp = [] ∧ Rep C.K G v d
  | .own d, v => ∃ a, v = .ref a ∧ fp = [a] ∧ Top C.K G H a d
  | .tr t, v => Own C.K G H v t fp
  | _, _ => False
structure RetR (C : Cn) (B G0 G H : Hp) (σ : St) (δ : DEnv) (s : Slot) (v : V) : Prop where
  st : StR C B G0 G H σ δ
  en : ∃ fps fp, EnR C B G H σ δ fps ∧ RvR C G H fp s v ∧ fp.Nodup ∧ ∀ a ∈ fp, (B a = none ∧ G a = none) ∧ ∀ i, a ∉ fps i
theorem RetR.res {C : Cn} {B G0 G H : Hp} {σ : St} {δ : DEnv} {s : Slot} {v : V} (r : RetR C B G0 G H σ δ s v) : ResF C.K B G H s v := by
  obtain ⟨fps, fp, E, z, nd, q⟩ := r.en
  cases s with
  | val d => exact z.2
  | own d => obtain ⟨b, e, ef, t⟩ := z; subst ef; exact ⟨b, e, (q b List.mem_cons_self).1.2, (q b List.mem_cons_self).1.1, t⟩
  | tr t => exact ⟨fp, z, nd, fun b hb => ⟨(q b hb).1.2, (q b hb).1.1⟩⟩
  | bor d => exact z.elim
  | bt t => exact z.elim
  | exn x => exact z.elim
theorem RetR.unbase {C : Cn} {B G0 G H : Hp} {σ : St} {δ : DEnv} (S : StR C B G0 G H σ δ) {σ' : St} {δ' : DEnv} {G' H' : Hp} {s : Slot} {v : V} (r : RetR C B G G' H' σ' δ' s v) : RetR C B G0 G' H' σ' δ' s v := ⟨S.unbase r.st, r.en⟩
/-- a new result is given back -/
theorem ret_new {C : Cn} {B G0 G H G' H' : Hp} {σ : St} {δ : DEnv} {s : Slot} {v : V} (S : StR C B G0 G H σ δ) (st : Stp G H G' H') (r : ResF C.K H G' H' s v) (hs : (∃ d, s = .val d) ∨ (∃ d, s = .own d) ∨ ∃ t, s = .tr t) : RetR C B G0 G' H' σ δ s v := by
  obtain ⟨fps, E⟩ := S.en
  have off : ∀ b, H b = none → ∀ i, b ∉ fps i := fun b n i z => E.there z n
  refine ⟨S.step st, ?_⟩
  rcases hs with ⟨d, rfl⟩ | ⟨d, rfl⟩ | ⟨t, rfl⟩
  · exact ⟨fps, [], E.step S.bh st, ⟨rfl, r⟩, List.nodup_nil, fun a ha => nomatch ha⟩
  · obtain ⟨b, e, n, n0, t⟩ := r
    exact ⟨fps, [b], E.step S.bh st, ⟨b, e, rfl, t⟩, by simp, fun a ha => by rw [List.mem_singleton] at ha; subst ha; exact ⟨⟨S.bh.free n0, n⟩, off _ n0⟩⟩
  · obtain ⟨fp, o, nd, q⟩ := r
    exact ⟨fps, fp, E.step S.bh st, o, nd, fun a ha => ⟨⟨S.bh.free (q a ha).2, (q a ha).1⟩, off _ (q a ha).2⟩⟩
def OOk (C : Cn) (W : WX) (B G0 : Hp) (D : Ends) (o : Out) : Prop :=
  match o with
  | .nx δ' => ∀ σ' G' H', StR C B G0 G' H' σ' δ' → D.nx σ' H'
  | .bk δ' => ∀ σ' G' H', StR C B G0 G' H' σ' δ' → D.bk σ' H'
  | .ct δ' => ∀ σ' G' H', StR C B G0 G' H' σ' δ' → D.ct σ' H'
  | .rt s δ' => ∀ v σ' G' H', RetR C B G0 G' H' σ' δ' s v → D.rt v H'
  | .ex x δ' => ∀ cls d σ' G' H', StR C B G0 G' H' σ' δ' → ExR C G' H' x cls d → W cls d σ' H'
  | .stuck => False
def SndS (C : Cn) (W : WX) (t : TS) (m : MS) : Prop :=
  ∀ B G0 G H σ δ (D : Ends), StR C B G0 G H σ δ → OOk C W B G0 D (m δ) → t D σ H
def DS (X : Cx) (a : Ax) (W : WX) (st : Stmt) (m : MS) : Prop := ∃ t, PS X st t ∧ SndS (cn X a) W t m
def DSs (X : Cx) (a : Ax) (W : WX) (st : List Stmt) (m : MS) : Prop := ∃ t, PSs X st t ∧ SndS (cn X a) W t m
/-- what an expression's result does next -/
def Res.out {α : Type} (r : Res α) (δ : DEnv) (f : α → Out) : Out := match r with
  | .ok a => f a
  | .exc x => .ex x δ
  | .stuck => .stuck
theorem out_ok {α : Type} (a : α) (δ : DEnv) (f : α → Out) : (Res.ok a).out δ f = f a := rfl
theorem out_exc {α : Type} (x : Exn) (δ : DEnv) (f : α → Out) : (Res.exc x : Res α).out δ f = .ex x δ := rfl
section
variable {C : Cn} {W : WX} {α β : Type} {B G0 G H : Hp} {σ : St} {δ : DEnv} {D : Ends}
/-- an expression, then what its result does -/
theorem snd_out {rel : Hp → Hp → Hp → α → β → Prop} {t : St → Hp → (β → Hp → Prop) → Prop} {m : DEnv → Res α} (h : Snd C W rel t m) (S : StR C B G0 G H σ δ) {f : α → Out} (k : OOk C W B G0 D ((m δ).out δ f)) {R : β → Hp → Prop}
    (hf : ∀ a v G' H', m δ = .ok a → Stp G H G' H' → rel H G' H' a v → OOk C W B G0 D (f a) → R v H') : t σ H R := by
  refine h B G0 G H σ δ S R ?_
  cases e : m δ with
  | stuck => rw [e] at k; exact k.elim
  | exc x => rw [e] at k; exact fun cls d G' H' st r => k cls d σ G' H' (S.step st) r
  | ok a => rw [e] at k; exact fun v G' H' st r => hf a v G' H' e st r k
/-- the state behind nx is a base's -/
theorem OOk.unbase (S : StR C B G0 G H σ δ) {o : Out} (h : OOk C W B G0 D o) : OOk C W B G D o := by
  cases o with
  | nx δ' => exact fun σ' G' H' T => h σ' G' H' (S.unbase T)
  | bk δ' => exact fun σ' G' H' T => h σ' G' H' (S.unbase T)
  | ct δ' => exact fun σ' G' H' T => h σ' G' H' (S.unbase T)
  | rt s δ' => exact fun v σ' G' H' T => h v σ' G' H' (T.unbase S)
  | ex x δ' => exact fun cls d σ' G' H' T r => h cls d σ' G' H' (S.unbase T) r
  | stuck => exact h
end
def mSeq (m n : MS) : MS := fun δ => match m δ with
  | .nx δ' => n δ'
  | o => o
def mNext : MS := fun δ => .nx δ
section
variable {X : Cx} {a : Ax} {W : WX} {e e1 e2 : Expr} {es : List Expr} {st : Stmt} {sts : List Stmt} {pos : Pos}
theorem sndS_seq {C : Cn} {t u : TS} {m n : MS} (h : SndS C W t m) (k : SndS C W u n) : SndS C W (tSeq t u) (mSeq m n) := by
  intro B G0 G H σ δ D S q
  refine h B G0 G H σ δ { D with nx := u D } S ?_
  have q' : OOk C W B G0 D (match m δ with | .nx δ' => n δ' | o => o) := q
  generalize m δ = o at q'
  cases o with
  | nx δ' => exact fun σ' G' H' T => k B G0 G' H' σ' δ' D T q'
  | bk δ' => exact q'
  | ct δ' => exact q'
  | rt s δ' => exact q'
  | ex x δ' => exact q'
  | stuck => exact q'
theorem dss_nil : DSs X a W [] mNext := ⟨_, pss_nil, fun B G0 G H σ δ D S q => q σ G H S⟩
theorem dss_cons {m n : MS} (h : DS X a W st m) (k : DSs X a W sts n) : DSs X a W (st :: sts) (mSeq m n) := let ⟨_, p, s⟩ := h; let ⟨_, q, u⟩ := k; ⟨_, pss_cons p q, sndS_seq s u⟩
theorem dss_one {m : MS} (h : DS X a W st m) : DSs X a W [st] m := let ⟨_, p, s⟩ := h; ⟨_, pss_one p, s⟩
theorem ds_pass : DS X a W (.Pass pos) mNext := ⟨_, ps_pass, fun B G0 G H σ δ D S q => q σ G H S⟩
def mBk : MS := fun δ => .bk δ
def mCt : MS := fun δ => .ct δ
theorem ds_break : DS X a W (.Break pos) mBk := ⟨_, ps_break, fun B G0 G H σ δ D S q => q σ G H S⟩
theorem ds_continue : DS X a W (.Continue pos) mCt := ⟨_, ps_continue, fun B G0 G H σ δ D S q => q σ G H S⟩
theorem ds_doc {x j pos'} : DS X a W (.Expr (.Constant (.str x) j pos) pos') mNext := ⟨_, ps_doc, fun B G0 G H σ δ D S q => q σ G H S⟩
/-- one's own things at a place become lasting: no code -/
def frz (i : Nat) (δ : DEnv) : DEnv := match δ[i]? with
  | some (some (.own d)) => δ.set i (some (.val d))
  | _ => δ
def mFrz (i : Nat) (m : MS) : MS := fun δ => m (frz i δ)
def tLkS (t : TS) : TS := fun D σ H => ∃ v, Frz H v fun H' => t D σ H'
theorem ps_lk {st : Stmt} {t : TS} (h : PS X st t) : PS X st (tLkS t) := by
  refine ⟨fun pins s σ H D I hw => ?_⟩
  obtain ⟨v, hw | ⟨a, u, ev, ha, mu, hw⟩⟩ := hw
  · exact h.run pins s σ H D I hw
  · obtain ⟨od, I1⟩ := I.lock ha mu
    exact h.run pins s σ _ D I1 (hw od)
theorem pss_lk {st : List Stmt} {t : TS} (h : PSs X st t) : PSs X st (tLkS t) := by
  refine ⟨fun pins s σ H D I hw => ?_⟩
  obtain ⟨v, hw | ⟨a, u, ev, ha, mu, hw⟩⟩ := hw
  · exact h.run pins s σ H D I hw
  · obtain ⟨od, I1⟩ := I.lock ha mu
    exact h.run pins s σ _ D I1 (hw od)
theorem sndS_frz {C : Cn} {t : TS} {m : MS} (i : Nat) (h : SndS C W t m) : SndS C W (tLkS t) (mFrz i m) := by
  intro B G0 G H σ δ D S q
  have q' : OOk C W B G0 D (m (frz i δ)) := q
  unfold frz at q'
  split at q'
  · rename_i d e
    exact S.freeze e fun G' H' S' => h B G0 G' H' σ _ D S' q'
  · exact ⟨.non, .inl (h B G0 G H σ δ D S q')⟩
theorem ds_frz {m : MS} (i : Nat) (h : DS X a W st m) : DS X a W st (mFrz i m) := let ⟨t, p, s⟩ := h; ⟨_, ps_lk p, sndS_frz i s⟩
theorem dss_frz {m : MS} (i : Nat) (h : DSs X a W sts m) : DSs X a W sts (mFrz i m) := let ⟨t, p, s⟩ := h; ⟨_, pss_lk p, sndS_frz i s⟩
/-- an expression for nothing -/
def mDrop (m : ME) : MS := fun δ => (m δ).out δ fun _ => .nx δ
theorem ds_expr {m : ME} (h : DE X a W e m) (hs : swapsWith e none pos.line X.env = pure false := by rfl) : DS X a W (.Expr e pos) (mDrop m) := by
  obtain ⟨t, p, s⟩ := h
  refine ⟨_, ps_expr p hs, fun B G0 G H σ δ D S q => ?_⟩
  refine snd_out s S (R := fun _ H1 => D.nx σ H1) (f := fun _ => .nx δ) q fun _ v G' H' _ st _ k => k σ G' H' (S.step st)
/-- i is no place of what was lent -/
def Ax.free (a : Ax) (i : Nat) : Prop := ∀ p ∈ a.R, p.1 ≠ i
theorem free1 {ec : EC → Addr} {A : Addr → Exn → Prop} {j : Nat} {v : V} {i : Nat} (h : j ≠ i) : Ax.free ⟨ec, A, [(j, v)]⟩ i := fun p hp => by
  rw [List.mem_singleton] at hp; subst hp; exact h
theorem free2 {ec : EC → Addr} {A : Addr → Exn → Prop} {j k : Nat} {v u : V} {i : Nat} (h : j ≠ i) (h2 : k ≠ i) : Ax.free ⟨ec, A, [(j, v), (k, u)]⟩ i := fun p hp => by
  rcases List.mem_cons.mp hp with rfl | hp
  · exact h
  · rw [List.mem_singleton] at hp; subst hp; exact h2
theorem free0 {ec : EC → Addr} {A : Addr → Exn → Prop} {i : Nat} : Ax.free ⟨ec, A, []⟩ i := fun p hp => nomatch hp
/-- return e -/
def retS (δ : DEnv) : Slot → Out
  | .val d => .rt (.val d) δ
  | .own d => .rt (.own d) δ
  | .tr t => .rt (.tr t) δ
  | _ => .stuck
def mRet (m : ME) : MS := fun δ => (m δ).out δ (retS δ)
theorem ds_ret {m : ME} (h : DE X a W e m) : DS X a W (.Return (some e) pos) (mRet m) := by
  obtain ⟨t, p, s⟩ := h
  refine ⟨_, ps_ret p, fun B G0 G H σ δ D S q => ?_⟩
  refine snd_out s S (R := D.rt) (f := retS δ) q fun sl v G' H' _ st r k => ?_
  cases sl with
  | val d => exact k v σ G' H' (ret_new S st r (.inl ⟨d, rfl⟩))
  | own d => exact k v σ G' H' (ret_new S st r (.inr (.inl ⟨d, rfl⟩)))
  | tr t => exact k v σ G' H' (ret_new S st r (.inr (.inr ⟨t, rfl⟩)))
  | bor d => exact k.elim
  | bt d => exact k.elim
  | exn x => exact k.elim
/-- return x, x a name -/
def mRetN (i : Nat) : MS := fun δ => match δ[i]? with
  | some (some (.val d)) => .rt (.val d) δ
  | some (some (.own d)) => .rt (.own d) (δ.set i none)
  | some (some (.tr t)) => .rt (.tr t) (δ.set i none)
  | _ => .stuck
theorem StR.moveOut {C : Cn} {B G0 G H : Hp} {σ : St} {δ : DEnv} {i : Nat} {s : Slot} (S : StR C B G0 G H σ δ) (hf : C.free i) (e : δ[i]? = some (some s)) (hs : (∃ d, s = .own d) ∨ ∃ t, s = .tr t) : ∃ v, σ[i]? = some (some v) ∧ RetR C B G0 G H σ (δ.set i none) s v := by
  obtain ⟨fps, E⟩ := S.en
  obtain ⟨v, q, r⟩ := E.sl i s e
  have T := S.setNone hf (some v)
  rw [set_id q] at T
  have E' : EnR C B G H σ (δ.set i none) (fset fps i []) := by
    refine ⟨fun j u ej => ?_, fun j ej => ?_, fun j => ?_, fun j k a hjk ha => ?_, fun j a ha => ?_⟩
    · by_cases hj : i = j
      · subst hj
        rw [List.getElem?_set_self (List.getElem?_eq_some_iff.mp e).1] at ej
        cases ej
      · rw [List.getElem?_set_ne hj] at ej
        rw [fset_ne (Ne.symm hj)]
        exact E.sl j u ej
    · by_cases hj : i = j
      · subst hj; exact fset_same
      · rw [fset_ne (Ne.symm hj)]
        exact E.no j fun u z => ej u (by rw [List.getElem?_set_ne hj]; exact z)
    · by_cases hj : j = i
      · subst hj; rw [fset_same]; exact List.nodup_nil
      · rw [fset_ne hj]; exact E.nd j
    · by_cases hj : j = i
      · subst hj; rw [fset_same] at ha; cases ha
      · rw [fset_ne hj] at ha
        by_cases hk : k = i
        · subst hk; rw [fset_same]; exact fun z => nomatch z
        · rw [fset_ne hk]; exact E.dj j k a hjk ha
    · by_cases hj : j = i
      · subst hj; rw [fset_same] at ha; cases ha
      · rw [fset_ne hj] at ha; exact E.off j a ha
  refine ⟨v, q, T, fset fps i [], fps i, E', ?_, E.nd i, fun a ha => ⟨E.off i a ha, fun j z => ?_⟩⟩
  · rcases hs with ⟨d, rfl⟩ | ⟨t, rfl⟩
    · exact r
    · exact r
  · by_cases hj : j = i
    · subst hj; rw [fset_same] at z; cases z
    · rw [fset_ne hj] at z; exact E.dj i j a (Ne.symm hj) ha z
theorem ds_retN (i : Nat) {x : Str} {p2 : Pos} (hf : a.free i) (hN : X.N[i]? = some x := by rfl) (hv : Vis X.env.scope x := by first | exact Or.inl rfl | exact Or.inr (Or.inl rfl) | exact Or.inr (Or.inr rfl)) (hd : (x == ("__debug__" : Str)) = false := by decide)
    (hcd : (x == ("__classdict__" : Str)) = false := by decide) : DS X a W (.Return (some (.Name x p2)) pos) (mRetN i) := by
  refine ⟨_, ps_ret (pe_var hN hv hd hcd), fun B G0 G H σ δ D S q => ?_⟩
  have q' : OOk (cn X a) W B G0 D (mRetN i δ) := q
  unfold mRetN at q'
  split at q'
  · rename_i d e
    obtain ⟨v, fp, z, r, _⟩ := S.sl e
    exact ⟨v, z, q' v σ G H (ret_new S (Stp.refl S.gh) (s := .val d) r.2 (.inl ⟨d, rfl⟩))⟩
  · rename_i d e
    obtain ⟨v, z, r⟩ := S.moveOut hf e (.inl ⟨d, rfl⟩)
    exact ⟨v, z, q' v σ G H r⟩
  · rename_i t e
    obtain ⟨v, z, r⟩ := S.moveOut hf e (.inr ⟨t, rfl⟩)
    exact ⟨v, z, q' v σ G H r⟩
  · exact q'.elim
def mRet0 : MS := fun δ => .rt (.val .none) δ
theorem ds_ret0 : DS X a W (.Return none pos) mRet0 := ⟨_, ps_retN, fun B G0 G H σ δ D S q => q .non σ G H (ret_new S (Stp.refl S.gh) (s := .val .none) Rep.non (.inl ⟨_, rfl⟩))⟩
/-- if -/
def mIf (c : MT) (m n : MS) : MS := fun δ => (c δ).out δ fun b => if b = true then m δ else n δ
theorem ds_if {c : MT} {m n : MS} {s1 s2 : List Stmt} (hc : DT X a W e c) (h : DSs X a W s1 m) (k : DSs X a W s2 n) : DS X a W (.If e s1 s2 pos) (mIf c m n) := by
  obtain ⟨tc, pc, sc⟩ := hc
  obtain ⟨t, p, s⟩ := h
  obtain ⟨u, r, z⟩ := k
  refine ⟨_, ps_if pc p r, fun B G0 G H σ δ D S q => ?_⟩
  refine snd_out sc S (R := fun b H1 => if b = true then t D σ H1 else u D σ H1) (f := fun b => if b = true then m δ else n δ) q fun b c G' H' _ st e k => ?_
  cases e
  cases b with
  | true =>
    show t D σ H'
    exact s B G0 G' H' σ δ D (S.step st) k
  | false =>
    show u D σ H'
    exact z B G0 G' H' σ δ D (S.step st) k
/-- x = e -/
def asgS (i : Nat) (δ : DEnv) : Slot → Out
  | .val d => .nx (δ.set i (some (.val d)))
  | .own d => .nx (δ.set i (some (.own d)))
  | .tr t => .nx (δ.set i (some (.tr t)))
  | _ => .stuck
def mAsg (i : Nat) (m : ME) : MS := fun δ => (m δ).out δ (asgS i δ)
theorem asg_ok {C : Cn} {B G0 G H G' H' : Hp} {σ : St} {δ : DEnv} {D : Ends} {i : Nat} {s : Slot} {v : V} (hf : C.free i) (S : StR C B G0 G H σ δ) (st : Stp G H G' H') (r : ResF C.K H G' H' s v) (k : OOk C W B G0 D (asgS i δ s)) : D.nx (σ.set i (some v)) H' := by
  cases s with
  | val d => exact k _ G' H' (S.setNew hf st r (.inl ⟨d, rfl⟩))
  | own d => exact k _ G' H' (S.setNew hf st r (.inr (.inl ⟨d, rfl⟩)))
  | tr t => exact k _ G' H' (S.setNew hf st r (.inr (.inr ⟨t, rfl⟩)))
  | bor d => exact k.elim
  | bt d => exact k.elim
  | exn x => exact k.elim
theorem sndS_asg {C : Cn} {t : TE} {m : ME} (i : Nat) (hf : C.free i) (s : Snd C W (relE C.K) t m) : SndS C W (tAsg t (gName i)) (mAsg i m) := by
  intro B G0 G H σ δ D S q
  exact snd_out s S (R := fun x H1 => D.nx (σ.set i (some x)) H1) (f := asgS i δ) q fun sl v G' H' _ st r k => asg_ok hf S st r k
theorem ds_asg {i : Nat} {x : Str} {m : ME} {pos' : Pos} (hfr : a.free i) (hN : X.N.Nodup) (hi : X.N[i]? = some x) (hx : Loc X.env.scope x) (h : DE X a W e m) (hs : swapsWith e (some (.Name x pos')) pos.line X.env = pure false := by rfl)
    (hf : X.fn x = true ∨ X.env.scope.names.lookup x = some .local := by first | exact .inl rfl | exact .inr rfl | assumption) : DS X a W (.Assign [.Name x pos'] e pos) (mAsg i m) :=
  let ⟨_, p, s⟩ := h; ⟨_, ps_set hN hi hx p hs hf, sndS_asg (C := cn X a) i hfr s⟩
/-! ### 2. targets: what they set, the places that they touch -/
abbrev MG := PyData → DEnv → Option DEnv
def Off (vs : List Nat) (σ σ' : St) : Prop := σ'.length = σ.length ∧ ∀ j, j ∉ vs → σ'[j]? = σ[j]?
def SndG (C : Cn) (t : TG) (g : MG) (vs : List Nat) : Prop := ∀ B G0 G H σ δ v d δ' (Q : St → Hp → Prop), StR C B G0 G H σ δ → Rep C.K G v d → g d δ = some δ' → (∀ σ', StR C B G0 G H σ' δ' → Off vs σ σ' → Q σ' H) → t v σ H Q
def SndGs (C : Cn) (t : TGs) (g : List PyData → DEnv → Option DEnv) (vs : List Nat) : Prop := ∀ B G0 G H σ δ us ds δ' (Q : St → Hp → Prop), StR C B G0 G H σ δ → RepL C.K G us ds → g ds δ = some δ' → (∀ σ', StR C B G0 G H σ' δ' → Off vs σ σ' → Q σ' H) → t us σ H Q
def DG (X : Cx) (a : Ax) (e : Expr) (g : MG) (vs : List Nat) : Prop := ∃ t, PG X e t ∧ SndG (cn X a) t g vs
def DGs (X : Cx) (a : Ax) (es : List Expr) (g : List PyData → DEnv → Option DEnv) (vs : List Nat) : Prop := ∃ t, PGs X es t ∧ SndGs (cn X a) t g vs
def mgN (i : Nat) : MG := fun d δ => some (δ.set i (some (.val d)))
def mgNil : List PyData → DEnv → Option DEnv := fun ds δ => match ds with | [] => some δ | _ => none
def mgCons (g : MG) (h : List PyData → DEnv → Option DEnv) : List PyData → DEnv → Option DEnv := fun ds δ => match ds with | d :: r => (g d δ).bind (h r) | [] => none
def mgT (n : Nat) (h : List PyData → DEnv → Option DEnv) : MG := fun d δ => match d with | .tuple ds => if ds.length = n then h ds δ else none | _ => none
theorem dg_name {i : Nat} {x : Str} (hfr : a.free i) (hN : X.N.Nodup) (hi : X.N[i]? = some x) (hx : Loc X.env.scope x) (hf : X.fn x = true ∨ X.env.scope.names.lookup x = some .local := by first | exact .inl rfl | exact .inr rfl | assumption) : DG X a (.Name x pos) (mgN i) [i] :=
  ⟨_, pg_name hN hi hx hf, fun B G0 G H σ δ v d δ' Q S r e k => by
    cases e
    exact k _ (S.setVal (C := cn X a) hfr r) ⟨by simp, fun j hj => List.getElem?_set_ne (fun z => hj (by simp [z]))⟩⟩
theorem dgs_nil : DGs X a [] mgNil [] := ⟨_, pgs_nil, fun B G0 G H σ δ vs ds δ' Q S r e k => by
  cases r with
  | nil => cases e; exact ⟨rfl, k _ S ⟨rfl, fun _ _ => rfl⟩⟩
  | cons _ _ => cases e⟩
theorem dgs_cons {g : MG} {h : List PyData → DEnv → Option DEnv} {us vs : List Nat} (p : DG X a e g us) (q : DGs X a es h vs) (hs : (assignEach (e :: es) X.env).map (·.2) = assign e X.env :: (assignEach es X.env).map (·.2) := by rfl) : DGs X a (e :: es) (mgCons g h) (us ++ vs) := by
  obtain ⟨t, p, s⟩ := p
  obtain ⟨u, q, z⟩ := q
  refine ⟨_, pgs_cons p q hs, fun B G0 G H σ δ vs ds δ' Q S r e k => ?_⟩
  cases r with
  | nil => cases e
  | @cons v vs d ds r rs =>
    have e' : (g d δ).bind (h ds) = some δ' := e
    cases e1 : g d δ with
    | none => rw [e1] at e'; cases e'
    | some δ1 =>
      rw [e1] at e'
      refine ⟨v, vs, rfl, s B G0 G H σ δ v d δ1 _ S r e1 fun σ1 S1 o1 => z B G0 G H σ1 δ1 vs ds δ' Q S1 rs e' fun σ2 S2 o2 => k σ2 S2 ⟨o2.1.trans o1.1, fun j hj => ?_⟩⟩
      rw [List.mem_append, not_or] at hj
      exact (o2.2 j hj.2).trans (o1.2 j hj.1)
theorem dg_tup {k n : Nat} {h : List PyData → DEnv → Option DEnv} {us : List Nat} (hc : X.calm = true) (q : DGs X a es h us) (hn : (assignEach es X.env).length = n := by rfl) (hst : (assignEach es X.env).findIdx? (·.1) = none := by rfl) : DG X a (.Tuple es k pos) (mgT n h) us := by
  obtain ⟨u, q, z⟩ := q
  refine ⟨_, pg_tup hc q hn hst, fun B G0 G H σ δ v d δ' Q S r e k => ?_⟩
  cases r with
  | tup hq rs =>
    have e' : (if _ = n then h _ δ else none) = some δ' := e
    split at e'
    · rename_i hl
      exact ⟨_, _, rfl, sqT_mono S.gh hq, (RepL.length rs).trans hl, z B G0 G H σ δ _ _ δ' Q S rs e' k⟩
    · cases e'
  | lst _ _ => cases e
  | dk _ _ => cases e
  | dn _ _ _ => cases e
  | non => cases e
  | bl _ => cases e
  | int _ => cases e
  | str _ => cases e
/-- a, b = e and the like -/
def tgtO (g : MG) (δ : DEnv) (d : PyData) : Out := match g d δ with
  | some δ' => .nx δ'
  | none => .stuck
def mAsgG (g : MG) (m : MD) : MS := fun δ => (m δ).out δ (tgtO g δ)
theorem ds_asgG {tg : Expr} {g : MG} {m : MD} (h : DV X a W e m) {vs : List Nat} (hg : DG X a tg g vs) (hs : swapsWithSole [tg] e pos.line X.env = pure false := by rfl) (hw : swappedStores [tg] e X.env = pure none := by rfl)
    (h1 : (assignEach [tg] X.env).map (·.2) = [assign tg X.env] := by rfl) : DS X a W (.Assign [tg] e pos) (mAsgG g m) := by
  obtain ⟨t, p, s⟩ := h
  obtain ⟨u, q, z⟩ := hg
  refine ⟨_, ps_asg p q hs hw h1, fun B G0 G H σ δ D S k => ?_⟩
  refine snd_out s S (R := fun x H1 => u x σ H1 D.nx) (f := tgtO g δ) k fun d v G' H' _ st r k => ?_
  have k' : OOk (cn X a) W B G0 D (tgtO g δ d) := k
  unfold tgtO at k'
  cases e : g d δ with
  | none => rw [e] at k'; exact k'.elim
  | some δ' => rw [e] at k'; exact z B G0 G' H' σ δ v d δ' D.nx (S.step st) r e fun σ' T _ => k' σ' G' H' T
/-! ### 3. for -/
/-- J gives the things of ds, one after another, at any later heap -/
def Gives (C : Cn) (B : Hp) (J : It) (G : Hp) (ds : List PyData) : Prop :=
  ∀ (i : Nat) (G1 H1 : Hp), Same G G1 → Same G1 H1 → Same B H1 →
    (∀ d, ds[i]? = some d → J.go i H1 ∧ ∀ x H', J.yld i H1 x H' → ∃ G2, Stp G1 H1 G2 H' ∧ Rep C.K G2 x d) ∧ (ds.length ≤ i → i ≤ ds.length → J.stop i H1)
def SndI (C : Cn) (W : WX) (wi : TI) (m : ML) : Prop := ∀ B G0 G H σ δ, StR C B G0 G H σ δ → ∀ R : It → Hp → Prop, ROk C W σ G H (fun G' _ ds J => Gives C B J G' ds) (m δ) R → wi σ H R
def DI (X : Cx) (a : Ax) (W : WX) (tg e : Expr) (m : ML) : Prop := ∃ t, PI X tg e t ∧ SndI (cn X a) W t m
def loopO (g : MG) (b : MS) : List PyData → DEnv → Out
  | [], δ => .nx δ
  | d :: ds, δ => match g d δ with
    | none => .stuck
    | some δ1 => match b δ1 with
      | .nx δ2 => loopO g b ds δ2
      | .ct δ2 => loopO g b ds δ2
      | .bk δ2 => .nx δ2
      | o => o
def mFor (g : MG) (it : ML) (b : MS) : MS := fun δ => (it δ).out δ fun ds => loopO g b ds δ
theorem for_ok {C : Cn} {J : It} {g : TG} {mg : MG} {tb : TS} {b : MS} {B G0 G H : Hp} {σ : St} {δ : DEnv} {D : Ends} {ds : List PyData} {vs : List Nat} (hg : SndG C g mg vs) (hb : SndS C W tb b) (S : StR C B G0 G H σ δ) (gv : Gives C B J G ds) (k : OOk C W B G0 D (loopO mg b ds δ)) :
    ∃ Wn : Nat → Nat → St → Hp → Prop, (∃ m, Wn 0 m σ H) ∧ ∀ i m σ H, Wn i m σ H → (J.stop i H ∧ D.nx σ H) ∨ (J.go i H ∧ ∃ N : St → Hp → Prop, (∀ σ' H', N σ' H' → ∃ m', m' < m ∧ Wn (i + 1) m' σ' H') ∧
      ∀ x H', J.yld i H x H' → g x σ H' fun σ2 H2 => tb { D with nx := N, ct := N, bk := D.nx } σ2 H2) := by
  refine ⟨fun i m σ' H' => m + i = ds.length ∧ ∃ G' δ', Same G G' ∧ StR C B G0 G' H' σ' δ' ∧ OOk C W B G0 D (loopO mg b (ds.drop i) δ'), ⟨ds.length, by omega, G, δ, Same.refl _, S, k⟩, ?_⟩
  rintro i m σ1 H1 ⟨hm, G1, δ1, g1, S1, k1⟩
  obtain ⟨go, stop⟩ := gv i G1 H1 g1 S1.gh S1.bh
  by_cases hi : i < ds.length
  · have ed : ds[i]? = some ds[i] := List.getElem?_eq_getElem hi
    obtain ⟨go, yl⟩ := go _ ed
    rw [List.drop_eq_getElem_cons hi] at k1
    refine .inr ⟨go, fun σ' H' => ∃ G' δ', Same G G' ∧ StR C B G0 G' H' σ' δ' ∧ OOk C W B G0 D (loopO mg b (ds.drop (i + 1)) δ'), fun σ' H' n => ⟨m - 1, by omega, by omega, n⟩, fun x H' y => ?_⟩
    obtain ⟨G2, st2, r⟩ := yl x H' y
    have k2 : OOk C W B G0 D (match mg ds[i] δ1 with | none => .stuck | some δ2 => match b δ2 with | .nx δ3 => loopO mg b (ds.drop (i + 1)) δ3 | .ct δ3 => loopO mg b (ds.drop (i + 1)) δ3 | .bk δ3 => .nx δ3 | o => o) := k1
    cases e : mg ds[i] δ1 with
    | none => rw [e] at k2; exact k2.elim
    | some δ2 =>
      rw [e] at k2
      refine hg B G0 G2 H' σ1 δ1 x ds[i] δ2 _ (S1.step st2) r e fun σ2 S2 _ => ?_
      have S2b := S2.base
      refine hb B G2 G2 H' σ2 δ2 _ S2b ?_
      have k3 : OOk C W B G0 D (match b δ2 with | .nx δ3 => loopO mg b (ds.drop (i + 1)) δ3 | .ct δ3 => loopO mg b (ds.drop (i + 1)) δ3 | .bk δ3 => .nx δ3 | o => o) := k2
      generalize b δ2 = o at k3
      have gg : Same G G2 := g1.trans st2.g
      cases o with
      | nx δ3 => exact fun σ3 G3 H3 T => ⟨G3, δ3, gg.trans T.g0, S2.unbase T, k3⟩
      | ct δ3 => exact fun σ3 G3 H3 T => ⟨G3, δ3, gg.trans T.g0, S2.unbase T, k3⟩
      | bk δ3 => exact fun σ3 G3 H3 T => k3 σ3 G3 H3 (S2.unbase T)
      | rt s δ' => exact (OOk.unbase (D := D) (o := .rt s δ') S2 k3)
      | ex x δ3 => exact (OOk.unbase (D := D) (o := .ex x δ3) S2 k3)
      | stuck => exact k3
  · have e : i = ds.length := by omega
    refine .inl ⟨stop (by omega) (by omega), ?_⟩
    rw [List.drop_of_length_le (by omega)] at k1
    exact k1 σ1 G1 H1 S1
theorem ds_for {tg iter : Expr} {body : List Stmt} {g : MG} {it : ML} {b : MS} (hp : PassesOwn (model X.prog X.w) X.A X.env X.xe) (hc : X.calm = true) (hi : DI X a W tg iter it) {vs : List Nat} (hg : DG X a tg g vs) (hb : DSs X a W body b)
    (hs : ∀ x, foldedSetIterable iter X.env x = pure x := by intro _; rfl) : DS X a W (.For tg iter body [] pos) (mFor g it b) := by
  obtain ⟨wi, pi, si⟩ := hi
  obtain ⟨tg', pg, sg⟩ := hg
  obtain ⟨tb, pb, sb⟩ := hb
  refine ⟨_, ps_for hp hc pi pg pb hs, fun B G0 G H σ δ D S k => ?_⟩
  refine si B G0 G H σ δ S _ ?_
  have k' : OOk (cn X a) W B G0 D ((it δ).out δ fun ds => loopO g b ds δ) := k
  cases e : it δ with
  | stuck => rw [e] at k'; exact k'.elim
  | exc x => rw [e] at k'; exact fun cls d G' H' st r => k' cls d σ G' H' (S.step st) r
  | ok ds => rw [e] at k'; exact fun J G' H' st gv => for_ok sg sb (S.step st) gv k'
/-! what is walked -/
theorem gives_list {C : Cn} {B G : Hp} {p : Addr} {xs : List V} {ds : List PyData} (h : SqL C.K G p xs) (r : RepL C.K G xs ds) : Gives C B (Itl C.K p) G ds := by
  intro i G1 H1 g s _
  have q : SqL C.K H1 p xs := sqL_mono (g.trans s) h
  refine ⟨fun d e => ?_, fun h1 h2 => ⟨xs, q, by rw [r.length]; exact h1⟩⟩
  obtain ⟨v, ev, rv⟩ := r.get e
  refine ⟨⟨xs, v, q, ev⟩, fun x H' y => ?_⟩
  obtain ⟨e1, y⟩ := y
  subst e1
  have e2 := y xs q
  rw [ev] at e2; cases e2
  exact ⟨G1, Stp.refl s, rv.mono g⟩
theorem gives_tup {C : Cn} {B G : Hp} {p : Addr} {xs : List V} {ds : List PyData} (h : SqT C.K G p xs) (r : RepL C.K G xs ds) : Gives C B (Itt C.K p) G ds := by
  intro i G1 H1 g s _
  have q : SqT C.K H1 p xs := sqT_mono (g.trans s) h
  refine ⟨fun d e => ?_, fun h1 h2 => ⟨xs, q, by rw [r.length]; exact h1⟩⟩
  obtain ⟨v, ev, rv⟩ := r.get e
  refine ⟨⟨xs, v, q, ev⟩, fun x H' y => ?_⟩
  obtain ⟨e1, y⟩ := y
  subst e1
  have e2 := y xs q
  rw [ev] at e2; cases e2
  exact ⟨G1, Stp.refl s, rv.mono g⟩
/-- for x in a list | in a tuple: the reader says which -/
def asList : PyData → Res (List PyData)
  | .list ds => .ok ds
  | _ => .stuck
def asTuple : PyData → Res (List PyData)
  | .tuple ds => .ok ds
  | _ => .stuck
def miL (m : MD) : ML := fun δ => (m δ).bind asList
def miT (m : MD) : ML := fun δ => (m δ).bind asTuple
theorem di_list {tg : Expr} {m : MD} (h : DV X a W e m) : DI X a W tg e (miL m) := by
  obtain ⟨t, p, s⟩ := h
  refine ⟨_, pi_list p, fun B G0 G H σ δ S R q => ?_⟩
  refine s B G0 G H σ δ S _ ?_
  have q' : ROk (cn X a) W σ G H (fun G' _ ds J => Gives (cn X a) B J G' ds) ((m δ).bind asList) R := q
  generalize m δ = r at q'
  cases r with
  | stuck => exact q'.elim
  | exc x => exact q'
  | ok d =>
    intro v G' H' st rp
    cases rp with
    | lst h r => exact ⟨_, rfl, ⟨_, sqL_mono st.gh h⟩, q' _ G' H' st (gives_list (C := cn X a) h r)⟩
    | tup _ _ => exact q'.elim
    | dk _ _ => exact q'.elim
    | dn _ _ _ => exact q'.elim
    | non => exact q'.elim
    | bl _ => exact q'.elim
    | int _ => exact q'.elim
    | str _ => exact q'.elim
theorem di_tup {tg : Expr} {m : MD} (h : DV X a W e m) : DI X a W tg e (miT m) := by
  obtain ⟨t, p, s⟩ := h
  refine ⟨_, pi_tup p, fun B G0 G H σ δ S R q => ?_⟩
  refine s B G0 G H σ δ S _ ?_
  have q' : ROk (cn X a) W σ G H (fun G' _ ds J => Gives (cn X a) B J G' ds) ((m δ).bind asTuple) R := q
  generalize m δ = r at q'
  cases r with
  | stuck => exact q'.elim
  | exc x => exact q'
  | ok d =>
    intro v G' H' st rp
    cases rp with
    | tup h r => exact ⟨_, rfl, ⟨_, sqT_mono st.gh h⟩, q' _ G' H' st (gives_tup (C := cn X a) h r)⟩
    | lst _ _ => exact q'.elim
    | dk _ _ => exact q'.elim
    | dn _ _ _ => exact q'.elim
    | non => exact q'.elim
    | bl _ => exact q'.elim
    | int _ => exact q'.elim
    | str _ => exact q'.elim
/-- ranges -/
def rng (lo : Int) (n : Nat) : List PyData := (List.range n).map fun (i : Nat) => PyData.int (lo + (i : Int))
theorem gives_range {C : Cn} {B G : Hp} {lo : Int} {n : Nat} : Gives C B (Itr lo n) G (rng lo n) := by
  intro i G1 H1 g s _
  have hl : (rng lo n).length = n := by simp [rng]
  refine ⟨fun d e => ?_, fun h1 _ => by rw [hl] at h1; exact h1⟩
  have hi : i < n := by
    have := (List.getElem?_eq_some_iff.mp e).1
    rw [hl] at this; exact this
  refine ⟨hi, fun x H' y => ?_⟩
  obtain ⟨e1, e2⟩ := y
  subst e1 e2
  have ed : d = .int (lo + (i : Int)) := by
    have h3 : (rng lo n)[i]? = some (.int (lo + (i : Int))) := by simp [rng, hi]
    rw [h3] at e; cases e; rfl
  subst ed
  exact ⟨G1, Stp.refl s, .int _⟩
noncomputable def small62 (i : Int) : Bool := @decide (-(2 ^ 62) ≤ i ∧ i < 2 ^ 62) (Classical.propDecidable _)
theorem small62_iff {i : Int} : small62 i = true ↔ (-(2 ^ 62) ≤ i ∧ i < 2 ^ 62) := @decide_eq_true_iff _ (Classical.propDecidable _)
noncomputable def rng1 : List PyData → Res (List PyData)
  | [.int n] => if small62 n = true then .ok (rng 0 n.toNat) else .stuck
  | _ => .stuck
noncomputable def rng2 : List PyData → Res (List PyData)
  | [.int lo, .int hi] => if small62 lo = true ∧ small62 hi = true then .ok (rng lo (hi - lo).toNat) else .stuck
  | _ => .stuck
theorem rng1_ok {ds out : List PyData} (h : rng1 ds = .ok out) : ∃ n, ds = [.int n] ∧ small62 n = true ∧ out = rng 0 n.toNat := by
  unfold rng1 at h
  split at h
  · split at h
    · cases h; exact ⟨_, rfl, by assumption, rfl⟩
    · cases h
  · cases h
theorem rng2_ok {ds out : List PyData} (h : rng2 ds = .ok out) : ∃ lo hi, ds = [.int lo, .int hi] ∧ small62 lo = true ∧ small62 hi = true ∧ out = rng lo (hi - lo).toNat := by
  unfold rng2 at h
  split at h
  · split at h
    · rename_i z; cases h; exact ⟨_, _, rfl, z.1, z.2, rfl⟩
    · cases h
  · cases h
theorem rng1_exc {ds : List PyData} {x : Exn} : rng1 ds ≠ .exc x := by
  unfold rng1
  split
  · split <;> (intro h; cases h)
  · intro h; cases h
theorem rng2_exc {ds : List PyData} {x : Exn} : rng2 ds ≠ .exc x := by
  unfold rng2
  split
  · split <;> (intro h; cases h)
  · intro h; cases h
noncomputable def mRng1 (m : ML) : ML := fun δ => (m δ).bind rng1
noncomputable def mRng2 (m : ML) : ML := fun δ => (m δ).bind rng2
theorem di_range1 {tg : Expr} {m : ML} {p : Pos} (hg : Gl X "range") (hm : X.mg "range" = none) (h : DA X a W [e] m) (hs : starEach [e] X.env = [(false, eval e X.env)] := by rfl) : DI X a W tg (.Call (.Name "range" p) [e] [] pos) (mRng1 m) := by
  obtain ⟨t, pa, s⟩ := h
  refine ⟨_, pi_range1 hg hm pa hs, fun B G0 G H σ δ S R q => ?_⟩
  refine s B G0 G H σ δ S _ ?_
  have q' : ROk (cn X a) W σ G H (fun G' _ ds J => Gives (cn X a) B J G' ds) ((m δ).bind rng1) R := q
  generalize m δ = r at q'
  cases r with
  | stuck => exact q'.elim
  | exc x => exact q'
  | ok ds =>
    intro vs G' H' st rp
    rw [bind_ok] at q'
    cases er : rng1 ds with
    | stuck => rw [er] at q'; exact q'.elim
    | exc x => exact (rng1_exc er).elim
    | ok out =>
      rw [er] at q'
      obtain ⟨n, e1, hn, e2⟩ := rng1_ok er
      subst e1 e2
      cases rp with
      | cons r0 r1 =>
        cases r0; cases r1
        have hn' := small62_iff.1 hn
        exact ⟨n, rfl, hn'.1, hn'.2, q' _ G' H' st gives_range⟩
theorem di_range2 {tg : Expr} {m : ML} {p : Pos} (hg : Gl X "range") (hm : X.mg "range" = none) (h : DA X a W [e1, e2] m) (hs : starEach [e1, e2] X.env = [(false, eval e1 X.env), (false, eval e2 X.env)] := by rfl) (hs2 : starEach [e2] X.env = [(false, eval e2 X.env)] := by rfl) :
    DI X a W tg (.Call (.Name "range" p) [e1, e2] [] pos) (mRng2 m) := by
  obtain ⟨t, pa, s⟩ := h
  refine ⟨_, pi_range2 hg hm pa hs hs2, fun B G0 G H σ δ S R q => ?_⟩
  refine s B G0 G H σ δ S _ ?_
  have q' : ROk (cn X a) W σ G H (fun G' _ ds J => Gives (cn X a) B J G' ds) ((m δ).bind rng2) R := q
  generalize m δ = r at q'
  cases r with
  | stuck => exact q'.elim
  | exc x => exact q'
  | ok ds =>
    intro vs G' H' st rp
    rw [bind_ok] at q'
    cases er : rng2 ds with
    | stuck => rw [er] at q'; exact q'.elim
    | exc x => exact (rng2_exc er).elim
    | ok out =>
      rw [er] at q'
      obtain ⟨lo, hi, e1, h1, h2, e2⟩ := rng2_ok er
      subst e1 e2
      cases rp with
      | cons r0 r1 =>
        cases r0
        cases r1 with
        | cons r0 r1 =>
          cases r0; cases r1
          have h1 := small62_iff.1 h1
          have h2 := small62_iff.1 h2
          exact ⟨lo, hi, rfl, ⟨h1.1, h1.2, h2.1, h2.2⟩, q' _ G' H' st gives_range⟩
/-! ### 4. while: by any number of turns that ends it -/
def wturn (δ : DEnv) (t : Res Bool) (o : Out) (k : DEnv → Option Out) : Option Out := match t with
  | .stuck => some .stuck
  | .exc x => some (.ex x δ)
  | .ok false => some (.nx δ)
  | .ok true => match o with
    | .nx δ' => k δ'
    | .ct δ' => k δ'
    | .bk δ' => some (.nx δ')
    | .rt s δ' => some (.rt s δ')
    | .ex x δ' => some (.ex x δ')
    | .stuck => some .stuck
def whileN (c : MT) (b : MS) : Nat → DEnv → Option Out
  | 0, _ => none
  | n + 1, δ => wturn δ (c δ) (b δ) (whileN c b n)
theorem wturn_mono {δ : DEnv} {t : Res Bool} {o r : Out} {k k' : DEnv → Option Out} (h : ∀ δ r, k δ = some r → k' δ = some r) (e : wturn δ t o k = some r) : wturn δ t o k' = some r := by
  cases t with
  | stuck => exact e
  | exc x => exact e
  | ok b =>
    cases b with
    | false => exact e
    | true => cases o <;> first | exact e | exact h _ _ e
theorem whileN_mono {c : MT} {b : MS} : ∀ {n m : Nat} {δ : DEnv} {o : Out}, n ≤ m → whileN c b n δ = some o → whileN c b m δ = some o
  | 0, _, _, _, _, h => nomatch h
  | n + 1, 0, _, _, hl, _ => absurd hl (by omega)
  | n + 1, m + 1, δ, o, hl, h => wturn_mono (fun _ _ e => whileN_mono (by omega) e) h
open Classical in
noncomputable def mWhile (c : MT) (b : MS) : MS := fun δ => if h : ∃ n o, whileN c b n δ = some o then Classical.choose (Classical.choose_spec h) else .stuck
theorem mWhile_of {c : MT} {b : MS} {n : Nat} {δ : DEnv} {o : Out} (h : whileN c b n δ = some o) : mWhile c b δ = o := by
  have hx : ∃ n o, whileN c b n δ = some o := ⟨n, o, h⟩
  unfold mWhile
  rw [dif_pos hx]
  have hs := Classical.choose_spec (Classical.choose_spec hx)
  have h1 := whileN_mono (Nat.le_max_left n (Classical.choose hx)) h
  have h2 := whileN_mono (Nat.le_max_right n (Classical.choose hx)) hs
  rw [h1] at h2
  exact (Option.some.inj h2).symm
theorem mWhile_some {c : MT} {b : MS} {δ : DEnv} (h : mWhile c b δ ≠ .stuck) : ∃ n, whileN c b n δ = some (mWhile c b δ) := by
  by_cases hx : ∃ n o, whileN c b n δ = some o
  · obtain ⟨n, o, e⟩ := hx
    exact ⟨n, by rw [mWhile_of e]; exact e⟩
  · exact (h (by unfold mWhile; rw [dif_neg hx])).elim
def wgo (o : Out) (k : DEnv → Out) : Out := match o with
  | .nx δ' => k δ'
  | .ct δ' => k δ'
  | .bk δ' => .nx δ'
  | o => o
/-- one turn -/
theorem mWhile_eq (c : MT) (b : MS) (δ : DEnv) : mWhile c b δ = (c δ).out δ fun t => if t = true then wgo (b δ) (mWhile c b) else .nx δ := by
  have go : ∀ δ', (∀ n, whileN c b (n + 1) δ = whileN c b n δ') → mWhile c b δ = mWhile c b δ' := fun δ' h => by
    by_cases hs : mWhile c b δ' = .stuck
    · by_cases hs2 : mWhile c b δ = .stuck
      · rw [hs, hs2]
      · obtain ⟨n, e⟩ := mWhile_some hs2
        cases n with
        | zero => cases e
        | succ n => rw [h n] at e; exact (mWhile_of e).symm
    · obtain ⟨n, e⟩ := mWhile_some hs
      exact mWhile_of (n := n + 1) (by rw [h n]; exact e)
  have one : ∀ n, whileN c b (n + 1) δ = wturn δ (c δ) (b δ) (whileN c b n) := fun _ => rfl
  cases ec : c δ with
  | stuck => exact mWhile_of (n := 1) (by rw [one, ec]; rfl)
  | exc x => exact mWhile_of (n := 1) (by rw [one, ec]; rfl)
  | ok t =>
    cases t with
    | false => exact mWhile_of (n := 1) (by rw [one, ec]; rfl)
    | true =>
      rw [out_ok, if_pos rfl]
      cases eb : b δ with
      | nx δ' => exact go δ' fun n => by rw [one, ec, eb]; rfl
      | ct δ' => exact go δ' fun n => by rw [one, ec, eb]; rfl
      | bk δ' => exact mWhile_of (n := 1) (by rw [one, ec, eb]; rfl)
      | rt s δ' => exact mWhile_of (n := 1) (by rw [one, ec, eb]; rfl)
      | ex x δ' => exact mWhile_of (n := 1) (by rw [one, ec, eb]; rfl)
      | stuck => exact mWhile_of (n := 1) (by rw [one, ec, eb]; rfl)
theorem sndS_while {C : Cn} {tc : TT} {tb : TS} {c : MT} {b : MS} (hc : Snd C W relB tc c) (hb : SndS C W tb b) : SndS C W (tWhile tc tb) (mWhile c b) := by
  intro B G0 G H σ δ D S k
  have hs : mWhile c b δ ≠ .stuck := fun z => by rw [z] at k; exact k.elim
  obtain ⟨n, e⟩ := mWhile_some hs
  refine ⟨fun m σ' H' => ∃ G' δ' o, StR C B G0 G' H' σ' δ' ∧ whileN c b m δ' = some o ∧ OOk C W B G0 D o, ⟨n, G, δ, _, S, e, k⟩, ?_⟩
  rintro m σ1 H1 ⟨G1, δ1, o, S1, e1, k1⟩
  cases m with
  | zero => cases e1
  | succ m =>
    have e1 : wturn δ1 (c δ1) (b δ1) (whileN c b m) = some o := e1
    refine hc B G0 G1 H1 σ1 δ1 S1 _ ?_
    generalize c δ1 = t at e1
    cases t with
    | stuck => cases e1; exact k1
    | exc x => cases e1; exact fun cls d G' H' st r => k1 cls d σ1 G' H' (S1.step st) r
    | ok t =>
      intro t' G' H' st ee
      cases ee
      cases t with
      | false =>
        show D.nx σ1 H'
        cases e1
        exact k1 σ1 G' H' (S1.step st)
      | true =>
        show ∃ N : St → Hp → Prop, (∀ σ' H', N σ' H' → ∃ m', m' < m + 1 ∧ ∃ G' δ' o, StR C B G0 G' H' σ' δ' ∧ whileN c b m' δ' = some o ∧ OOk C W B G0 D o) ∧ tb { D with nx := N, ct := N, bk := D.nx } σ1 H'
        refine ⟨fun σ' H' => ∃ G' δ' o, StR C B G0 G' H' σ' δ' ∧ whileN c b m δ' = some o ∧ OOk C W B G0 D o, fun σ' H' n => ⟨m, Nat.lt_succ_self m, n⟩, ?_⟩
        refine hb B G0 G' H' σ1 δ1 _ (S1.step st) ?_
        generalize b δ1 = ob at e1
        cases ob with
        | nx δ2 => exact fun σ2 G2 H2 T => ⟨G2, δ2, o, T, e1, k1⟩
        | ct δ2 => exact fun σ2 G2 H2 T => ⟨G2, δ2, o, T, e1, k1⟩
        | bk δ2 => cases e1; exact fun σ2 G2 H2 T => k1 σ2 G2 H2 T
        | rt s δ' => cases e1; exact k1
        | ex x δ2 => cases e1; exact k1
        | stuck => cases e1; exact k1
theorem ds_while {c : MT} {b : MS} {body : List Stmt} (hp : PassesOwn (model X.prog X.w) X.A X.env X.xe) (hc : DT X a W e c) (hb : DSs X a W body b) : DS X a W (.While e body [] pos) (mWhile c b) :=
  let ⟨_, pc, sc⟩ := hc; let ⟨_, p, s⟩ := hb; ⟨_, ps_while hp pc p, sndS_while sc s⟩
/-! ### 5. defs and calls -/
abbrev F := List Slot → Res Slot
def spD (C : Cn) (f : F) : Sp := fun vs H Q E => ∃ G ss, Same G H ∧ ArgsR C.K G H ss vs ∧ ROk C (fun cls d _ H' => E cls d H') [] G H (relE C.K H) (f ss) Q
def Out.res : Out → Res Slot
  | .rt s _ => .ok s
  | .nx _ => .ok (.val .none)
  | .ex x _ => .exc x
  | _ => .stuck
def start0 (n : Nat) (ss : List Slot) : DEnv := ss.map some ++ List.replicate (n - ss.length) none
/-- a def of n slots with that body, called with k arguments -/
def mDef (n k : Nat) (b : MS) : F := fun ss => if ss.length = k then (b (start0 n ss)).res else .stuck
theorem ArgsR.length {K : Kw} {G H : Hp} : ∀ {ss : List Slot} {vs : List V}, ArgsR K G H ss vs → ss.length = vs.length := fun r => Paired.length r
theorem ArgsR.get {K : Kw} {G H : Hp} : ∀ {ss : List Slot} {vs : List V} {i : Nat} {s : Slot}, ArgsR K G H ss vs → ss[i]? = some s → ∃ v, vs[i]? = some v ∧ ArgR K G H s v
  | _, _, _, _, .nil, e => by simp at e
  | _, _, 0, _, .cons r _, e => by simp at e; subst e; exact ⟨_, rfl, r⟩
  | _, _, i + 1, _, .cons _ t, e => by
    obtain ⟨u, h1, h2⟩ := ArgsR.get (i := i) t (by simpa using e)
    exact ⟨u, by simpa using h1, h2⟩
theorem start_at {n i : Nat} {ss : List Slot} {s : Slot} (e : (start0 n ss)[i]? = some (some s)) : ss[i]? = some s := by
  unfold start0 at e
  by_cases hi : i < ss.length
  · rw [List.getElem?_append_left (by simpa using hi), List.getElem?_map] at e
    cases q : ss[i]? with
    | none => rw [q] at e; cases e
    | some u => rw [q] at e; cases e; rfl
  · rw [List.getElem?_append_right (by simpa using hi)] at e
    have := List.mem_of_getElem? e
    rw [List.mem_replicate] at this
    cases this.2
theorem start_v {N : List Str} {vs : List V} {i : Nat} {v : V} (q : vs[i]? = some v) : (L2.start N vs)[i]? = some (some v) := by
  unfold L2.start
  have hi : i < vs.length := (List.getElem?_eq_some_iff.mp q).1
  rw [List.getElem?_append_left (by simpa using hi), List.getElem?_map, q]
  rfl
theorem start_ok {C : Cn} (hR : C.R = []) {G H : Hp} {N : List Str} {ss : List Slot} {vs : List V} (gh : Same G H) (r : ArgsR C.K G H ss vs) : StR C H G G H (L2.start N vs) (start0 N.length ss) := by
  have hl := ArgsR.length r
  refine ⟨Same.refl _, Same.refl _, gh, fun _ e _ => e, ?_, fun p hp => (by rw [hR] at hp; cases hp), fun _ => [], fun i s e => ?_, fun _ _ => rfl, fun _ => List.nodup_nil, (fun i j c _ h => nomatch h), fun i c h => nomatch h⟩
  · unfold L2.start start0
    simp [hl]
  · obtain ⟨v, q, z⟩ := ArgsR.get r (start_at e)
    refine ⟨v, start_v q, ?_⟩
    cases s with
    | val d => exact ⟨rfl, z⟩
    | own d => exact z.elim
    | bor d => obtain ⟨b, eb, t⟩ := z; exact ⟨b, eb, rfl, t.ne, t⟩
    | tr d => exact z.elim
    | bt t => obtain ⟨fp, o⟩ := z; exact ⟨rfl, fp, o, fun a ha => o.there a ha⟩
    | exn x => exact z.elim
section
variable {P : Program} {w : World} {K : PySem.W.Frag} {mg : Str → Option Value} {base : Heap}
/-- THE RULE for a def -/
theorem fn_d {ax : Ax} {x qual : Str} {st : Stmt} {f : Addr} {fd : FuncData} {N ps : List Str} {k : Nat} {b : MS} (F0 : Fun K x qual st f fd) (S : FnScope N ps (defScope st))
    (hbody : ∀ (cdv : Value) (A : Around) (outer : List Env) (s : Shared) (H : Hp) (E : XK), Room k (A.deeper (PyProof.Rows.envOfC qual (defScope st) s.heap.objs.size f cdv)) →
      DSs (cxOf (L2.CX P w) P w K mg base N qual (defScope st) f cdv A outer s H E) ax (fun cls d _ H' => E cls d H') (defBody st) b) (hA : ax.A = fun _ _ => False) (hL : ax.R = [] := by rfl) :
    FnOk P w K mg base (L2.CX P w) (k + 1) f fd ps (spD ⟨⟨K, w⟩, ax.ec, ax.A, []⟩ (mDef N.length ps.length b)) := by
  refine F0.okX S (fun vs H Q E h => ?_) (fun cdv A outer s H vs Q E hr h => ?_)
  · obtain ⟨G, ss, gh, r, q⟩ := h
    have hl := ArgsR.length r
    unfold mDef at q
    split at q
    · rename_i z; rw [← hl]; exact z
    · exact q.elim
  · obtain ⟨t, p, snd⟩ := hbody cdv A outer s H E hr
    obtain ⟨G, ss, gh, r, q⟩ := h
    refine ⟨t, p, ?_⟩
    unfold mDef at q
    split at q
    · refine snd H G G H _ (start0 N.length ss) _ (start_ok (C := cn (cxOf (L2.CX P w) P w K mg base N qual (defScope st) f cdv A outer s H E) ax) hL gh r) ?_
      generalize b (start0 N.length ss) = o at q
      cases o with
      | nx δ' => exact fun σ' G' H' T => q .non G' H' T.end Rep.non
      | bk δ' => exact q.elim
      | ct δ' => exact q.elim
      | rt sl δ' => exact fun v σ' G' H' T => q v G' H' T.st.end T.res
      | ex x δ' => exact fun cls d σ' G' H' T rr => q cls d G' H' T.end rr
      | stuck => exact q.elim
    · exact q.elim
end
/-- arguments as slots: a value, or one's own thing lent to be read -/
def Slot.arg : Slot → Res Slot
  | .val d => .ok (.val d)
  | .own d => .ok (.val d)
  | .bor d => .ok (.bor d)
  | .bt t => .ok (.bt t)
  | _ => .stuck
theorem arg_noexc {s : Slot} {x : Exn} : s.arg ≠ .exc x := by cases s <;> (intro h; cases h)
def mANil : DEnv → Res (List Slot) := fun _ => .ok []
def mACons (m : ME) (n : DEnv → Res (List Slot)) : DEnv → Res (List Slot) := fun δ => (m δ).bind fun s => s.arg.bind fun s => (n δ).bind fun ss => .ok (s :: ss)
theorem ArgR.mono {K : Kw} {G H G' H' : Hp} (g : Same G G') (h : Same H H') {s : Slot} {v : V} (r : ArgR K G H s v) : ArgR K G' H' s v := by
  cases s with
  | val d => exact Rep.mono g r
  | own d => exact r.elim
  | bor d => obtain ⟨b, e, t⟩ := r; exact ⟨b, e, t.mono g h⟩
  | tr t => exact r.elim
  | bt t => obtain ⟨fp, o⟩ := r; exact ⟨fp, o.mono g h⟩
  | exn x => exact r.elim
theorem ArgsR.mono {K : Kw} {G H G' H' : Hp} (g : Same G G') (h : Same H H') : ∀ {ss : List Slot} {vs : List V}, ArgsR K G H ss vs → ArgsR K G' H' ss vs
  | _, _, .nil => .nil
  | s :: _, _, .cons r t => .cons (r.mono g h) (ArgsR.mono g h t)
theorem ResF.arg {K : Kw} {G H G1 H1 : Hp} {s s' : Slot} {v : V} {P : Hp → Prop} (st : Stp G H G1 H1) (h : ResF K H G1 H1 s v) (e : s.arg = .ok s') (k : ∀ G2 H2, Stp G H G2 H2 → ArgR K G2 H2 s' v → P H2) : Frz H1 v P := by
  cases s with
  | val d => cases e; exact .inl (k G1 H1 st h)
  | own d =>
    cases e
    exact ResF.vl (d := d) st h rfl fun G2 H2 s2 _ r => k G2 H2 s2 r
  | bor d => cases e; exact .inl (k G1 H1 st h)
  | tr d => cases e
  | bt t => cases e; exact .inl (k G1 H1 st h)
  | exn x => cases e
theorem das_nil : DAS X a W [] mANil := ⟨_, pa_nil, fun B G0 G H σ δ S Q hq => hq [] G H (Stp.refl S.gh) .nil⟩
theorem das_cons {m : ME} {n : DEnv → Res (List Slot)} (h : DE X a W e m) (k : DAS X a W es n) (hs : starEach (e :: es) X.env = (false, eval e X.env) :: starEach es X.env := by rfl) : DAS X a W (e :: es) (mACons m n) := by
  obtain ⟨t, p, s⟩ := h
  obtain ⟨u, q, z⟩ := k
  refine ⟨_, pa_cons (pe_lk p) q hs, ?_⟩
  intro B G0 G H σ δ S Q hq
  refine s B G0 G H σ δ S _ ?_
  have hq' : ROk (cn X a) W σ G H (relS X.kw H) ((m δ).bind fun s => s.arg.bind fun s => (n δ).bind fun ss => .ok (s :: ss)) Q := hq
  generalize m δ = r at hq'
  cases r with
  | stuck => exact hq'.elim
  | exc x => exact hq'
  | ok sl =>
    intro v G1 H1 st1 r1
    have hq2 : ROk (cn X a) W σ G H (relS X.kw H) (sl.arg.bind fun s => (n δ).bind fun ss => .ok (s :: ss)) Q := hq'
    cases ea : sl.arg with
    | stuck => rw [ea] at hq2; exact hq2.elim
    | exc x => exact (arg_noexc ea).elim
    | ok s' =>
      rw [ea] at hq2
      refine ResF.arg st1 r1 ea fun G2 H2 st2 r2 => z B G0 G2 H2 σ δ (S.step st2) _ ?_
      have hq3 : ROk (cn X a) W σ G H (relS X.kw H) ((n δ).bind fun ss => .ok (s' :: ss)) Q := hq2
      generalize n δ = rn at hq3
      cases rn with
      | stuck => exact hq3.elim
      | exc x => exact fun cls d G3 H3 s3 r => hq3 cls d G3 H3 (st2.trans s3) r
      | ok ss =>
        intro vs G3 H3 st3 r3
        refine hq3 (v :: vs) G3 H3 (st2.trans st3) (.cons ?_ r3)
        have := ArgsR.mono (K := X.kw) st3.g st3.h (ss := [s']) (vs := [v]) (.cons r2 .nil)
        cases this with
        | cons h _ => exact h
def mCall (f : F) (m : DEnv → Res (List Slot)) : ME := fun δ => (m δ).bind f
theorem de_call {x : Str} {f : F} {k : Nat} {fa : Addr} {fd : FuncData} {ps : List Str} {p : Pos} {m : DEnv → Res (List Slot)} (F0 : FnOk X.prog X.w X.K X.mg X.base (L2.CX X.prog X.w) k fa fd ps (spD ⟨X.kw, a.ec, fun _ _ => False, []⟩ f)) (hr : Room k X.A) (hg : Gl X x) (hm : X.mg x = some (.ref fa))
    (hk : PySem.W.keepIn X.K (.ref fa) = true) (hb : Binds X.K fd ps []) (tk : Takes X W) (h : DAS X a W (e :: es) m) (hdb : (x == ("__debug__" : Str)) = false := by decide) (he : starEach (e :: es) X.env = (false, eval e X.env) :: starEach es X.env := by rfl)
    (hpl : (backTo pos (starEach es X.env)).any (·.1) = false := by rfl) : DE X a W (.Call (.Name x p) (e :: es) [] pos) (mCall f m) := by
  obtain ⟨t, pa, s⟩ := h
  refine ⟨_, pe_callS F0 hr hg hm hk hb (fun σ => passAt tk σ) pa hdb he hpl, ?_⟩
  intro B G0 G H σ δ S Q hq
  refine s B G0 G H σ δ S _ ?_
  have hq' : ROk (cn X a) W σ G H (relE X.kw H) ((m δ).bind f) Q := hq
  generalize m δ = r at hq'
  cases r with
  | stuck => exact hq'.elim
  | exc x => exact hq'
  | ok ss =>
    intro vs G1 H1 st1 r1
    refine ⟨G1, ss, st1.gh, r1, ?_⟩
    have hq2 : ROk (cn X a) W σ G H (relE X.kw H) (f ss) Q := hq'
    generalize f ss = rf at hq2
    cases rf with
    | stuck => exact hq2.elim
    | exc x => exact fun cls d G2 H2 s2 r => hq2 cls d G2 H2 (st1.trans s2) r
    | ok sl => exact fun v G2 H2 s2 r => hq2 v G2 H2 (st1.trans s2) (ResF.mono0 st1.h r)
/-! ### 6. refusals -/
def mRaise (x : Exn) : MS := fun δ => .ex x δ
/-- raise X('..'), X without fields -/
theorem ds_raise {x : Str} {c : EC} {ms : Str} {j : Nat} {p p2 pos' : Pos} (hc : X.calm = true) (tk : Takes X W) (xP : PySem.W.excIn X.K (a.ec c) [.type "ValueError", .type "Exception", .type "BaseException", .type "object"] "ValueError.__new__" = true)
    (gC : X.mg x = some (.ref (a.ec c))) (kC : PySem.W.keepIn X.K (.ref (a.ec c)) = true) (r : Raises X (.ref (a.ec c))) (hg : Gl X x) (hdb : (x == ("__debug__" : Str)) = false := by decide) :
    DS X a W (.Raise (some (.Call (.Name x p) [.Constant (.str ms) j p2] [] pos)) none pos') (mRaise ⟨c, []⟩) :=
  ⟨_, ps_raise hc tk (pmk_own PySem.F.excBase_ValueError xP gC kC r hg hdb), fun B G0 G H σ δ D S q => q _ _ σ G H S ⟨rfl, rfl⟩⟩
end
end DL
/-! DLd: operators and built-ins over data -/
namespace DL
open PySem L2
/-! ### 1. what a readable value is -/
section
variable {K : Kw} {G H : Hp} {v : V}
theorem rdr_int {i : Int} (h : RdR K G H v (.int i)) : v = .int i := by
  rcases h with h | ⟨a, _, t⟩
  · cases h; rfl
  · exact t.elim
theorem rdr_bool {b : Bool} (h : RdR K G H v (.bool b)) : v = .bl b := by
  rcases h with h | ⟨a, _, t⟩
  · cases h; rfl
  · exact t.elim
theorem rdr_str {x : Str} (h : RdR K G H v (.str x)) : v = .str x := by
  rcases h with h | ⟨a, _, t⟩
  · cases h; rfl
  · exact t.elim
theorem rdr_none (h : RdR K G H v .none) : v = .non := by
  rcases h with h | ⟨a, _, t⟩
  · cases h; rfl
  · exact t.elim
theorem rdr_list {ds : List PyData} (g : Same G H) (h : RdR K G H v (.list ds)) : ∃ a xs, v = .ref a ∧ SqL K H a xs ∧ RepL K G xs ds := by
  rcases h with h | ⟨a, e, t⟩
  · cases h with
    | lst q r => exact ⟨_, _, rfl, sqL_mono g q, r⟩
  · obtain ⟨xs, q, r⟩ := t; exact ⟨a, xs, e, .inl (.inl q), r⟩
theorem rdr_tup {ds : List PyData} (g : Same G H) (h : RdR K G H v (.tuple ds)) : ∃ a xs, v = .ref a ∧ SqT K H a xs ∧ RepL K G xs ds := by
  rcases h with h | ⟨a, e, t⟩
  · cases h with
    | tup q r => exact ⟨_, _, rfl, sqT_mono g q, r⟩
  · exact t.elim
theorem rdr_dict {ds : List (PyData × PyData)} (g : Same G H) (h : RdR K G H v (.dict ds)) : ∃ a, v = .ref a ∧ ((∃ l, Rd H a (.dK l) ∧ RepK K G l ds) ∨ ∃ l, Rd H a (dnO K.w a l) ∧ l.length ≤ sizeLine ∧ RepN K G l ds) := by
  rcases h with h | ⟨a, e, t⟩
  · cases h with
    | dk q r => exact ⟨_, rfl, .inl ⟨_, .inr ⟨_, g _ _ q⟩, r⟩⟩
    | dn q hl r => exact ⟨_, rfl, .inr ⟨_, .inr ⟨_, g _ _ q⟩, hl, r⟩⟩
  · rcases t with ⟨l, q, r⟩ | ⟨l, q, hl, r⟩
    · exact ⟨a, e, .inl ⟨l, .inl q, r⟩⟩
    · exact ⟨a, e, .inr ⟨l, .inl q, hl, r⟩⟩
mutual
theorem rep_dp (g : Same G H) : ∀ {d : PyData} {v : V}, d.canLay0 = true → Rep K G v d → Dp K H v d
  | .none, _, _, .non => .non
  | .bool _, _, _, .bl b => .bl b
  | .int _, _, _, .int i => .int i
  | .str _, _, _, .str x => .str x
  | .list ds, _, c, .lst h r => .lst (sqL_mono g h) (repL_dp g (by simpa [PyData.canLay0] using c) r)
  | .tuple ds, _, c, .tup h r => .tup (sqT_mono g h) (repL_dp g (by simpa [PyData.canLay0] using c) r)
  | .dict _, _, c, _ => by simp [PyData.canLay0] at c
theorem repL_dp (g : Same G H) : ∀ {ds : List PyData} {vs : List V}, PyData.canLayAll0 ds = true → RepL K G vs ds → DpAll K H vs ds
  | [], _, _, .nil => .nil
  | d :: ds, _, c, .cons h r => by
    have c' : d.canLay0 = true ∧ PyData.canLayAll0 ds = true := by simpa [PyData.canLayAll0] using c
    exact .cons (rep_dp g c'.1 h) (repL_dp g c'.2 r)
end
theorem rdr_dp {d : PyData} (g : Same G H) (c : d.canLay0 = true) (h : RdR K G H v d) : Dp K H v d := by
  rcases h with h | ⟨a, e, t⟩
  · exact rep_dp g c h
  · subst e
    cases d with
    | list ds => obtain ⟨xs, q, r⟩ := t; exact .lst (.inl (.inl q)) (repL_dp g (by simpa [PyData.canLay0] using c) r)
    | dict ds => simp [PyData.canLay0] at c
    | none => exact t.elim
    | bool _ => exact t.elim
    | int _ => exact t.elim
    | str _ => exact t.elim
    | tuple _ => exact t.elim
/-- the built-in type of data -/
def tyD : PyData → String
  | .none => "NoneType"
  | .bool _ => "bool"
  | .int _ => "int"
  | .str _ => "str"
  | .list _ => "list"
  | .tuple _ => "tuple"
  | .dict _ => "dict"
theorem sqL_ty {a : Addr} {xs : List V} (h : SqL K H a xs) : TyX K H (.ref a) (.type "list") := by
  rcases h with (h | ⟨o, h⟩) | ⟨o, its, n, h, hc, _⟩
  · exact .base (.lst h)
  · exact .base (.frz h)
  · exact .kList h hc
theorem sqT_ty {a : Addr} {xs : List V} (h : SqT K H a xs) : TyX K H (.ref a) (.type "tuple") := by
  rcases h with (h | ⟨o, h⟩) | ⟨o, its, n, h, hc, _⟩
  · exact .base (.tup h)
  · exact .fTuple h
  · exact .kTuple h hc
/-- .. of a dict with tuple keys, too -/
def TyD (K : Kw) (H : Hp) (v : V) (t : Value) : Prop := TyX K H v t ∨ ∃ a l, v = .ref a ∧ t = .type "dict" ∧ Rd H a (dnO K.w a l)
theorem rdr_ty {d : PyData} (g : Same G H) (h : RdR K G H v d) : TyD K H v (.type (tyD d)) := by
  cases d with
  | none => cases rdr_none h; exact .inl (.base .non)
  | bool b => cases rdr_bool h; exact .inl (.base (.bl _))
  | int i => cases rdr_int h; exact .inl (.base (.int _))
  | str x => cases rdr_str h; exact .inl (.base (.str _))
  | list ds => obtain ⟨a, xs, e, q, _⟩ := rdr_list g h; subst e; exact .inl (sqL_ty q)
  | tuple ds => obtain ⟨a, xs, e, q, _⟩ := rdr_tup g h; subst e; exact .inl (sqT_ty q)
  | dict ds =>
    obtain ⟨a, e, q⟩ := rdr_dict g h
    subst e
    rcases q with ⟨l, q, _⟩ | ⟨l, q, _⟩
    · rcases q with q | ⟨o, q⟩
      · exact .inl (.base (.dK q))
      · exact .inl (.fDict q)
    · exact .inr ⟨a, l, rfl, rfl, q⟩
end
/-- what stands where a dict with tuple keys stands -/
theorem dn_of {P : Program} {w : World} {H : Hp} {h : Heap} {a : Addr} {l : List (NestedKey × Addr × V)} (ok : HOk P w H h) (e : Rd H a (dnO w a l)) : dnOk w a l h := (show ObjOk P w H h a (dnO w a l) from e.ok ok).1
def rIsiD (K : Kw) : List V → Hp → VK → Prop := fun xs H Q => ∃ (x c : V) (t u : Value) (b : Bool), xs = [x, c] ∧ ClsV c u ∧ TyD K H x t ∧ PySem.W.kitOne K t u = some b ∧ Q (.bl b) H
theorem call_isiD {X : Cx} : CallR X (.builtin "isinstance") (rIsiD X.kw) := by
  intro pins s σ H xs us Q I r h
  obtain ⟨x, c, t, u, b, rfl, k, ty, e, q⟩ := h
  obtain ⟨u1, u2, rfl, r1, r2⟩ := vals2 r
  have e2 := k.eq r2
  subst e2
  rcases ty with ty | ⟨a, l, rfl, rfl, ha⟩
  · obtain ⟨P, Z, p, hx⟩ := kit_of I r1 ty
    exact PySem.W.kia_one Z I.kIn p e hx fun tk => ⟨.bl b, H, I.tok tk, rfl, q⟩
  · cases (show u1 = Value.ref a from r1)
    obtain ⟨_, xs, o, es, ep, _, ho, hc, _⟩ := dn_of I.hok ha
    exact PySem.W.kia_one PySem.W.kitx_dict I.kIn ⟨o, ho, hc.1⟩ e (fun z => nomatch z) fun tk => ⟨.bl b, H, I.tok tk, rfl, q⟩
/-! ### 2. operators -/
def okV (d : PyData) : Res Slot := .ok (.val d)
def okI (i : Int) : Res Slot := .ok (.val (.int i))
def okB (b : Bool) : Res Slot := .ok (.val (.bool b))
/-- a new list, a new tuple at the end of a rule -/
theorem new_list {K : Kw} {G H : Hp} {xs : List V} {ds : List PyData} {Q : VK} (g : Same G H) (r : RepL K G xs ds) (h : ∀ v G' H', Stp G H G' H' → ResF K H G' H' (.own (.list ds)) v → Q v H') : ∀ p, H p = none → Q (.ref p) (upd H p (.lst xs)) :=
  fun p hp => h _ _ _ (Stp.newH g hp) ⟨p, rfl, g.free hp, hp, xs, upd_same, r⟩
theorem new_tup {K : Kw} {G H : Hp} {xs : List V} {ds : List PyData} {Q : VK} (g : Same G H) (r : RepL K G xs ds) (h : ∀ v G' H', Stp G H G' H' → ResF K H G' H' (.val (.tuple ds)) v → Q v H') : ∀ p, H p = none → Q (.ref p) (upd H p (.tup xs)) :=
  fun p hp => h _ _ _ (Stp.new g hp) (Rep.tup (.inl (.inl upd_same)) (r.mono (Stp.new g hp).g))
section
variable {X : Cx}
/-- list + list, any that are read -/
def rCatG (K : PySem.W.Frag) : R2 := fun x y H Q => ∃ a b xs ys, x = .ref a ∧ y = .ref b ∧ SqL K H a xs ∧ SqL K H b ys ∧ xs.length + ys.length ≤ sizeLine ∧ ∀ p, H p = none → Q (.ref p) (upd H p (.lst (xs ++ ys)))
theorem op_catG : OpR X (binaryOp .Add) (rCatG X.K) := by
  intro pins s σ H x y v u Q I rx ry h
  obtain ⟨a, b, xs, ys, rfl, rfl, ha, hb, hz, q⟩ := h
  cases rx
  cases ry
  obtain ⟨its, r1, ⟨⟨cls, dd, data, sl⟩, n, ho, hc, _, hd⟩, _⟩ := I.list ha
  obtain ⟨its2, r2, ⟨⟨cls2, dd2, data2, sl2⟩, n2, ho2, hc2, _, hd2⟩, _⟩ := I.list hb
  simp only at hc hd hc2 hd2
  subst hc hd hc2 hd2
  have l1 := r1.length
  have l2 := r2.length
  have e : its.toArray ++ its2.toArray = (its ++ its2).toArray := by simp
  refine concat_meets ⟨_, ho, rfl⟩ ⟨_, ho2, rfl⟩ noFill_list_add seq_list_add PySem.F.slot_list_add PySem.F.entry_list_add (PySem.F.args_list_add_2 _ _) (PyProof.Rows.list_addW a b its.toArray its2.toArray n n2 dd dd2 sl sl2 (by simp only [List.size_toArray]; omega)) ⟨ho, ho2, ?_⟩
  rw [e]
  exact ⟨.ref _, _, I.lnew (t' := s.toks) (r1.append r2) (by rw [List.length_append]; omega), rfl, q _ I.fresh⟩
def addF : PyData → PyData → Res Slot
  | .int i, .int j => okI (i + j)
  | .str x, .str y => if x.length + y.length ≤ sizeLine then okV (.str (x ++ y)) else .stuck
  | .list x, .list y => if x.length + y.length ≤ sizeLine then .ok (.own (.list (x ++ y))) else .stuck
  | .tuple x, .tuple y => if x.length + y.length ≤ sizeLine then okV (.tuple (x ++ y)) else .stuck
  | _, _ => .stuck
def rAddD (K : PySem.W.Frag) : R2 := fun x y H Q => rI0 (fun i j => .int (i + j)) x y H Q ∨ ((∃ i j, x = .str i ∧ y = .str j ∧ i.length + j.length ≤ sizeLine ∧ Q (.str (i ++ j)) H) ∨ (rCatG K x y H Q ∨ rCatA K x y H Q))
theorem op_addD : OpR X (binaryOp .Add) (rAddD X.K) := op_add.or (op_add_str.or (op_catG.or op_catA))
theorem addF_ok {K : Kw} : OpS K (rAddD K) addF := by
  intro G H x y d e s Q g rx ry ef q
  unfold addF at ef
  split at ef
  · cases ef
    cases rdr_int rx; cases rdr_int ry
    exact .inl ⟨_, _, rfl, rfl, q _ G H (Stp.refl g) (Rep.int _)⟩
  · split at ef
    · rename_i hz
      cases ef
      cases rdr_str rx; cases rdr_str ry
      exact .inr (.inl ⟨_, _, rfl, rfl, hz, q _ G H (Stp.refl g) (Rep.str _)⟩)
    · cases ef
  · split at ef
    · rename_i hz
      cases ef
      obtain ⟨a, xs, e1, q1, r1⟩ := rdr_list g rx
      obtain ⟨b, ys, e2, q2, r2⟩ := rdr_list g ry
      exact .inr (.inr (.inl ⟨a, b, xs, ys, e1, e2, q1, q2, by rw [r1.length, r2.length]; exact hz, new_list g (r1.append r2) q⟩))
    · cases ef
  · split at ef
    · rename_i hz
      cases ef
      obtain ⟨a, xs, e1, q1, r1⟩ := rdr_tup g rx
      obtain ⟨b, ys, e2, q2, r2⟩ := rdr_tup g ry
      refine .inr (.inr (.inr ⟨a, b, xs, ys, e1, e2, q1, q2, by rw [r1.length, r2.length]; exact hz, fun h => ?_, fun h1 h2 => ?_, fun h1 h2 => new_tup g (r1.append r2) q⟩))
      · subst h
        cases r1
        rcases ry with ry | ⟨c, _, t⟩
        · subst e2; exact q _ G H (Stp.refl g) ry
        · exact t.elim
      · subst h2
        cases r2
        rcases rx with rx | ⟨c, _, t⟩
        · subst e1; rw [List.append_nil] at q; exact q _ G H (Stp.refl g) rx
        · exact t.elim
    · cases ef
  · cases ef
theorem addF_ne : NoExc addF := fun d e x => by
  unfold addF
  split <;> (try split) <;> (intro h; cases h)
def subF : PyData → PyData → Res Slot
  | .int i, .int j => okI (i - j)
  | _, _ => .stuck
theorem subF_ok {K : Kw} : OpS K (rI0 fun i j => .int (i - j)) subF := by
  intro G H x y d e s Q g rx ry ef q
  unfold subF at ef
  split at ef
  · cases ef
    cases rdr_int rx; cases rdr_int ry
    exact ⟨_, _, rfl, rfl, q _ G H (Stp.refl g) (Rep.int _)⟩
  · cases ef
theorem subF_ne : NoExc subF := fun d e x => by
  unfold subF
  split <;> (intro h; cases h)
/-- products: the model's own line -/
theorem op_mulA : OpR X (binaryOp .Mult) (rI IntMulOk fun i j => .int (i * j)) := opI fun _ _ _ _ _ _ _ hc q => PyProof.Rows.mul_int q hc
instance (i j : Int) : Decidable (IntMulOk i j) := by unfold IntMulOk; infer_instance
/-- list * n, any list that is read -/
def rRepG (K : PySem.W.Frag) : R2 := fun x y H Q => ∃ a k xs, x = .ref a ∧ y = .int k ∧ H a = some (.lst xs) ∧ -(2 ^ 63) ≤ k ∧ k < 2 ^ 63 ∧ xs.length * k.toNat ≤ sizeLine ∧ ∀ p, H p = none → Q (.ref p) (upd H p (.lst (List.replicate k.toNat xs).flatten))
def mulF : PyData → PyData → Res Slot
  | .int i, .int j => if IntMulOk i j then okI (i * j) else .stuck
  | _, _ => .stuck
theorem mulF_ok {K : Kw} : OpS K (rI IntMulOk fun i j => .int (i * j)) mulF := by
  intro G H x y d e s Q g rx ry ef q
  unfold mulF at ef
  split at ef
  · split at ef
    · rename_i hz
      cases ef
      cases rdr_int rx; cases rdr_int ry
      exact ⟨_, _, rfl, rfl, hz, q _ G H (Stp.refl g) (Rep.int _)⟩
    · cases ef
  · cases ef
theorem mulF_ne : NoExc mulF := fun d e x => by
  unfold mulF
  split <;> (try split) <;> (intro h; cases h)
def CDivA (i j : Int) : Prop := j ≠ 0 ∧ Builtin.divisionGoesByPylong i j = false
instance (i j : Int) : Decidable (CDivA i j) := by unfold CDivA; infer_instance
theorem op_fdivA : OpR X (binaryOp .FloorDiv) (rI CDivA fun i j => .int (i.fdiv j)) := opI fun _ _ _ _ _ _ _ hc q => PyProof.Rows.floordiv_int hc.1 q (.inl hc.2)
def divF : PyData → PyData → Res Slot
  | .int i, .int j => if CDivA i j then okI (i.fdiv j) else .stuck
  | _, _ => .stuck
theorem divF_ok {K : Kw} : OpS K (rI CDivA fun i j => .int (i.fdiv j)) divF := by
  intro G H x y d e s Q g rx ry ef q
  unfold divF at ef
  split at ef
  · split at ef
    · rename_i hz
      cases ef
      cases rdr_int rx; cases rdr_int ry
      exact ⟨_, _, rfl, rfl, hz, q _ G H (Stp.refl g) (Rep.int _)⟩
    · cases ef
  · cases ef
theorem divF_ne : NoExc divF := fun d e x => by
  unfold divF
  split <;> (try split) <;> (intro h; cases h)
def modF : PyData → PyData → Res Slot
  | .int i, .int j => if j ≠ 0 then okI (i.fmod j) else .stuck
  | _, _ => .stuck
theorem modF_ok {K : Kw} : OpS K (rI (fun _ j => j ≠ 0) fun i j => .int (i.fmod j)) modF := by
  intro G H x y d e s Q g rx ry ef q
  unfold modF at ef
  split at ef
  · split at ef
    · rename_i hz
      cases ef
      cases rdr_int rx; cases rdr_int ry
      exact ⟨_, _, rfl, rfl, hz, q _ G H (Stp.refl g) (Rep.int _)⟩
    · cases ef
  · cases ef
theorem modF_ne : NoExc modF := fun d e x => by
  unfold modF
  split <;> (try split) <;> (intro h; cases h)
instance (i j : Int) : Decidable (CPow i j) := by unfold CPow; infer_instance
def powF : PyData → PyData → Res Slot
  | .int i, .int j => if CPow i j then okI (i ^ j.toNat) else .stuck
  | _, _ => .stuck
theorem powF_ok {K : Kw} : OpS K (rI CPow fun i j => .int (i ^ j.toNat)) powF := by
  intro G H x y d e s Q g rx ry ef q
  unfold powF at ef
  split at ef
  · split at ef
    · rename_i hz
      cases ef
      cases rdr_int rx; cases rdr_int ry
      exact ⟨_, _, rfl, rfl, hz, q _ G H (Stp.refl g) (Rep.int _)⟩
    · cases ef
  · cases ef
theorem powF_ne : NoExc powF := fun d e x => by
  unfold powF
  split <;> (try split) <;> (intro h; cases h)
/-- == -/
def eqF (d e : PyData) : Res Slot := if SeqAt.shaped d = true ∧ SeqAt.shaped e = true then okB (PyData.eqv d e) else .stuck
def neF (d e : PyData) : Res Slot := if SeqAt.shaped d = true ∧ SeqAt.shaped e = true then okB (!PyData.eqv d e) else .stuck
theorem eqF_ok {K : Kw} : OpS K (rEqD K) eqF := by
  intro G H x y d e s Q g rx ry ef q
  unfold eqF at ef
  split at ef
  · rename_i hz
    cases ef
    exact ⟨d, e, rdr_dp g (SeqAt.canLay_of_shaped hz.1) rx, rdr_dp g (SeqAt.canLay_of_shaped hz.2) ry, hz.1, hz.2, q _ G H (Stp.refl g) (Rep.bl _)⟩
  · cases ef
theorem neF_ok {K : Kw} : OpS K (rNeD K) neF := by
  intro G H x y d e s Q g rx ry ef q
  unfold neF at ef
  split at ef
  · rename_i hz
    cases ef
    exact ⟨d, e, rdr_dp g (SeqAt.canLay_of_shaped hz.1) rx, rdr_dp g (SeqAt.canLay_of_shaped hz.2) ry, hz.1, hz.2, q _ G H (Stp.refl g) (Rep.bl _)⟩
  · cases ef
theorem eqF_ne : NoExc eqF := fun d e x => by
  unfold eqF
  split <;> (intro h; cases h)
theorem neF_ne : NoExc neF := fun d e x => by
  unfold neF
  split <;> (intro h; cases h)
/-- < <= > >= of ints -/
def cmpF (p : Int → Int → Bool) : PyData → PyData → Res Slot
  | .int i, .int j => okB (p i j)
  | _, _ => .stuck
theorem cmpF_ok {K : Kw} {p : Int → Int → Bool} : OpS K (rI0 fun i j => .bl (p i j)) (cmpF p) := by
  intro G H x y d e s Q g rx ry ef q
  unfold cmpF at ef
  split at ef
  · cases ef
    cases rdr_int rx; cases rdr_int ry
    exact ⟨_, _, rfl, rfl, q _ G H (Stp.refl g) (Rep.bl _)⟩
  · cases ef
theorem cmpF_ne {p : Int → Int → Bool} : NoExc (cmpF p) := fun d e x => by
  unfold cmpF
  split <;> (intro h; cases h)
abbrev ltF := cmpF fun i j => decide (i < j)
abbrev leF := cmpF fun i j => decide (i ≤ j)
abbrev gtF := cmpF fun i j => decide (j < i)
abbrev geF := cmpF fun i j => decide (j ≤ i)
/-- is, is not: None, True, False on the right -/
def rIsD : R2 := fun x y H Q => (y = .non ∧ Q (.bl (decide (x = .non))) H) ∨ rIsB x y H Q
def rIsNotD : R2 := fun x y H Q => (y = .non ∧ Q (.bl (!decide (x = .non))) H) ∨ rNotB x y H Q
theorem op_isD : OpR X (compareOp .Is) rIsD := op_isN.or op_isBl
theorem op_isNotD : OpR X (compareOp .IsNot) rIsNotD := op_notN.or op_notBl
def PyData.isNone : PyData → Bool
  | .none => true
  | _ => false
def isF (neg : Bool) : PyData → PyData → Res Slot
  | d, .none => okB (neg != PyData.isNone d)
  | .bool a, .bool b => okB (neg != decide (a = b))
  | _, _ => .stuck
theorem rdr_isNone {K : Kw} {G H : Hp} {v : V} {d : PyData} (g : Same G H) (h : RdR K G H v d) : decide (v = .non) = PyData.isNone d := by
  cases d with
  | none => cases rdr_none h; rfl
  | bool b => cases rdr_bool h; rfl
  | int i => cases rdr_int h; rfl
  | str x => cases rdr_str h; rfl
  | list ds => obtain ⟨a, xs, e, q, _⟩ := rdr_list g h; subst e; rfl
  | tuple ds => obtain ⟨a, xs, e, q, _⟩ := rdr_tup g h; subst e; rfl
  | dict ds => obtain ⟨a, e, q⟩ := rdr_dict g h; subst e; rfl
theorem isF_ok {K : Kw} : OpS K rIsD (isF false) := by
  intro G H x y d e s Q g rx ry ef q
  unfold isF at ef
  split at ef
  · cases ef
    cases rdr_none ry
    refine .inl ⟨rfl, q _ G H (Stp.refl g) ?_⟩
    rw [rdr_isNone g rx]
    simpa using (show ResF K H G H (.val (.bool (PyData.isNone d))) (.bl (PyData.isNone d)) from Rep.bl _)
  · cases ef
    cases rdr_bool rx; cases rdr_bool ry
    refine .inr ⟨_, _, rfl, rfl, q _ G H (Stp.refl g) ?_⟩
    simpa using (show ResF K H G H (.val (.bool (decide (_ = _)))) (.bl (decide (_ = _))) from Rep.bl _)
  · cases ef
theorem isNotF_ok {K : Kw} : OpS K rIsNotD (isF true) := by
  intro G H x y d e s Q g rx ry ef q
  unfold isF at ef
  split at ef
  · cases ef
    cases rdr_none ry
    refine .inl ⟨rfl, q _ G H (Stp.refl g) ?_⟩
    rw [rdr_isNone g rx]
    simpa using (show ResF K H G H (.val (.bool (!PyData.isNone d))) (.bl (!PyData.isNone d)) from Rep.bl _)
  · cases ef
    cases rdr_bool rx; cases rdr_bool ry
    refine .inr ⟨_, _, rfl, rfl, q _ G H (Stp.refl g) ?_⟩
    simpa using (show ResF K H G H (.val (.bool (!decide (_ = _)))) (.bl (!decide (_ = _))) from Rep.bl _)
  · cases ef
theorem isF_ne {neg : Bool} : NoExc (isF neg) := fun d e x => by
  unfold isF
  split <;> (intro h; cases h)
/-! ### 3. subscripts, slices -/
variable {a : Ax} {W : WX} {e e1 e2 e3 : Expr} {es : List Expr} {pos : Pos}
def ixF : PyData → PyData → Res Slot
  | .list ds, .int i => match atI ds i with
    | some d => okV d
    | none => .stuck
  | .tuple ds, .int i => match atI ds i with
    | some d => okV d
    | none => .stuck
  | .str z, .int i => if z.length ≤ sizeLine then (match atI z.cps.toList i with
    | some c => okV (.str ⟨#[c]⟩)
    | none => .stuck) else .stuck
  | _, _ => .stuck
theorem repL_at {K : Kw} {G : Hp} {xs : List V} {ds : List PyData} {i : Int} {d : PyData} (r : RepL K G xs ds) (h : atI ds i = some d) : ∃ v, atI xs i = some v ∧ Rep K G v d := by
  unfold atI at h ⊢
  rw [r.length]
  cases e : ixN ds.length i with
  | none => rw [e] at h; cases h
  | some j =>
    rw [e] at h
    exact r.get h
theorem ixF_ok {K : Kw} : OpS K (rIx K) ixF := by
  intro G H x y d e s Q g rx ry ef q
  unfold ixF at ef
  split at ef
  · split at ef
    · rename_i he
      cases ef
      cases rdr_int ry
      obtain ⟨a, xs, e1, q1, r1⟩ := rdr_list g rx
      obtain ⟨v, hv, rv⟩ := repL_at r1 he
      exact .inl ⟨a, xs, _, v, e1, rfl, q1, hv, q v G H (Stp.refl g) rv⟩
    · cases ef
  · split at ef
    · rename_i he
      cases ef
      cases rdr_int ry
      obtain ⟨a, xs, e1, q1, r1⟩ := rdr_tup g rx
      obtain ⟨v, hv, rv⟩ := repL_at r1 he
      exact .inr (.inl ⟨a, xs, _, v, e1, rfl, q1, hv, q v G H (Stp.refl g) rv⟩)
    · cases ef
  · split at ef
    · rename_i hz
      split at ef
      · rename_i he
        cases ef
        cases rdr_int ry
        cases rdr_str rx
        exact .inr (.inr ⟨_, _, _, rfl, rfl, hz, he, q _ G H (Stp.refl g) (Rep.str _)⟩)
      · cases ef
    · cases ef
  · cases ef
theorem ixF_ne : NoExc ixF := fun d e x => by
  unfold ixF
  split <;> (try split) <;> (try split) <;> (intro h; cases h)
/-- xs[i] of a list, a tuple, a text -/
theorem de_ix {ma mb : MD} (ha : DR X a W e1 ma) (hb : DR X a W e2 mb) (hs : PlainIx e2) : DE X a W (.Subscript e1 e2 pos) (mB ixF ma mb) :=
  let ⟨_, pa, sa⟩ := ha; let ⟨_, pb, sb⟩ := hb; ⟨_, pe_ix ix_seq pa pb hs, snd_op (C := cn X a) ixF_ok ixF_ne sa sb⟩
/-- parts of slices -/
abbrev relO : Hp → Hp → Hp → Option Int → Option Int → Prop := fun _ _ _ o p => o = p
def DO (X : Cx) (a : Ax) (W : WX) (e : Option Expr) (m : DEnv → Res (Option Int)) : Prop := ∃ t, PO X e t ∧ Snd (cn X a) W relO t m
def mO0 : DEnv → Res (Option Int) := fun _ => .ok none
def asI : PyData → Res (Option Int)
  | .int i => .ok (some i)
  | _ => .stuck
def mO (m : MD) : DEnv → Res (Option Int) := fun δ => (m δ).bind asI
theorem do_none : DO X a W none mO0 := ⟨_, po_none, fun B G0 G H σ δ S Q hq => hq none G H (Stp.refl S.gh) rfl⟩
theorem do_some {m : MD} (h : DR X a W e m) : DO X a W (some e) (mO m) := by
  obtain ⟨t, p, s⟩ := h
  refine ⟨_, po_some p, fun B G0 G H σ δ S Q hq => ?_⟩
  refine s B G0 G H σ δ S _ ?_
  have hq' : ROk (cn X a) W σ G H (relO H) ((m δ).bind asI) Q := hq
  generalize m δ = r at hq'
  cases r with
  | stuck => exact hq'.elim
  | exc x => exact hq'
  | ok d =>
    intro v G' H' st r
    have hq2 : ROk (cn X a) W σ G H (relO H) (asI d) Q := hq'
    unfold asI at hq2
    split at hq2
    · exact ⟨_, rdr_int r, hq2 _ G' H' st rfl⟩
    · exact hq2.elim
def cutD (xs : List PyData) (lo hi : Option Int) : List PyData := (xs.drop (HT.sIx xs.length 0 lo)).take (HT.sIx xs.length xs.length hi - HT.sIx xs.length 0 lo)
def slF (d : PyData) (lo hi : Option Int) : Res Slot := match d with
  | .list ds => .ok (.own (.list (cutD ds lo hi)))
  | .tuple ds => okV (.tuple (cutD ds lo hi))
  | .str z => if z.length ≤ sizeLine then okV (.str (cutS z lo hi)) else .stuck
  | _ => .stuck
theorem repL_cut {K : Kw} {G : Hp} {xs : List V} {ds : List PyData} (r : RepL K G xs ds) (lo hi : Option Int) : RepL K G (cutV xs lo hi) (cutD ds lo hi) := by
  unfold cutV cutD
  rw [r.length]
  exact (r.drop _).take _
def rSlD (K : PySem.W.Frag) : V → Option Int → Option Int → Hp → VK → Prop := fun x lo hi H Q => rSlL K x lo hi H Q ∨ (rSlA K x lo hi H Q ∨ rSlS x lo hi H Q)
theorem sl_D : L2.SlR X (rSlD X.K) := L2.SlR.or sl_list (L2.SlR.or sl_tupA sl_str)
theorem cutD_whole {ds : List PyData} {lo hi : Option Int} (h : HT.sIx ds.length 0 lo = 0 ∧ HT.sIx ds.length ds.length hi = ds.length) : cutD ds lo hi = ds := by
  unfold cutD
  rw [h.1, h.2]
  simp
theorem slF_ok {K : Kw} {G H : Hp} {x : V} {d : PyData} {lo hi : Option Int} {s : Slot} {Q : VK} (g : Same G H) (rx : RdR K G H x d) (ef : slF d lo hi = .ok s) (q : ∀ v G' H', Stp G H G' H' → ResF K H G' H' s v → Q v H') : rSlD K x lo hi H Q := by
  unfold slF at ef
  split at ef
  · cases ef
    obtain ⟨b, xs, e1, q1, r1⟩ := rdr_list g rx
    exact .inl ⟨b, xs, e1, q1, new_list g (repL_cut r1 lo hi) q⟩
  · cases ef
    obtain ⟨b, xs, e1, q1, r1⟩ := rdr_tup g rx
    refine .inr (.inl ⟨b, xs, e1, q1, fun hw => ?_, fun hw => new_tup g (repL_cut r1 lo hi) q⟩)
    rw [r1.length] at hw
    rw [cutD_whole hw] at q
    rcases rx with rx | ⟨c, _, t⟩
    · subst e1; exact q _ G H (Stp.refl g) rx
    · exact t.elim
  · split at ef
    · rename_i hz
      cases ef
      cases rdr_str rx
      exact .inr (.inr ⟨_, rfl, hz, q _ G H (Stp.refl g) (Rep.str _)⟩)
    · cases ef
  · cases ef
def mSl (m : MD) (ml mh : DEnv → Res (Option Int)) : ME := fun δ => (m δ).bind fun d => (ml δ).bind fun lo => (mh δ).bind fun hi => slF d lo hi
theorem slF_ne {d : PyData} {lo hi : Option Int} {x : Exn} : slF d lo hi ≠ .exc x := by
  unfold slF
  split <;> (try split) <;> (intro h; cases h)
theorem de_sl {m : MD} {ml mh : DEnv → Res (Option Int)} {lo hi : Option Expr} {p2 : Pos} (h : DR X a W e m) (hl : DO X a W lo ml) (hh : DO X a W hi mh) : DE X a W (.Subscript e (.Slice lo hi none p2) pos) (mSl m ml mh) := by
  obtain ⟨t, p, s⟩ := h
  obtain ⟨tl, pl, sl⟩ := hl
  obtain ⟨th, ph, sh⟩ := hh
  refine ⟨_, pe_slice sl_D p pl ph, ?_⟩
  intro B G0 G H σ δ S Q hq
  refine s B G0 G H σ δ S _ ?_
  have hq' : ROk (cn X a) W σ G H (relE X.kw H) ((m δ).bind fun d => (ml δ).bind fun lo => (mh δ).bind fun hi => slF d lo hi) Q := hq
  generalize m δ = r at hq'
  cases r with
  | stuck => exact hq'.elim
  | exc x => exact hq'
  | ok d =>
    intro x G1 H1 st1 rd
    rw [bind_ok] at hq'
    refine sl B G0 G1 H1 σ δ (S.step st1) _ ?_
    generalize ml δ = r at hq'
    cases r with
    | stuck => exact hq'.elim
    | exc x => exact fun cls d G2 H2 s2 r => hq' cls d G2 H2 (st1.trans s2) r
    | ok lo =>
      intro l G2 H2 st2 el
      cases el
      rw [bind_ok] at hq'
      refine sh B G0 G2 H2 σ δ ((S.step st1).step st2) _ ?_
      generalize mh δ = r at hq'
      cases r with
      | stuck => exact hq'.elim
      | exc x => exact fun cls d G3 H3 s3 r => hq' cls d G3 H3 ((st1.trans st2).trans s3) r
      | ok hi =>
        intro u G3 H3 st3 eu
        cases eu
        rw [bind_ok] at hq'
        have st := (st1.trans st2).trans st3
        cases ef : slF d lo hi with
        | stuck => rw [ef] at hq'; exact hq'.elim
        | exc z => exact (slF_ne ef).elim
        | ok sl =>
          rw [ef] at hq'
          exact slF_ok st.gh (rd.mono (st2.trans st3).g (st2.trans st3).h) ef fun v G4 H4 s4 r => hq' v G4 H4 (st.trans s4) (ResF.mono0 st.h r)
end
end DL
/-! DLk: dicts over data: keys are ints and texts, or tuples, nested as they are -/
namespace DL
open PySem L2
/-! ### 1. keys -/
mutual
def kN : PyData → NestedKey
  | .none => .none
  | .int i => .num i
  | .str x => .text x
  | .bool b => .num (if b then 1 else 0)
  | .tuple ds => .tup (kNs ds)
  | .list _ => .none
  | .dict _ => .none
def kNs : List PyData → List NestedKey
  | [] => []
  | d :: ds => kN d :: kNs ds
end
mutual
def isKey : PyData → Bool
  | .none => true
  | .int _ => true
  | .str _ => true
  | .tuple ds => isKeys ds
  | .bool _ => false
  | .list _ => false
  | .dict _ => false
def isKeys : List PyData → Bool
  | [] => true
  | d :: ds => isKey d && isKeys ds
end
mutual
theorem data_kN : ∀ k : NestedKey, kN k.data = k
  | .none => rfl
  | .num _ => rfl
  | .text _ => rfl
  | .tup ks => by show NestedKey.tup (kNs (NestedKey.datas ks)) = _; rw [datas_kN ks]
theorem datas_kN : ∀ ks : List NestedKey, kNs (NestedKey.datas ks) = ks
  | [] => rfl
  | k :: ks => by show kN k.data :: kNs (NestedKey.datas ks) = _; rw [data_kN k, datas_kN ks]
end
mutual
theorem kN_data : ∀ {d : PyData}, isKey d = true → (kN d).data = d
  | .none, _ => rfl
  | .int _, _ => rfl
  | .str _, _ => rfl
  | .tuple ds, h => by show PyData.tuple (NestedKey.datas (kNs ds)) = _; rw [kNs_data (by simpa [isKey] using h)]
  | .bool _, h => by cases h
  | .list _, h => by cases h
  | .dict _, h => by cases h
theorem kNs_data : ∀ {ds : List PyData}, isKeys ds = true → NestedKey.datas (kNs ds) = ds
  | [], _ => rfl
  | d :: ds, h => by
    have h' : isKey d = true ∧ isKeys ds = true := by simpa [isKeys] using h
    show (kN d).data :: NestedKey.datas (kNs ds) = _
    rw [kN_data h'.1, kNs_data h'.2]
end
def isTup : PyData → Bool
  | .tuple _ => true
  | _ => false
def flatKey : PyData → Bool
  | .int _ => true
  | .str _ => true
  | _ => false
def okKey (d : PyData) : Bool := (flatKey d || (isTup d && isKey d)) && decide ((kN d).depth ≤ 8)
/-- a dict's keys are all of the kind of k -/
def kindOk (ds : List (PyData × PyData)) (k : PyData) : Bool := ds.all fun p => isTup p.1 == isTup k
def dgetN (ds : List (PyData × PyData)) (k : NestedKey) : Option PyData := (ds.find? fun p => decide (kN p.1 = k)).map (·.2)
def dget (ds : List (PyData × PyData)) (k : PyData) : Option PyData := dgetN ds (kN k)
def dput (ds : List (PyData × PyData)) (k v : PyData) : List (PyData × PyData) := if (dget ds k).isSome then ds.map (fun p => if kN p.1 = kN k then (p.1, v) else p) else ds ++ [(k, v)]
def ddel (ds : List (PyData × PyData)) (k : PyData) : List (PyData × PyData) := ds.filter fun p => decide (kN p.1 ≠ kN k)
def kK : Key → NestedKey
  | .inl i => .num i
  | .inr x => .text x
theorem kN_keyD (k : Key) : kN (keyD k) = kK k := by cases k <;> rfl
theorem kK_inj {j k : Key} : kK j = kK k ↔ j = k := by
  cases j <;> cases k <;> simp [kK]
theorem flat_key {d : PyData} (h : flatKey d = true) : ∃ k : Key, d = keyD k := by
  cases d with
  | int i => exact ⟨.inl i, rfl⟩
  | str x => exact ⟨.inr x, rfl⟩
  | none => cases h
  | bool _ => cases h
  | list _ => cases h
  | tuple _ => cases h
  | dict _ => cases h
/-! ### 2. how they are borne -/
def DcV (K : Kw) (G H : Hp) (a : Addr) (ds : List (PyData × PyData)) : Prop := (∃ l, Rd H a (.dK l) ∧ RepK K G l ds) ∨ ∃ l, Rd H a (dnO K.w a l) ∧ l.length ≤ sizeLine ∧ RepN K G l ds
theorem DcV.mono {K : Kw} {G H G' H' : Hp} {a : Addr} {ds : List (PyData × PyData)} (g : Same G G') (h : Same H H') (d : DcV K G H a ds) : DcV K G' H' a ds := by
  rcases d with ⟨l, e, r⟩ | ⟨l, e, z, r⟩
  · exact .inl ⟨l, rd_mono h e, r.mono g⟩
  · exact .inr ⟨l, rd_mono h e, z, r.mono g⟩
theorem Top.dv {K : Kw} {G H : Hp} {a : Addr} {ds : List (PyData × PyData)} (t : Top K G H a (.dict ds)) : DcV K G H a ds := by
  rcases t with ⟨l, e, r⟩ | ⟨l, e, z, r⟩
  · exact .inl ⟨l, .inl e, r⟩
  · exact .inr ⟨l, .inl e, z, r⟩
abbrev PX : List (NestedKey × Addr × V) → List (NestedKey × Addr × Value) → Prop := Paired fun p q => p.1 = q.1 ∧ p.2.1 = q.2.1 ∧ RelV p.2.2 q.2.2
def lval (l : List (NestedKey × Addr × V)) (k : NestedKey) : Option V := (l.find? fun x => decide (x.1 = k)).map fun x => x.2.2
theorem PX.val : ∀ {l : List (NestedKey × Addr × V)} {xs : List (NestedKey × Addr × Value)}, PX l xs → ∀ k, RelO (lval l k) ((atKey xs k).map (·.2))
  | _, _, .nil, k => True.intro
  | _, _, .cons (a := p) (b := q) r t, k => by
    have ih := PX.val t k
    obtain ⟨e1, e2, e3⟩ := r
    by_cases h : q.1 = k
    · have h' : p.1 = k := e1.trans h
      have a1 : ∀ r, lval (p :: r) k = some p.2.2 := fun r => by simp [lval, List.find?_cons, h']
      have a2 : ∀ r, (atKey (q :: r) k).map (·.2) = some q.2.2 := fun r => by simp [atKey, List.find?_cons, h]
      rw [a1, a2]
      exact e3
    · have h' : ¬ p.1 = k := fun z => h (e1.symm.trans z)
      simpa [lval, atKey, List.find?_cons, h, h'] using ih
theorem RepN.val {K : Kw} {G : Hp} : ∀ {l : List (NestedKey × Addr × V)} {ds : List (PyData × PyData)}, RepN K G l ds → ∀ k, (dgetN ds k = none ∧ lval l k = none) ∨ ∃ d v, dgetN ds k = some d ∧ lval l k = some v ∧ Rep K G v d
  | _, _, .nil, k => .inl ⟨rfl, rfl⟩
  | _, _, .cons (k := j) (kd := kd) e rk r t, k => by
    have ih := RepN.val t k
    have ej : kN kd = j := by rw [e]; exact data_kN j
    by_cases h : j = k
    · exact .inr ⟨_, _, by simp [dgetN, List.find?_cons, ej, h], by simp [lval, List.find?_cons, h], r⟩
    · simpa [dgetN, lval, List.find?_cons, ej, h] using ih
theorem RepK.val {K : Kw} {G : Hp} : ∀ {l : List (Key × V)} {ds : List (PyData × PyData)}, RepK K G l ds → ∀ k : Key, (dgetN ds (kK k) = none ∧ valV l k = none) ∨ ∃ d v, dgetN ds (kK k) = some d ∧ valV l k = some v ∧ Rep K G v d
  | _, _, .nil, k => .inl ⟨rfl, rfl⟩
  | _, _, .cons (k := j) r t, k => by
    have ih := RepK.val t k
    have ej : kN (keyD j) = kK j := kN_keyD j
    by_cases h : j = k
    · subst h; exact .inr ⟨_, _, by simp [dgetN, List.find?_cons, ej], by simp [valV, List.find?_cons], r⟩
    · have h' : ¬ kK j = kK k := fun z => h (kK_inj.mp z)
      simpa [dgetN, valV, List.find?_cons, ej, h, h'] using ih
section
variable {X : Cx} {pins : List (Addr × Obj)} {σ : St} {H G : Hp} {s : Shared}
mutual
theorem key_is (I : Inv X pins σ H s) (g : Same G H) : ∀ (k : NestedKey) {v : V} {u : Value}, Rep X.kw G v k.data → RelV v u → NestedIs s.heap k u
  | .none, v, u, r, ru => by
    have r' : Rep X.kw G v .none := r
    cases r'; cases (show u = Value.none from ru); exact .none
  | .num i, v, u, r, ru => by
    have r' : Rep X.kw G v (.int i) := r
    cases r'; obtain ⟨t, rfl⟩ := (show ∃ t, u = Value.int i t from ru); exact .int i t
  | .text x, v, u, r, ru => by
    have r' : Rep X.kw G v (.str x) := r
    cases r'; obtain ⟨t, rfl⟩ := (show ∃ t, u = Value.str x t from ru); exact .text x t
  | .tup ks, v, u, r, ru => by
    have r' : Rep X.kw G v (.tuple (NestedKey.datas ks)) := r
    cases r' with
    | tup h rs =>
      cases (show u = Value.ref _ from ru)
      obtain ⟨its, rv, ⟨o, h1, h2, n, h3⟩, _⟩ := I.tuple (sqT_mono g h)
      exact .tup h1 h2 h3 (by simpa using keys_is I g ks rs rv)
theorem keys_is (I : Inv X pins σ H s) (g : Same G H) : ∀ (ks : List NestedKey) {vs : List V} {us : List Value}, RepL X.kw G vs (NestedKey.datas ks) → Vals vs us → NestedAll s.heap ks us
  | [], vs, us, r, ru => by
    have r' : RepL X.kw G vs [] := r
    cases r'; cases ru; exact .nil
  | k :: ks, vs, us, r, ru => by
    have r' : RepL X.kw G vs (k.data :: NestedKey.datas ks) := r
    cases r' with
    | cons r1 r2 => cases ru with
      | cons u1 u2 => exact .cons (key_is I g k r1 u1) (keys_is I g ks r2 u2)
end
theorem RepN.key {K : Kw} {G : Hp} : ∀ {l : List (NestedKey × Addr × V)} {ds : List (PyData × PyData)}, RepN K G l ds → ∀ {i : Nat} {p : NestedKey × Addr × V}, l[i]? = some p → Rep K G (.ref p.2.1) p.1.data ∧ ∃ d, ds[i]? = some (p.1.data, d) ∧ Rep K G p.2.2 d
  | _, _, .nil, i, p, e => by simp at e
  | _, _, .cons ek rk r t, 0, p, e => by simp at e; subst e; subst ek; exact ⟨rk, _, rfl, r⟩
  | _, _, .cons _ _ _ t, i + 1, p, e => by
    obtain ⟨h1, d, h2, h3⟩ := RepN.key t (i := i) (by simpa using e)
    exact ⟨h1, d, by simpa using h2, h3⟩
theorem paired_inv {α β : Type} {R : α → β → Prop} : ∀ {xs : List α} {ys : List β}, Paired R xs ys → ∀ {i : Nat} {y : β}, ys[i]? = some y → ∃ x, xs[i]? = some x ∧ R x y
  | _, _, .nil, i, _, e => by simp at e
  | _, _, .cons r t, 0, _, e => by simp at e; subst e; exact ⟨_, rfl, r⟩
  | _, _, .cons _ t, i + 1, _, e => by
    obtain ⟨x, h1, h2⟩ := paired_inv t (i := i) (by simpa using e)
    exact ⟨x, by simpa using h1, h2⟩
theorem dn_heap (I : Inv X pins σ H s) (g : Same G H) {a : Addr} {l : List (NestedKey × Addr × V)} {ds : List (PyData × PyData)} (e : Rd H a (dnO X.w a l)) (r : RepN X.kw G l ds) : ∃ xs, PX l xs ∧ s.heap.DictOfH (nestedKind X.prog X.w) a xs ∧ (a == sysModules) = false ∧ ∀ x ∈ xs, x.1.depth ≤ 8 := by
  obtain ⟨hd, xs, o, es, ep, px, ho, hc, hdat, hes, hnd, hdep⟩ := dn_of I.hok e
  refine ⟨xs, px, ⟨o, es, ep, ho, hc, hdat, hes, fun x hx => ?_, hnd⟩, hd, hdep⟩
  obtain ⟨i, hi⟩ := List.mem_iff_getElem?.mp hx
  obtain ⟨p, hp, e1, e2, e3⟩ := paired_inv px hi
  obtain ⟨rk, _⟩ := r.key hp
  rw [e1, e2] at rk
  exact ⟨key_is I g x.1 rk rfl, hdep x hx⟩
theorem rep_ref_tup {K : Kw} {G : Hp} {b : Addr} {k : NestedKey} (r : Rep K G (.ref b) k.data) : isTup k.data = true := by
  cases k with
  | none => cases (show Rep K G (.ref b) .none from r)
  | num i => cases (show Rep K G (.ref b) (.int i) from r)
  | text x => cases (show Rep K G (.ref b) (.str x) from r)
  | tup ks => rfl
theorem pairs_nil {P : Program} {w : World} {L : List DictEntry} (h : Pairs (mixKind P w) L []) : L = [] := by cases h; rfl
/-- a dict asked with a tuple -/
theorem dv_tup (I : Inv X pins σ H s) (g : Same G H) {a : Addr} {ds : List (PyData × PyData)} (D : DcV X.kw G H a ds) (kk : ∀ p ∈ ds, isTup p.1 = true) :
    ∃ l xs, RepN X.kw G l ds ∧ PX l xs ∧ s.heap.DictOfH (nestedKind X.prog X.w) a xs ∧ (a == sysModules) = false ∧ l.length ≤ sizeLine := by
  rcases D with ⟨l, e, r⟩ | ⟨l, e, z, r⟩
  · cases r with
    | nil =>
      obtain ⟨_, hd, vs, rel, o, es, ep, ho, hc, hdat, _, hes, _⟩ := dk_rd I.hok e
      cases rel
      exact ⟨[], [], .nil, .nil, ⟨o, es, ep, ho, hc, hdat, pairs_nil hes, (fun x hx => nomatch hx), List.nodup_nil⟩, hd, Nat.zero_le _⟩
    | cons _ _ =>
      rename_i k _ _ _ _ _ _
      have := kk _ List.mem_cons_self
      cases k <;> cases this
  · obtain ⟨xs, px, dd, hd, _⟩ := dn_heap I g e r
    exact ⟨l, xs, r, px, dd, hd, z⟩
/-- a dict asked with an int or a text -/
theorem dv_flat (I : Inv X pins σ H s) (g : Same G H) {a : Addr} {ds : List (PyData × PyData)} (D : DcV X.kw G H a ds) (kk : ∀ p ∈ ds, isTup p.1 = false) :
    ∃ l vs, RepK X.kw G l ds ∧ KV l vs ∧ s.heap.DictOf (mixKind X.prog X.w) a vs ∧ (a == sysModules) = false ∧ l.length ≤ sizeLine := by
  rcases D with ⟨l, e, r⟩ | ⟨l, e, z, r⟩
  · obtain ⟨z, hd, vs, rel, dd⟩ := dk_rd I.hok e
    exact ⟨l, vs, r, rel, dd, hd, z⟩
  · cases r with
    | nil =>
      obtain ⟨hd, xs, o, es, ep, px, ho, hc, hdat, hes, _⟩ := dn_of I.hok e
      cases px
      have hes' : es.toList = [] := by simpa using hes
      refine ⟨[], [], .nil, .nil, ⟨o, es, ep, ho, hc, hdat, fun x hx => ?_, by rw [hes']; exact .nil, List.nodup_nil⟩, hd, Nat.zero_le _⟩
      have : x ∈ es.toList := by simpa using hx
      rw [hes'] at this
      cases this
    | cons ek rk _ _ =>
      have h1 := kk _ List.mem_cons_self
      subst ek
      rw [rep_ref_tup rk] at h1
      cases h1
theorem kind_of {ds : List (PyData × PyData)} {k : PyData} (h : kindOk ds k = true) : ∀ p ∈ ds, isTup p.1 = isTup k := fun p hp => by
  have := List.all_eq_true.mp h p hp
  simpa using this
theorem ok_kind {k : PyData} (h : okKey k = true) : ((∃ j : Key, k = keyD j) ∧ isTup k = false) ∨ ∃ ks, k = (NestedKey.tup ks).data ∧ kN k = .tup ks ∧ isTup k = true ∧ (NestedKey.tup ks).depth ≤ 8 := by
  have h' : (flatKey k = true ∨ (isTup k = true ∧ isKey k = true)) ∧ (kN k).depth ≤ 8 := by
    simpa [okKey] using h
  rcases h'.1 with f | ⟨t, i⟩
  · obtain ⟨j, rfl⟩ := flat_key f
    exact .inl ⟨⟨j, rfl⟩, by cases j <;> rfl⟩
  · cases k with
    | tuple ds => exact .inr ⟨kNs ds, (kN_data i).symm, rfl, rfl, h'.2⟩
    | none => cases t
    | bool _ => cases t
    | int _ => cases t
    | str _ => cases t
    | list _ => cases t
    | dict _ => cases t
theorem rep_keyD {K : Kw} {G : Hp} {y : V} {j : Key} (r : Rep K G y (keyD j)) : y = kV j := by
  cases j with
  | inl i => have r' : Rep K G y (.int i) := r; cases r'; rfl
  | inr x => have r' : Rep K G y (.str x) := r; cases r'; rfl
theorem rep_tup_ref {K : Kw} {G : Hp} {y : V} {ks : List NestedKey} (r : Rep K G y (NestedKey.tup ks).data) : ∃ b, y = .ref b := by
  have r' : Rep K G y (.tuple (NestedKey.datas ks)) := r
  cases r'
  exact ⟨_, rfl⟩
/-! ### 3. asking -/
variable {A : Around} {E : Value → Shared → Prop} {a : Addr} {ds : List (PyData × PyData)} {kd : PyData} {y : V} {u : Value}
/-- what both kinds give: the value at the key, or none -/
theorem dd_ask (I : Inv X pins σ H s) (g : Same G H) (D : DcV X.kw G H a ds) (ok : okKey kd = true) (kk : kindOk ds kd = true) (ry : Rep X.kw G y kd) (ru : RelV y u) {R : Prop}
    (h1 : ∀ (j : Key) l vs, kd = keyD j → y = kV j → RepK X.kw G l ds → KV l vs → s.heap.DictOf (mixKind X.prog X.w) a vs → (a == sysModules) = false → RelO (valV l j) (valueAt vs j) → R)
    (h2 : ∀ (k : NestedKey) (b : Addr) l xs, kN kd = k → y = .ref b → u = .ref b → (nestedKind X.prog X.w).is s.heap k b → RepN X.kw G l ds → PX l xs → s.heap.DictOfH (nestedKind X.prog X.w) a xs → (a == sysModules) = false → RelO (lval l k) ((atKey xs k).map (·.2)) → R) : R := by
  rcases ok_kind ok with ⟨⟨j, rfl⟩, ht⟩ | ⟨ks, ek, ekn, ht, hdep⟩
  · obtain ⟨l, vs, rk, kv, dd, hd, _⟩ := dv_flat I g D fun p hp => (kind_of kk p hp).trans ht
    exact h1 j l vs rfl (rep_keyD ry) rk kv dd hd (kv.val j)
  · obtain ⟨l, xs, rn, px, dd, hd, _⟩ := dv_tup I g D fun p hp => (kind_of kk p hp).trans ht
    rw [ek] at ry
    obtain ⟨b, rfl⟩ := rep_tup_ref ry
    cases (show u = Value.ref b from ru)
    exact h2 _ b l xs ekn rfl rfl ⟨key_is I g _ ry rfl, hdep⟩ rn px dd hd (px.val _)
theorem dd_item {d : PyData} {Q : Value → Shared → Prop} (hu : A.units + 9 < cLine) (I : Inv X pins σ H s) (g : Same G H) (D : DcV X.kw G H a ds) (ok : okKey kd = true) (kk : kindOk ds kd = true) (ry : Rep X.kw G y kd) (ru : RelV y u) (hd : dget ds kd = some d)
    (h : ∀ v w' s', Inv X pins σ H s' → RelV v w' → Rep X.kw G v d → Q w' s') : wpAny (model X.prog X.w) A (getItem (.ref a) u) Q E s := by
  refine dd_ask I g D ok kk ry ru (fun j l vs ek ey rk kv dd _ rel => ?_) fun k b l xs ek ey eu is rn px dd _ rel => ?_
  · subst ey
    rcases rk.val j with ⟨e, _⟩ | ⟨d', v, e1, e2, rp⟩
    · rw [ek] at hd; unfold dget at hd; rw [kN_keyD, e] at hd; cases hd
    · rw [ek] at hd; unfold dget at hd; rw [kN_keyD, e1] at hd; cases hd
      rw [e2] at rel
      obtain ⟨w', hw, rw'⟩ := RelO.some_of rel
      exact wpAny_getItem_of (kV_is ru) dd.mapOf hw (h v w' _ (I.tok _) rw' rp)
  · subst eu
    rcases rn.val k with ⟨e, _⟩ | ⟨d', v, e1, e2, rp⟩
    · unfold dget at hd; rw [ek, e] at hd; cases hd
    · unfold dget at hd; rw [ek, e1] at hd; cases hd
      rw [e2] at rel
      obtain ⟨w', hw, rw'⟩ := RelO.some_of rel
      obtain ⟨p, hp, hp2⟩ := Option.map_eq_some_iff.mp hw
      refine wpAny_getItem_heap (show A.in1.units + 8 < cLine from by show A.units + 1 + 8 < cLine; omega) is dd hp ?_
      rw [hp2]
      exact h v w' _ (I.tok _) rw' rp
theorem dd_in {Q : Value → Shared → Prop} (hu : A.units + 9 < cLine) (I : Inv X pins σ H s) (g : Same G H) (D : DcV X.kw G H a ds) (ok : okKey kd = true) (kk : kindOk ds kd = true) (ry : Rep X.kw G y kd) (ru : RelV y u)
    (h : ∀ s', Inv X pins σ H s' → Q (.bool (dget ds kd).isSome) s') : wpAny (model X.prog X.w) A (compareOp .In u (.ref a)) Q E s := by
  refine dd_ask I g D ok kk ry ru (fun j l vs ek ey rk kv dd hd rel => ?_) fun k b l xs ek ey eu is rn px dd hd rel => ?_
  · subst ey
    refine wpAny_in_of (kV_is ru) hd dd.mapOf ?_
    rw [← rel.isSome_eq]
    have e : (dget ds kd).isSome = (valV l j).isSome := by
      rw [ek]; unfold dget; rw [kN_keyD]
      rcases rk.val j with ⟨e, e2⟩ | ⟨d', v, e1, e2, rp⟩
      · rw [e, e2]; rfl
      · rw [e1, e2]; rfl
    rw [← e]
    exact h _ (I.tok _)
  · subst eu
    refine wpAny_in_heap (show A.in1.units + 8 < cLine from by show A.units + 1 + 8 < cLine; omega) is hd dd ?_
    have q := rel.isSome_eq
    rw [Option.isSome_map] at q
    rw [← q]
    have e : (dget ds kd).isSome = (lval l k).isSome := by
      unfold dget; rw [ek]
      rcases rn.val k with ⟨e, e2⟩ | ⟨d', v, e1, e2, rp⟩
      · rw [e, e2]; rfl
      · rw [e1, e2]; rfl
    rw [← e]
    exact h _ (I.tok _)
theorem dd_notIn {Q : Value → Shared → Prop} (hu : A.units + 9 < cLine) (I : Inv X pins σ H s) (g : Same G H) (D : DcV X.kw G H a ds) (ok : okKey kd = true) (kk : kindOk ds kd = true) (ry : Rep X.kw G y kd) (ru : RelV y u)
    (h : ∀ s', Inv X pins σ H s' → Q (.bool (!(dget ds kd).isSome)) s') : wpAny (model X.prog X.w) A (compareOp .NotIn u (.ref a)) Q E s := by
  refine dd_ask I g D ok kk ry ru (fun j l vs ek ey rk kv dd hd rel => ?_) fun k b l xs ek ey eu is rn px dd hd rel => ?_
  · subst ey
    refine wpAny_notIn_of (kV_is ru) hd dd.mapOf ?_
    rw [← rel.isSome_eq]
    have e : (dget ds kd).isSome = (valV l j).isSome := by
      rw [ek]; unfold dget; rw [kN_keyD]
      rcases rk.val j with ⟨e, e2⟩ | ⟨d', v, e1, e2, rp⟩
      · rw [e, e2]; rfl
      · rw [e1, e2]; rfl
    rw [← e]
    exact h _ (I.tok _)
  · subst eu
    show wpAny _ _ (do return .bool (!(← contains (.ref a) (.ref b)))) Q E s
    refine wpAny_bind (wpAny_contains_heap (show A.in1.units + 8 < cLine from by show A.units + 1 + 8 < cLine; omega) is hd dd (wpAny_pure ?_))
    have q := rel.isSome_eq
    rw [Option.isSome_map] at q
    rw [← q]
    have e : (dget ds kd).isSome = (lval l k).isSome := by
      unfold dget; rw [ek]
      rcases rn.val k with ⟨e, e2⟩ | ⟨d', v, e1, e2, rp⟩
      · rw [e, e2]; rfl
      · rw [e1, e2]; rfl
    rw [← e]
    exact h _ (I.tok _)
/-- d.get(k), d.get(k, x) -/
theorem dd_get1 {Q : Value → Shared → Prop} (hu : A.units + 9 < cLine) (I : Inv X pins σ H s) (g : Same G H) (D : DcV X.kw G H a ds) (ok : okKey kd = true) (kk : kindOk ds kd = true) (ry : Rep X.kw G y kd) (ru : RelV y u)
    (h : ∀ v w' s', Inv X pins σ H s' → RelV v w' → Rep X.kw G v ((dget ds kd).getD .none) → Q w' s') : wpAny (model X.prog X.w) A (call (.builtin "dict.get") [.ref a, u]) Q E s := by
  refine dd_ask I g D ok kk ry ru (fun j l vs ek ey rk kv dd hd rel => ?_) fun k b l xs ek ey eu is rn px dd hd rel => ?_
  · subst ey
    refine call_meetsIn PySem.F.slot_dict_get dd.typeIs PySem.F.entry_dict_get (PySem.F.args_dict_get_2 _ _) (meets_dict_get (mixKind X.prog X.w) a (kV_is ru) hd) ⟨_, dd.mapOf, h ((valV l j).getD .non) _ _ (I.tok _) (rel.getD rfl) ?_⟩
    rw [ek]; unfold dget; rw [kN_keyD]
    rcases rk.val j with ⟨e, e2⟩ | ⟨d', v, e1, e2, rp⟩
    · rw [e, e2]; exact .non
    · rw [e1, e2]; exact rp
  · subst eu
    refine call_meetsIn PySem.F.slot_dict_get dd.typeIs PySem.F.entry_dict_get (PySem.F.args_dict_get_2 _ _) (meetsH_dict_get (nestedKind X.prog X.w) a b hd) ⟨(show A.in1.units + 8 < cLine from by show A.units + 1 + 8 < cLine; omega), k, xs, is, dd, h ((lval l k).getD .non) _ _ (I.tok _) (rel.getD rfl) ?_⟩
    unfold dget; rw [ek]
    rcases rn.val k with ⟨e, e2⟩ | ⟨d', v, e1, e2, rp⟩
    · rw [e, e2]; exact .non
    · rw [e1, e2]; exact rp
theorem dd_get2 {x : V} {r : Value} {xd : PyData} {Q : Value → Shared → Prop} (hu : A.units + 9 < cLine) (I : Inv X pins σ H s) (g : Same G H) (D : DcV X.kw G H a ds) (ok : okKey kd = true) (kk : kindOk ds kd = true) (ry : Rep X.kw G y kd) (ru : RelV y u) (rx : Rep X.kw G x xd) (rr : RelV x r)
    (h : ∀ v w' s', Inv X pins σ H s' → RelV v w' → Rep X.kw G v ((dget ds kd).getD xd) → Q w' s') : wpAny (model X.prog X.w) A (call (.builtin "dict.get") [.ref a, u, r]) Q E s := by
  refine dd_ask I g D ok kk ry ru (fun j l vs ek ey rk kv dd hd rel => ?_) fun k b l xs ek ey eu is rn px dd hd rel => ?_
  · subst ey
    refine call_meetsIn PySem.F.slot_dict_get dd.typeIs PySem.F.entry_dict_get (PySem.F.args_dict_get_3 _ _ _) (meets_dict_get_default (mixKind X.prog X.w) a (kV_is ru) hd r) ⟨_, dd.mapOf, h ((valV l j).getD x) _ _ (I.tok _) (rel.getD rr) ?_⟩
    rw [ek]; unfold dget; rw [kN_keyD]
    rcases rk.val j with ⟨e, e2⟩ | ⟨d', v, e1, e2, rp⟩
    · rw [e, e2]; exact rx
    · rw [e1, e2]; exact rp
  · subst eu
    refine call_meetsIn PySem.F.slot_dict_get dd.typeIs PySem.F.entry_dict_get (PySem.F.args_dict_get_3 _ _ _) (meetsH_dict_get_default (nestedKind X.prog X.w) a b hd r) ⟨(show A.in1.units + 8 < cLine from by show A.units + 1 + 8 < cLine; omega), k, xs, is, dd, h ((lval l k).getD x) _ _ (I.tok _) (rel.getD rr) ?_⟩
    unfold dget; rw [ek]
    rcases rn.val k with ⟨e, e2⟩ | ⟨d', v, e1, e2, rp⟩
    · rw [e, e2]; exact rx
    · rw [e1, e2]; exact rp
/-! ### 4. storing -/
def lput (l : List (NestedKey × Addr × V)) (k : NestedKey) (b : Addr) (v : V) : List (NestedKey × Addr × V) := if (lval l k).isSome then l.map (fun x => if x.1 = k then (x.1, x.2.1, v) else x) else l ++ [(k, b, v)]
theorem PX.put {l : List (NestedKey × Addr × V)} {xs : List (NestedKey × Addr × Value)} (px : PX l xs) (k : NestedKey) (b : Addr) {v : V} {r : Value} (rv : RelV v r) : PX (lput l k b v) (storedH xs k b r) := by
  have e : (lval l k).isSome = (atKey xs k).isSome := by
    have := (px.val k).isSome_eq
    rw [Option.isSome_map] at this
    exact this
  unfold lput storedH
  rw [e]
  split
  · have go : ∀ {l : List (NestedKey × Addr × V)} {xs : List (NestedKey × Addr × Value)}, PX l xs → PX (l.map (fun x => if x.1 = k then (x.1, x.2.1, v) else x)) (xs.map (putAt k r)) := by
      intro l xs px
      induction px with
      | nil => exact .nil
      | cons h t ih =>
        obtain ⟨e1, e2, e3⟩ := h
        refine .cons ?_ ih
        rename_i p q _ _
        show (fun (p : NestedKey × Addr × V) (q : NestedKey × Addr × Value) => p.1 = q.1 ∧ p.2.1 = q.2.1 ∧ RelV p.2.2 q.2.2) (if p.1 = k then (p.1, p.2.1, v) else p) (putAt k r q)
        unfold putAt
        by_cases hk : q.1 = k
        · have hk' : p.1 = k := e1.trans hk
          rw [if_pos hk, if_pos hk']
          exact ⟨e1, e2, rv⟩
        · have hk' : ¬ p.1 = k := fun z => hk (e1.symm.trans z)
          rw [if_neg hk, if_neg hk']
          exact ⟨e1, e2, e3⟩
    exact go px
  · have go : ∀ {l : List (NestedKey × Addr × V)} {xs : List (NestedKey × Addr × Value)}, PX l xs → PX (l ++ [(k, b, v)]) (xs ++ [(k, b, r)]) := by
      intro l xs px
      induction px with
      | nil => exact .cons ⟨rfl, rfl, rv⟩ .nil
      | cons h t ih => exact .cons h ih
    exact go px
theorem lput_length (l : List (NestedKey × Addr × V)) (k : NestedKey) (b : Addr) (v : V) : (lput l k b v).length ≤ l.length + 1 := by
  unfold lput
  split <;> simp
theorem RepN.putN {K : Kw} {G : Hp} {l : List (NestedKey × Addr × V)} {ds : List (PyData × PyData)} {kd d : PyData} {k : NestedKey} {b : Addr} {v : V} (r : RepN K G l ds) (ek : kd = k.data) (rk : Rep K G (.ref b) kd) (rv : Rep K G v d) : RepN K G (lput l k b v) (dput ds kd d) := by
  have ekn : kN kd = k := by rw [ek]; exact data_kN k
  have e : (dget ds kd).isSome = (lval l k).isSome := by
    unfold dget; rw [ekn]
    rcases r.val k with ⟨e, e2⟩ | ⟨d', v', e1, e2, rp⟩
    · rw [e, e2]; rfl
    · rw [e1, e2]; rfl
  unfold dput lput
  rw [e, ekn]
  split
  · have go : ∀ {l : List (NestedKey × Addr × V)} {ds : List (PyData × PyData)}, RepN K G l ds → RepN K G (l.map (fun x => if x.1 = k then (x.1, x.2.1, v) else x)) (ds.map (fun p => if kN p.1 = k then (p.1, d) else p)) := by
      intro l
      induction l with
      | nil => intro ds r; cases r; exact .nil
      | cons x l ih =>
        intro ds r
        cases r with
        | @cons j b' v' _ kd' d' ds' ej rj rv' rt =>
          have ejn : kN kd' = j := by rw [ej]; exact data_kN j
          show RepN K G ((if j = k then (j, b', v) else (j, b', v')) :: _) ((if kN kd' = k then (kd', d) else (kd', d')) :: _)
          rw [ejn]
          by_cases hk : j = k
          · rw [if_pos hk, if_pos hk]; exact .cons ej rj rv (ih rt)
          · rw [if_neg hk, if_neg hk]; exact .cons ej rj rv' (ih rt)
    exact go r
  · have go : ∀ {l : List (NestedKey × Addr × V)} {ds : List (PyData × PyData)}, RepN K G l ds → RepN K G (l ++ [(k, b, v)]) (ds ++ [(kd, d)]) := by
      intro l
      induction l with
      | nil => intro ds r; cases r; exact .cons ek rk rv .nil
      | cons x l ih =>
        intro ds r
        cases r with
        | cons ej rj rv' rt => exact .cons ej rj rv' (ih rt)
    exact go r
theorem RepK.putK {K : Kw} {G : Hp} {l : List (Key × V)} {ds : List (PyData × PyData)} {d : PyData} {k : Key} {v : V} (r : RepK K G l ds) (rv : Rep K G v d) : RepK K G (L2.putK l k v) (dput ds (keyD k) d) := by
  have e : (dget ds (keyD k)).isSome = (l.any fun kv => decide (kv.1 = k)) := by
    unfold dget; rw [kN_keyD, valV_any]
    rcases r.val k with ⟨e, e2⟩ | ⟨d', v', e1, e2, rp⟩
    · rw [e, e2]; rfl
    · rw [e1, e2]; rfl
  unfold dput L2.putK
  rw [e, kN_keyD]
  split
  · have go : ∀ {l : List (Key × V)} {ds : List (PyData × PyData)}, RepK K G l ds → RepK K G (l.map fun kv => if kv.1 = k then (kv.1, v) else kv) (ds.map (fun p => if kN p.1 = kK k then (p.1, d) else p)) := by
      intro l
      induction l with
      | nil => intro ds r; cases r; exact .nil
      | cons x l ih =>
        intro ds r
        cases r with
        | @cons j v' _ d' ds' rv' rt =>
          show RepK K G ((if j = k then (j, v) else (j, v')) :: _) ((if kN (keyD j) = kK k then (keyD j, d) else (keyD j, d')) :: _)
          rw [kN_keyD]
          by_cases hk : j = k
          · rw [if_pos hk, if_pos (kK_inj.mpr hk)]; exact .cons rv (ih rt)
          · rw [if_neg hk, if_neg (fun z => hk (kK_inj.mp z))]; exact .cons rv' (ih rt)
    exact go r
  · have go : ∀ {l : List (Key × V)} {ds : List (PyData × PyData)}, RepK K G l ds → RepK K G (l ++ [(k, v)]) (ds ++ [(keyD k, d)]) := by
      intro l
      induction l with
      | nil => intro ds r; cases r; exact .cons rv .nil
      | cons x l ih =>
        intro ds r
        cases r with
        | cons rv' rt => exact .cons rv' (ih rt)
    exact go r
theorem Top.mut {K : Kw} {G H : Hp} {a : Addr} {d : PyData} (t : Top K G H a d) : Mut (H a) := by
  cases d with
  | list ds => obtain ⟨_, e, _⟩ := t; rw [e]; exact True.intro
  | dict ds => rcases t with ⟨_, e, _⟩ | ⟨_, e, _⟩ <;> (rw [e]; exact True.intro)
  | none => exact t.elim
  | bool _ => exact t.elim
  | int _ => exact t.elim
  | str _ => exact t.elim
  | tuple _ => exact t.elim
theorem dn_new {P : Program} {w : World} {H' : Hp} {h' : Heap} {a : Addr} {l : List (NestedKey × Addr × V)} {xs : List (NestedKey × Addr × Value)} (hd : (a == sysModules) = false) (px : PX l xs) (dd : h'.DictOfH (nestedKind P w) a xs) : ObjOk P w H' h' a (dnO w a l) := by
  obtain ⟨o, es, ep, ho, hc, hdat, hes, his, hnd⟩ := dd
  refine ⟨⟨hd, xs, o, es, ep, px, ho, hc, hdat, hes, hnd, fun x hx => (his x hx).2⟩, ⟨o, ho⟩, fun h1 h2 x k => ?_⟩
  obtain ⟨hd, xs, o, es, ep, px, ho, r⟩ := x
  exact ⟨hd, xs, o, es, ep, px, k o ho, r⟩
theorem dd_set {v : V} {d : PyData} {r : Value} {Q : Unit → Shared → Prop} (hu : A.units + 9 < cLine) (I : Inv X pins σ H s) (g : Same G H) (t : Top X.kw G H a (.dict ds)) (hz : ds.length < sizeLine) (ok : okKey kd = true) (kk : kindOk ds kd = true) (ry : Rep X.kw G y kd) (ru : RelV y u) (rv : Rep X.kw G v d) (rr : RelV v r)
    (h : ∀ ob s', Inv X pins σ (upd H a ob) s' → Top X.kw G (upd H a ob) a (.dict (dput ds kd d)) → Q () s') : wpAny (model X.prog X.w) A (setItem (.ref a) u r) Q E s := by
  refine dd_ask I g t.dv ok kk ry ru (fun j l vs ek ey rk kv dd hd rel => ?_) fun k b l xs ek ey eu is rn px dd hd rel => ?_
  · subst ey
    have hl0 : l.length = ds.length := rk.length
    have hz' : vs.length ≤ sizeLine := by rw [← kv.length, hl0]; omega
    have hl : (L2.putK l j v).length ≤ sizeLine := by have := length_putK l j v; omega
    refine wpAny_setItem_pairs (hsz := hz') (kV_is ru) dd fun h' dd' hs => h (.dK (L2.putK l j v)) _ ?_ ?_
    · have he : ∃ q, h'.get? a = some q := let ⟨q, _, _, hq, _⟩ := dd'; ⟨q, hq⟩
      exact d_write I t.mut hs he (dk_new hl hd (kv.put j rr) dd')
    · rw [ek]
      exact .inl ⟨_, upd_same, rk.putK rv⟩
  · subst eu
    have hl0 : l.length = ds.length := rn.length
    have hxs : l.length = xs.length := Paired.length px
    have hkd : kd = k.data := by
      rcases ok_kind ok with ⟨⟨j, rfl⟩, _⟩ | ⟨ks, e1, e2, _⟩
      · subst ey
        have := rep_keyD ry
        cases j <;> cases this
      · rw [e2] at ek; rw [e1, ← ek]
    refine wpAny_setItem_heap (hsz := by omega) (show A.in1.units + 8 < cLine from by show A.units + 1 + 8 < cLine; omega) is dd fun h' dd' hs => h (dnO X.w a (lput l k b v)) _ ?_ ?_
    · have he : ∃ q, h'.get? a = some q := let ⟨q, _, _, hq, _⟩ := dd'; ⟨q, hq⟩
      exact d_write I t.mut hs he (dn_new hd (px.put k b rr) dd')
    · refine .inr ⟨_, upd_same, by have := lput_length l k b v; omega, rn.putN hkd (ey ▸ ry) rv⟩
end
end DL
/-! DLe: built-ins called, comprehensions, try, methods that change a list -/
namespace DL
open PySem L2
section
variable {X : Cx} {a : Ax} {W : WX} {e e1 e2 e3 : Expr} {es : List Expr} {pos : Pos}
/-! ### 1. arguments that are read; built-ins -/
abbrev RdL (K : Kw) (G H : Hp) : List PyData → List V → Prop := Paired fun d v => RdR K G H v d
abbrev relRL (K : Kw) : Hp → Hp → Hp → List PyData → List V → Prop := fun _ G H ds vs => RdL K G H ds vs
def DRL (X : Cx) (a : Ax) (W : WX) (es : List Expr) (m : ML) : Prop := ∃ t, PA X es t ∧ Snd (cn X a) W (relRL X.kw) t m
theorem RdL.mono {K : Kw} {G H G' H' : Hp} (g : Same G G') (h : Same H H') : ∀ {ds : List PyData} {vs : List V}, RdL K G H ds vs → RdL K G' H' ds vs
  | _, _, .nil => .nil
  | _, _, .cons r t => .cons (r.mono g h) (RdL.mono g h t)
theorem drl_nil : DRL X a W [] mNil := ⟨_, pa_nil, fun B G0 G H σ δ S Q hq => hq [] G H (Stp.refl S.gh) .nil⟩
theorem drl_cons {m : MD} {n : ML} (h : DR X a W e m) (k : DRL X a W es n) (hs : starEach (e :: es) X.env = (false, eval e X.env) :: starEach es X.env := by rfl) : DRL X a W (e :: es) (mCons m n) := by
  obtain ⟨t, p, s⟩ := h
  obtain ⟨u, q, z⟩ := k
  refine ⟨_, pa_cons p q hs, ?_⟩
  intro B G0 G H σ δ S Q hq
  refine s B G0 G H σ δ S _ ?_
  have hq' : ROk (cn X a) W σ G H (relRL X.kw H) ((m δ).bind fun d => (n δ).bind fun ds => .ok (d :: ds)) Q := hq
  generalize m δ = r at hq'
  cases r with
  | stuck => exact hq'.elim
  | exc x => exact hq'
  | ok d =>
    intro v G1 H1 st1 r1
    rw [bind_ok] at hq'
    refine z B G0 G1 H1 σ δ (S.step st1) _ ?_
    generalize n δ = rn at hq'
    cases rn with
    | stuck => exact hq'.elim
    | exc x => exact fun cls d G3 H3 s3 r => hq' cls d G3 H3 (st1.trans s3) r
    | ok ds => exact fun vs G3 H3 st3 r3 => hq' (v :: vs) G3 H3 (st1.trans st3) (.cons (r1.mono st3.g st3.h) r3)
def CallS (K : Kw) (r : List V → Hp → VK → Prop) (f : List PyData → Res Slot) : Prop :=
  (∀ (G H : Hp) (vs : List V) (ds : List PyData) (s : Slot) (Q : VK), Same G H → RdL K G H ds vs → f ds = .ok s → (∀ v G' H', Stp G H G' H' → ResF K H G' H' s v → Q v H') → r vs H Q) ∧ ∀ ds x, f ds ≠ .exc x
def mBi (f : List PyData → Res Slot) (m : ML) : ME := fun δ => (m δ).bind f
theorem snd_bi {C : Cn} {r : List V → Hp → VK → Prop} {f : List PyData → Res Slot} (hf : CallS C.K r f) {t : TA} {m : ML} (h : Snd C W (relRL C.K) t m) : Snd C W (relE C.K) (tCB r t) (mBi f m) := by
  refine snd_bind (rel1 := relRL C.K) (rel2 := relE C.K) downE h (t2 := fun vs _ H Q => r vs H Q) (m2 := fun ds _ => f ds) ?_
  intro ds vs B G0 G H σ δ H0 S rd Q hq
  have hq' : ROk C W σ G H (relE C.K H) (f ds) Q := hq
  cases ef : f ds with
  | stuck => rw [ef] at hq'; exact hq'.elim
  | exc x => exact (hf.2 ds x ef).elim
  | ok s => rw [ef] at hq'; exact hf.1 G H vs ds s Q S.gh rd ef hq'
theorem de_callB {x : Str} {idb : String} {r : List V → Hp → VK → Prop} {f : List PyData → Res Slot} {p : Pos} {m : ML} (hf : CallS X.kw r f) (hc : CallR X (.builtin idb) r) (hg : Gl X x) (hm : X.mg x = none) (hv : bootBuiltins x = some (.builtin idb)) (h : DRL X a W (e :: es) m)
    (hn : x ≠ "__name__" := by decide) (hdb : (x == ("__debug__" : Str)) = false := by decide) (he : starEach (e :: es) X.env = (false, eval e X.env) :: starEach es X.env := by rfl) (hpl : (backTo pos (starEach es X.env)).any (·.1) = false := by rfl) : DE X a W (.Call (.Name x p) (e :: es) [] pos) (mBi f m) :=
  let ⟨_, pa, sa⟩ := h; ⟨_, pe_callB hc hg hm hv pa hn hdb he hpl, snd_bi (C := cn X a) hf sa⟩
theorem de_callT {x : Str} {T : String} {r : List V → Hp → VK → Prop} {f : List PyData → Res Slot} {p : Pos} {m : ML} (hf : CallS X.kw r f) (hc : CallR X (.type T) r) (hg : Gl X x) (hm : X.mg x = none) (hv : bootBuiltins x = some (.type T)) (h : DRL X a W (e :: es) m)
    (hn : x ≠ "__name__" := by decide) (hdb : (x == ("__debug__" : Str)) = false := by decide) (he : starEach (e :: es) X.env = (false, eval e X.env) :: starEach es X.env := by rfl) (hpl : (backTo pos (starEach es X.env)).any (·.1) = false := by rfl) : DE X a W (.Call (.Name x p) (e :: es) [] pos) (mBi f m) :=
  let ⟨_, pa, sa⟩ := h; ⟨_, pe_callTy hc hg hm hv pa hn hdb he hpl, snd_bi (C := cn X a) hf sa⟩
/-- abs -/
def absF : List PyData → Res Slot
  | [.int i] => okI (if i < 0 then -i else i)
  | _ => .stuck
theorem rdl1 {K : Kw} {G H : Hp} {d : PyData} {vs : List V} (h : RdL K G H [d] vs) : ∃ v, vs = [v] ∧ RdR K G H v d := by
  cases h with
  | cons r t => cases t; exact ⟨_, rfl, r⟩
theorem rdl2 {K : Kw} {G H : Hp} {d e : PyData} {vs : List V} (h : RdL K G H [d, e] vs) : ∃ v u, vs = [v, u] ∧ RdR K G H v d ∧ RdR K G H u e := by
  cases h with
  | cons r t =>
    obtain ⟨u, e, q⟩ := rdl1 t
    subst e
    exact ⟨_, _, rfl, r, q⟩
theorem absF_ok {K : Kw} : CallS K (fun xs H Q => ∃ i, xs = [.int i] ∧ Q (.int (if i < 0 then -i else i)) H) absF := by
  refine ⟨fun G H vs ds s Q g rd ef q => ?_, fun ds x => ?_⟩
  · unfold absF at ef
    split at ef
    · cases ef
      obtain ⟨v, ev, r⟩ := rdl1 rd
      cases rdr_int r
      exact ⟨_, ev, q _ G H (Stp.refl g) (Rep.int _)⟩
    · cases ef
  · unfold absF
    split <;> (intro h; cases h)
/-- len -/
def lenF : List PyData → Res Slot
  | [.str x] => if x.length ≤ sizeLine then okI (x.length : Int) else .stuck
  | [.list ds] => okI (ds.length : Int)
  | [.tuple ds] => okI (ds.length : Int)
  | _ => .stuck
theorem lenF_ok {K : Kw} : CallS K (fun xs H Q => ∃ x n, xs = [x] ∧ LenV K x H n ∧ Q (.int (n : Int)) H) lenF := by
  refine ⟨fun G H vs ds s Q g rd ef q => ?_, fun ds x => ?_⟩
  · unfold lenF at ef
    split at ef
    · split at ef
      · rename_i hz
        cases ef
        obtain ⟨v, ev, r⟩ := rdl1 rd
        cases rdr_str r
        exact ⟨_, _, ev, ⟨hz, rfl⟩, q _ G H (Stp.refl g) (Rep.int _)⟩
      · cases ef
    · cases ef
      obtain ⟨v, ev, r⟩ := rdl1 rd
      obtain ⟨b, xs, e1, q1, r1⟩ := rdr_list g r
      subst e1
      refine ⟨_, xs.length, ev, .inl ⟨xs, q1, rfl⟩, ?_⟩
      rw [r1.length]
      exact q _ G H (Stp.refl g) (Rep.int _)
    · cases ef
      obtain ⟨v, ev, r⟩ := rdl1 rd
      obtain ⟨b, xs, e1, q1, r1⟩ := rdr_tup g r
      subst e1
      refine ⟨_, xs.length, ev, .inr ⟨xs, q1, rfl⟩, ?_⟩
      rw [r1.length]
      exact q _ G H (Stp.refl g) (Rep.int _)
    · cases ef
  · unfold lenF
    split <;> (try split) <;> (intro h; cases h)
/-- list(x), tuple(x) of a list or tuple -/
def listF : List PyData → Res Slot
  | [.list ds] => .ok (.own (.list ds))
  | [.tuple ds] => .ok (.own (.list ds))
  | _ => .stuck
theorem listF_ok {K : Kw} : CallS K (fun xs H Q => ∃ p ys, xs = [.ref p] ∧ (SqL K H p ys ∨ SqT K H p ys) ∧ ∀ l, H l = none → Q (.ref l) (upd H l (.lst ys))) listF := by
  refine ⟨fun G H vs ds s Q g rd ef q => ?_, fun ds x => ?_⟩
  · unfold listF at ef
    split at ef
    · cases ef
      obtain ⟨v, ev, r⟩ := rdl1 rd
      obtain ⟨b, xs, e1, q1, r1⟩ := rdr_list g r
      subst e1
      exact ⟨b, xs, ev, .inl q1, new_list g r1 q⟩
    · cases ef
      obtain ⟨v, ev, r⟩ := rdl1 rd
      obtain ⟨b, xs, e1, q1, r1⟩ := rdr_tup g r
      subst e1
      exact ⟨b, xs, ev, .inr q1, new_list g r1 q⟩
    · cases ef
  · unfold listF
    split <;> (intro h; cases h)
def tupleF : List PyData → Res Slot
  | [.list ds] => okV (.tuple ds)
  | [.tuple ds] => okV (.tuple ds)
  | _ => .stuck
theorem tupleF_ok {K : Kw} : CallS K (fun xs H Q => ∃ p ys, xs = [.ref p] ∧ ((SqL K H p ys ∧ ∀ l, H l = none → Q (.ref l) (upd H l (.tup ys))) ∨ (SqT K H p ys ∧ Q (.ref p) H))) tupleF := by
  refine ⟨fun G H vs ds s Q g rd ef q => ?_, fun ds x => ?_⟩
  · unfold tupleF at ef
    split at ef
    · cases ef
      obtain ⟨v, ev, r⟩ := rdl1 rd
      obtain ⟨b, xs, e1, q1, r1⟩ := rdr_list g r
      subst e1
      exact ⟨b, xs, ev, .inl ⟨q1, new_tup g r1 q⟩⟩
    · cases ef
      obtain ⟨v, ev, r⟩ := rdl1 rd
      obtain ⟨b, xs, e1, q1, r1⟩ := rdr_tup g r
      subst e1
      refine ⟨b, xs, ev, .inr ⟨q1, ?_⟩⟩
      rcases r with r | ⟨c, _, t⟩
      · exact q _ G H (Stp.refl g) r
      · exact t.elim
    · cases ef
  · unfold tupleF
    split <;> (intro h; cases h)
/-- int(n), int(flag); str(n) -/
def intF : List PyData → Res Slot
  | [.int i] => okI i
  | [.bool b] => okI (if b then 1 else 0)
  | _ => .stuck
theorem intF_ok {K : Kw} : CallS K (fun xs H Q => (∃ i, xs = [.int i] ∧ Q (.int i) H) ∨ ∃ k, xs = [.bl k] ∧ Q (.int (if k then 1 else 0)) H) intF := by
  refine ⟨fun G H vs ds s Q g rd ef q => ?_, fun ds x => ?_⟩
  · unfold intF at ef
    split at ef
    · cases ef
      obtain ⟨v, ev, r⟩ := rdl1 rd
      cases rdr_int r
      exact .inl ⟨_, ev, q _ G H (Stp.refl g) (Rep.int _)⟩
    · cases ef
      obtain ⟨v, ev, r⟩ := rdl1 rd
      cases rdr_bool r
      exact .inr ⟨_, ev, q _ G H (Stp.refl g) (Rep.int _)⟩
    · cases ef
  · unfold intF
    split <;> (intro h; cases h)
/-! ### 2. isinstance -/
def isiF (T : String) (d : PyData) : Res Slot := match kitB (tyD d) T with
  | some b => okB b
  | none => .stuck
def mIsi (T : String) (m : MD) : ME := fun δ => (m δ).bind (isiF T)
theorem de_isi {T : String} {x : Str} {m : MD} {p p2 : Pos} (hg : Gl X "isinstance") (hm : X.mg "isinstance" = none) (hgT : Gl X x) (hmT : X.mg x = none) (hvT : bootBuiltins x = some (.type T)) (h : DR X a W e m)
    (hnT : x ≠ "__name__" := by decide) (hdT : (x == ("__debug__" : Str)) = false := by decide)
    (he : starEach (e :: [.Name x p2]) X.env = (false, eval e X.env) :: starEach [.Name x p2] X.env := by rfl) (he2 : starEach [.Name x p2] X.env = (false, eval (.Name x p2) X.env) :: starEach [] X.env := by rfl) (hpl : (backTo pos (starEach [.Name x p2] X.env)).any (·.1) = false := by rfl) :
    DE X a W (.Call (.Name "isinstance" p) [e, .Name x p2] [] pos) (mIsi T m) := by
  obtain ⟨t, pe, s⟩ := h
  refine ⟨_, pe_callB call_isiD hg hm PyProof.Rows.boot_isinstance (pa_cons pe (pa_cons (pe_bltn (v := .ty T) hgT hmT hvT rfl hnT hdT) pa_nil he2) he) (by decide) (by decide) he hpl, ?_⟩
  refine snd_bind (rel1 := relD X.kw) (rel2 := relE X.kw) downE s (t2 := fun x _ H Q => rIsiD X.kw [x, .ty T] H Q) (m2 := fun d _ => isiF T d) ?_
  intro d v B G0 G H σ δ H0 S rd Q hq
  have hq' : ROk (cn X a) W σ G H (relE X.kw H) (isiF T d) Q := hq
  unfold isiF at hq'
  split at hq'
  · rename_i b hb
    exact ⟨v, .ty T, .type (tyD d), .type T, b, rfl, .ty T, rdr_ty S.gh rd, kit_ty hb, hq' _ G H (Stp.refl S.gh) (Rep.bl b)⟩
  · exact hq'.elim
/-- isinstance(e, C) of the refusal that the suite holds -/
def isSub : EC → EC → Bool
  | _, .DuelError => true
  | c, d => decide (c = d)
def mIsE (i : Nat) (c : EC) : ME := fun δ => match δ[i]? with
  | some (some (.exn x)) => okB (isSub x.c c)
  | _ => .stuck
def mIsEV (i : Nat) : ME := fun δ => match δ[i]? with
  | some (some (.exn _)) => okB true
  | _ => .stuck
/-- what is held: one refusal of the class c, without fields -/
abbrev held1 (ec : EC → Addr) (b : Addr) (c : EC) (R : List (Nat × V) := []) : Ax := ⟨ec, fun b' x => b' = b ∧ x = ⟨c, []⟩, R⟩
theorem de_isE {R : List (Nat × V)} {ec : EC → Addr} {c cc : EC} {i : Nat} {b : Addr} {oe : Obj} {pn : List (Addr × Obj)} {x y : Str} {p p1 p2 : Pos} (hg : Gl (X.suite b ((b, oe) :: pn)) "isinstance") (hm : X.mg "isinstance" = none) (C : ExcC X.K (ec c)) (hz : Zc (.ref (ec c)) none oe) (hf : ∃ vs, oe.data = .fields vs)
    (hgC : Gl (X.suite b ((b, oe) :: pn)) y) (hmC : X.mg y = some (.ref (ec cc))) (hk : PySem.W.kitOne X.K (.ref (ec c)) (.ref (ec cc)) = some (isSub c cc)) (hN : X.N[i]? = some x) (hv : Vis X.env.scope x) (hd : (x == ("__debug__" : Str)) = false := by decide) (hcd : (x == ("__classdict__" : Str)) = false := by decide)
    (hdC : (y == ("__debug__" : Str)) = false := by decide) (he : starEach (.Name x p1 :: [.Name y p2]) X.env = (false, eval (.Name x p1) X.env) :: starEach [.Name y p2] X.env := by rfl) (he2 : starEach [.Name y p2] X.env = (false, eval (.Name y p2) X.env) :: starEach [] X.env := by rfl)
    (hpl : (backTo pos (starEach [.Name y p2] X.env)).any (·.1) = false := by rfl) :
    DE (X.suite b ((b, oe) :: pn)) (held1 ec b c R) W (.Call (.Name "isinstance" p) [.Name x p1, .Name y p2] [] pos) (mIsE i cc) := by
  refine ⟨_, pe_callB (call_isE C hz hf) hg hm PyProof.Rows.boot_isinstance (pa_cons (pe_var hN hv hd hcd) (pa_cons (pe_glob (v := .ref (ec cc)) hgC hmC rfl hdC) pa_nil he2) he) (by decide) (by decide) he hpl, ?_⟩
  intro B G0 G H σ δ S Q hq
  have hq' : ROk (cn (X.suite b ((b, oe) :: pn)) (held1 ec b c R)) W σ G H (relE X.kw H) (mIsE i cc δ) Q := hq
  unfold mIsE at hq'
  split at hq'
  · rename_i z ei
    obtain ⟨v, fp, ev, ⟨_, b', eb, e1, e2⟩, _⟩ := S.sl ei
    subst eb e1 e2
    exact ⟨_, ev, .ref (ec cc), .ref (ec cc), _, rfl, fun u hu => hu, hk, hq' _ G H (Stp.refl S.gh) (Rep.bl _)⟩
  · exact hq'.elim
theorem de_isET {R : List (Nat × V)} {ec : EC → Addr} {c : EC} {i : Nat} {b : Addr} {oe : Obj} {pn : List (Addr × Obj)} {x y : Str} {T : String} {p p1 p2 : Pos} (hg : Gl (X.suite b ((b, oe) :: pn)) "isinstance") (hm : X.mg "isinstance" = none) (C : ExcC X.K (ec c)) (hz : Zc (.ref (ec c)) none oe) (hf : ∃ vs, oe.data = .fields vs)
    (hgC : Gl (X.suite b ((b, oe) :: pn)) y) (hmC : X.mg y = none) (hvT : bootBuiltins y = some (.type T)) (hk : PySem.W.kitOne X.K (.ref (ec c)) (.type T) = some true) (hN : X.N[i]? = some x) (hv : Vis X.env.scope x) (hd : (x == ("__debug__" : Str)) = false := by decide) (hcd : (x == ("__classdict__" : Str)) = false := by decide)
    (hnT : y ≠ "__name__" := by decide) (hdC : (y == ("__debug__" : Str)) = false := by decide) (he : starEach (.Name x p1 :: [.Name y p2]) X.env = (false, eval (.Name x p1) X.env) :: starEach [.Name y p2] X.env := by rfl) (he2 : starEach [.Name y p2] X.env = (false, eval (.Name y p2) X.env) :: starEach [] X.env := by rfl)
    (hpl : (backTo pos (starEach [.Name y p2] X.env)).any (·.1) = false := by rfl) :
    DE (X.suite b ((b, oe) :: pn)) (held1 ec b c R) W (.Call (.Name "isinstance" p) [.Name x p1, .Name y p2] [] pos) (mIsEV i) := by
  refine ⟨_, pe_callB (call_isE C hz hf) hg hm PyProof.Rows.boot_isinstance (pa_cons (pe_var hN hv hd hcd) (pa_cons (pe_bltn (v := .ty T) hgC hmC hvT rfl hnT hdC) pa_nil he2) he) (by decide) (by decide) he hpl, ?_⟩
  intro B G0 G H σ δ S Q hq
  have hq' : ROk (cn (X.suite b ((b, oe) :: pn)) (held1 ec b c R)) W σ G H (relE X.kw H) (mIsEV i δ) Q := hq
  unfold mIsEV at hq'
  split at hq'
  · rename_i z ei
    obtain ⟨v, fp, ev, ⟨_, b', eb, e1, e2⟩, _⟩ := S.sl ei
    subst eb e1 e2
    exact ⟨_, ev, .ty T, .type T, _, rfl, fun u hu => hu, hk, hq' _ G H (Stp.refl S.gh) (Rep.bl _)⟩
  · exact hq'.elim
/-! ### 3. comprehensions -/
def wipeD (δ : DEnv) : List Nat → DEnv
  | [] => δ
  | v :: vs => (wipeD δ vs).set v none
def Cn.frees (C : Cn) (vs : List Nat) : Prop := ∀ v ∈ vs, C.free v
def Ax.frees (a : Ax) (vs : List Nat) : Prop := ∀ v ∈ vs, a.free v
theorem frees0 {ec : EC → Addr} {A : Addr → Exn → Prop} {vs : List Nat} : Ax.frees ⟨ec, A, []⟩ vs := fun _ _ => free0
theorem frees1 {ec : EC → Addr} {A : Addr → Exn → Prop} {j : Nat} {v : V} {vs : List Nat} (h : ∀ i ∈ vs, j ≠ i) : Ax.frees ⟨ec, A, [(j, v)]⟩ vs := fun i hi => free1 (h i hi)
theorem StR.wipe {C : Cn} {B G0 G H : Hp} {σ : St} {δ : DEnv} (S : StR C B G0 G H σ δ) : ∀ vs : List Nat, C.frees vs → StR C B G0 G H (L2.wipe σ vs) (wipeD δ vs)
  | [], _ => S
  | v :: vs, h => (StR.wipe S vs fun u hu => h u (List.mem_cons_of_mem _ hu)).setNone (h v List.mem_cons_self) none
theorem wipe_at {σ : St} {j : Nat} : ∀ {vs : List Nat}, j ∈ vs → (L2.wipe σ vs)[j]? = if j < σ.length then some none else none
  | [], h => by simp at h
  | v :: vs, h => by
    unfold L2.wipe
    by_cases hv : v = j
    · subst hv
      rw [List.getElem?_set]
      simp [wipe_length]
    · rw [List.getElem?_set_ne hv]
      exact wipe_at (by simpa [Ne.symm hv] using h)
theorem wipe_off {σ : St} {j : Nat} : ∀ {vs : List Nat}, j ∉ vs → (L2.wipe σ vs)[j]? = σ[j]?
  | [], _ => rfl
  | v :: vs, h => by
    unfold L2.wipe
    rw [List.mem_cons, not_or] at h
    rw [List.getElem?_set_ne (Ne.symm h.1)]
    exact wipe_off h.2
theorem wipe_eq {σ σ' : St} {us vs : List Nat} (o : Off us (L2.wipe σ vs) σ') (hs : ∀ j ∈ us, j ∈ vs) : L2.wipe σ' vs = L2.wipe σ vs := by
  refine List.ext_getElem? fun j => ?_
  by_cases hj : j ∈ vs
  · rw [wipe_at hj, wipe_at hj, o.1, wipe_length]
  · rw [wipe_off hj, o.2 j (fun z => hj (hs j z))]
def compR (g : MG) (c : MT) (m : MD) (δ : DEnv) : List PyData → Res (List PyData)
  | [] => .ok []
  | d :: ds => match g d δ with
    | none => .stuck
    | some δ1 => match c δ1 with
      | .ok true => match m δ1 with
        | .ok y => (compR g c m δ ds).bind fun ys => .ok (y :: ys)
        | _ => .stuck
      | .ok false => compR g c m δ ds
      | _ => .stuck
def mComp (vs : List Nat) (g : MG) (it : ML) (c : MT) (m : MD) : ME := fun δ => (it δ).bind fun ds => if fits ds = true then (compR g c m (wipeD δ vs) ds).bind fun ys => .ok (.own (.list ys)) else .stuck
abbrev W0 : WX := fun _ _ _ _ => False
theorem snd_comp {C : Cn} {wi : TI} {g : TG} {tt : TT} {te : TE} {mg : MG} {it : ML} {c : MT} {m : MD} {vs us : List Nat} (hf : C.frees vs) (hi : SndI C W wi it) (hg : SndG C g mg us) (hs : ∀ j ∈ us, j ∈ vs) (ht : Snd C W0 relB tt c) (he : Snd C W0 (relV C.K) te m) :
    Snd C W (relE C.K) (tLc wi g tt te vs) (mComp vs mg it c m) := by
  intro B G0 G H σ δ S Q hq
  refine hi B G0 G H σ δ S _ ?_
  have hq' : ROk C W σ G H (relE C.K H) ((it δ).bind fun ds => if fits ds = true then (compR mg c m (wipeD δ vs) ds).bind fun ys => .ok (.own (.list ys)) else .stuck) Q := hq
  generalize it δ = r at hq'
  cases r with
  | stuck => exact hq'.elim
  | exc x => exact hq'
  | ok ds =>
    intro J G1 H1 st1 gv Dl hD
    rw [bind_ok] at hq'
    by_cases hz : fits ds = true
    · rw [if_pos hz] at hq'
      have hz' : ds.length ≤ sizeLine := of_decide_eq_true hz
      have S1 := S.step st1
      refine ⟨fun i k H' => k + i = ds.length ∧ ∃ G' acc accd, Stp G1 H1 G' H' ∧ G' Dl = none ∧ H' Dl = some (.lst acc) ∧ RepL C.K G' acc accd ∧ acc.length ≤ i ∧ ROk C W σ G H (relE C.K H) ((compR mg c m (wipeD δ vs) (ds.drop i)).bind fun ys => .ok (.own (.list (accd ++ ys)))) Q,
        ⟨ds.length, by omega, G1, [], [], Stp.newH st1.gh hD, st1.gh.free hD, upd_same, .nil, Nat.le_refl _, by simpa using hq'⟩, ?_⟩
      rintro i k H' ⟨hk, G', acc, accd, st2, nD, eD, ra, hl, k1⟩
      obtain ⟨go, stop⟩ := gv i G' H' st2.g st2.gh (S1.bh.trans st2.h)
      by_cases hi : i < ds.length
      · have ed : ds[i]? = some ds[i] := List.getElem?_eq_getElem hi
        obtain ⟨go, yl⟩ := go _ ed
        rw [List.drop_eq_getElem_cons hi] at k1
        refine .inr ⟨go, fun H' => ∃ G' acc accd, Stp G1 H1 G' H' ∧ G' Dl = none ∧ H' Dl = some (.lst acc) ∧ RepL C.K G' acc accd ∧ acc.length ≤ i + 1 ∧ ROk C W σ G H (relE C.K H) ((compR mg c m (wipeD δ vs) (ds.drop (i + 1))).bind fun ys => .ok (.own (.list (accd ++ ys)))) Q,
          fun H' n => ⟨k - 1, by omega, by omega, n⟩, fun x H2 y => ?_⟩
        obtain ⟨G2, st3, r⟩ := yl x H2 y
        have S2 := ((S1.step st2).step st3).wipe vs hf
        have nD2 : G2 Dl = none := st3.fr Dl nD (by rw [eD]; exact fun z => nomatch z)
        have k2 : ROk C W σ G H (relE C.K H) ((match mg ds[i] (wipeD δ vs) with
          | none => (.stuck : Res (List PyData))
          | some δ1 => match c δ1 with
            | .ok true => match m δ1 with
              | .ok y => (compR mg c m (wipeD δ vs) (ds.drop (i + 1))).bind fun ys => .ok (y :: ys)
              | _ => .stuck
            | .ok false => compR mg c m (wipeD δ vs) (ds.drop (i + 1))
            | _ => .stuck).bind fun ys => .ok (.own (.list (accd ++ ys)))) Q := k1
        cases eg : mg ds[i] (wipeD δ vs) with
        | none => rw [eg] at k2; exact k2.elim
        | some δ1 =>
          rw [eg] at k2
          simp only at k2
          refine hg B G0 G2 H2 _ _ x ds[i] δ1 _ S2 r eg fun σ3 S3 o3 => ⟨?_, ?_⟩
          · exact wipe_eq o3 hs
          · refine ht B G0 G2 H2 σ3 δ1 S3 _ ?_
            cases ec : c δ1 with
            | stuck => rw [ec] at k2; exact k2.elim
            | exc x => rw [ec] at k2; exact k2.elim
            | ok b =>
              intro b' G3 H3 st4 eb
              cases eb
              cases b with
              | true =>
                show te σ3 H3 _
                rw [ec] at k2
                simp only at k2
                refine he B G0 G3 H3 σ3 δ1 (S3.step st4) _ ?_
                cases em : m δ1 with
                | stuck => rw [em] at k2; exact k2.elim
                | exc x => rw [em] at k2; exact k2.elim
                | ok y =>
                  rw [em] at k2
                  intro v G4 H4 st5 rv
                  have st35 := (st3.trans st4).trans st5
                  have e4 : H4 Dl = some (.lst acc) := st35.h _ _ eD
                  have n4 : G4 Dl = none := st35.fr Dl nD (by rw [eD]; exact fun z => nomatch z)
                  refine ⟨acc, e4, by omega, G4, acc ++ [v], accd ++ [y], ?_, n4, upd_same, (RepL.mono st35.g ra).snoc rv, by simp; omega, ?_⟩
                  · have st := st2.trans st35
                    refine ⟨st.g, fun b u q => ?_, fun b u q => ?_, st.fr⟩
                    · rw [upd_ne (ne_of_none q hD)]; exact st.h _ _ q
                    · rw [upd_ne (ne_of_none q n4)]; exact st.gh _ _ q
                  · simp only at k2
                    generalize compR mg c m (wipeD δ vs) (ds.drop (i + 1)) = rr at k2 ⊢
                    cases rr with
                    | stuck => exact k2
                    | exc x => exact k2
                    | ok ys =>
                      rw [bind_ok, bind_ok] at k2
                      rw [bind_ok, List.append_assoc]
                      exact k2
              | false =>
                show ∃ G' acc accd, _
                rw [ec] at k2
                have st34 := st3.trans st4
                exact ⟨G3, acc, accd, st2.trans st34, st34.fr Dl nD (by rw [eD]; exact fun z => nomatch z), st34.h _ _ eD, RepL.mono st34.g ra, by omega, k2⟩
      · have e : i = ds.length := by omega
        refine .inl ⟨stop (by omega) (by omega), ?_⟩
        rw [List.drop_of_length_le (by omega)] at k1
        have k3 : ROk C W σ G H (relE C.K H) (.ok (.own (.list (accd ++ [])))) Q := k1
        rw [List.append_nil] at k3
        exact k3 (.ref Dl) G' H' (st1.trans st2) ⟨Dl, rfl, nD, st1.h.free hD, acc, eD, ra⟩
    · rw [if_neg hz] at hq'
      exact hq'.elim
theorem de_comp {elt tg iter : Expr} {ifs : List Expr} {scope : Scope} {own : List (Str × Nat)} {g : MG} {it : ML} {c : MT} {m : MD} {us : List Nat} (hfr : a.frees (own.map (·.2))) (hc : X.calm = true) (hN : X.N.Nodup) (hi : DI X a W tg iter it) (ok : BlkOk X.N X.env.scope scope own) (hu : ∀ j ∈ us, j ∈ own.map (·.2))
    (hg : ∀ (s : Shared) (H : Hp) (C : Addr) (cl : List (Str × Addr)) (fp : List Addr), DG (X.blk s H scope (compEnvC scope cl C X.env) fp) a tg g us) (ht : ∀ (s : Shared) (H : Hp) (C : Addr) (cl : List (Str × Addr)) (fp : List Addr), ∃ t, PTs (X.blk s H scope (compEnvC scope cl C X.env) fp) ifs t ∧ Snd (cn X a) W0 relB t c)
    (he : ∀ (s : Shared) (H : Hp) (C : Addr) (cl : List (Str × Addr)) (fp : List Addr), DV (X.blk s H scope (compEnvC scope cl C X.env) fp) a W0 elt m) (hs : ∀ x, foldedSetIterable iter X.env x = pure x := by intro _; rfl) :
    DE X a W (.ListComp elt [⟨tg, iter, ifs, 0⟩] scope pos) (mComp (own.map (·.2)) g it c m) := by
  obtain ⟨wi, pi, si⟩ := hi
  -- what holds of every block at once
  let tg' : TG := fun v σ H Q => ∀ s H₀ C cl fp, Classical.choose (hg s H₀ C cl fp) v σ H Q
  let tt' : TT := fun σ H Q => ∀ s H₀ C cl fp, Classical.choose (ht s H₀ C cl fp) σ H Q
  let te' : TE := fun σ H Q => ∀ s H₀ C cl fp, Classical.choose (he s H₀ C cl fp) σ H Q
  refine ⟨_, pe_lc (g := tg') (tt := tt') (te := te') hc hN pi ok (fun s H C cl fp => ⟨fun pins s1 σ H1 v u Q I r q => (Classical.choose_spec (hg s H C cl fp)).1.run pins s1 σ H1 v u Q I r (q s H C cl fp)⟩)
    (fun s H C cl fp => ⟨fun pins s1 σ H1 Q I q => (Classical.choose_spec (ht s H C cl fp)).1.run pins s1 σ H1 Q I (q s H C cl fp)⟩) (fun s H C cl fp => ⟨fun pins s1 σ H1 Q I q => (Classical.choose_spec (he s H C cl fp)).1.run pins s1 σ H1 Q I (q s H C cl fp)⟩) hs, ?_⟩
  exact snd_comp (C := cn X a) (us := us) hfr si (fun B G0 G H σ δ v d δ' Q S r e k s H₀ C cl fp => (Classical.choose_spec (hg s H₀ C cl fp)).2 B G0 G H σ δ v d δ' Q S r e k) hu
    (fun B G0 G H σ δ S Q q s H₀ C cl fp => (Classical.choose_spec (ht s H₀ C cl fp)).2 B G0 G H σ δ S Q q) (fun B G0 G H σ δ S Q q s H₀ C cl fp => (Classical.choose_spec (he s H₀ C cl fp)).2 B G0 G H σ δ S Q q)
/-- y = [..], a statement of its own -/
theorem ds_asgComp {i : Nat} {y : Str} {py : Pos} {elt tg iter : Expr} {ifs : List Expr} {scope : Scope} {own : List (Str × Nat)} {g : MG} {it : ML} {c : MT} {m : MD} {us : List Nat} {spos : Pos} (hfr : a.frees (own.map (·.2))) (hfi : a.free i) (hc : X.calm = true) (hN : X.N.Nodup) (hy : X.N[i]? = some y) (hyl : X.env.scope.names.lookup y = some .local)
    (hsw : swapsWith (.ListComp elt [⟨tg, iter, ifs, 0⟩] scope pos) (some (.Name y py)) spos.line X.env = pure true) (hi : DI X a W tg iter it) (ok : BlkOk X.N X.env.scope scope own) (hu : ∀ j ∈ us, j ∈ own.map (·.2))
    (hg : ∀ (s : Shared) (H : Hp) (C : Addr) (cl : List (Str × Addr)) (fp : List Addr), DG (X.blk s H scope (compEnvC scope cl C X.env) fp) a tg g us) (ht : ∀ (s : Shared) (H : Hp) (C : Addr) (cl : List (Str × Addr)) (fp : List Addr), ∃ t, PTs (X.blk s H scope (compEnvC scope cl C X.env) fp) ifs t ∧ Snd (cn X a) W0 relB t c)
    (he : ∀ (s : Shared) (H : Hp) (C : Addr) (cl : List (Str × Addr)) (fp : List Addr), DV (X.blk s H scope (compEnvC scope cl C X.env) fp) a W0 elt m) (hs : ∀ x, foldedSetIterable iter X.env x = pure x := by intro _; rfl) :
    DS X a W (.Assign [.Name y py] (.ListComp elt [⟨tg, iter, ifs, 0⟩] scope pos) spos) (mAsg i (mComp (own.map (·.2)) g it c m)) := by
  obtain ⟨wi, pi, si⟩ := hi
  let tg' : TG := fun v σ H Q => ∀ s H₀ C cl fp, Classical.choose (hg s H₀ C cl fp) v σ H Q
  let tt' : TT := fun σ H Q => ∀ s H₀ C cl fp, Classical.choose (ht s H₀ C cl fp) σ H Q
  let te' : TE := fun σ H Q => ∀ s H₀ C cl fp, Classical.choose (he s H₀ C cl fp) σ H Q
  refine ⟨_, ps_setLc (g := tg') (tt := tt') (te := te') hc hN hy hyl hsw pi ok (fun s H C cl fp => ⟨fun pins s1 σ H1 v u Q I r q => (Classical.choose_spec (hg s H C cl fp)).1.run pins s1 σ H1 v u Q I r (q s H C cl fp)⟩)
    (fun s H C cl fp => ⟨fun pins s1 σ H1 Q I q => (Classical.choose_spec (ht s H C cl fp)).1.run pins s1 σ H1 Q I (q s H C cl fp)⟩) (fun s H C cl fp => ⟨fun pins s1 σ H1 Q I q => (Classical.choose_spec (he s H C cl fp)).1.run pins s1 σ H1 Q I (q s H C cl fp)⟩) hs, ?_⟩
  exact sndS_asg (C := cn X a) i hfi (snd_comp (C := cn X a) (us := us) hfr si (fun B G0 G H σ δ v d δ' Q S r e k s H₀ C cl fp => (Classical.choose_spec (hg s H₀ C cl fp)).2 B G0 G H σ δ v d δ' Q S r e k) hu
    (fun B G0 G H σ δ S Q q s H₀ C cl fp => (Classical.choose_spec (ht s H₀ C cl fp)).2 B G0 G H σ δ S Q q) (fun B G0 G H σ δ S Q q s H₀ C cl fp => (Classical.choose_spec (he s H₀ C cl fp)).2 B G0 G H σ δ S Q q))
def mYes : MT := fun _ => .ok true
theorem dif_nil : ∃ t, PTs X [] t ∧ Snd (cn X a) W relB t mYes := ⟨_, pts_nil, fun B G0 G H σ δ S Q q => q true G H (Stp.refl S.gh) rfl⟩
theorem dif_one {c : MT} (h : DT X a W e c) : ∃ t, PTs X [e] t ∧ Snd (cn X a) W relB t c := let ⟨_, p, s⟩ := h; ⟨_, pts_one p, s⟩
/-! ### 4. methods that change a list of one's own -/
def mApp (i : Nat) (m : MD) : MS := fun δ => match δ[i]? with
  | some (some (.own (.list ds))) => if ds.length < sizeLine then (m δ).out δ fun d => .nx (δ.set i (some (.own (.list (ds ++ [d]))))) else .stuck
  | _ => .stuck
theorem ds_append {i : Nat} {x : Str} {m : MD} {p1 p2 pos2 : Pos} (h : DV X a W e m) (hst : starEach (e :: []) X.env = (false, eval e X.env) :: starEach [] X.env := by rfl)
    (hp : ∀ t, PA X [e] t → PE X (.Call (.Attribute (.Name x p1) "append" p2) [e] [] pos) (tBM X.K "list" rAppend (tVar i) t) := by exact fun _ ht => pe_bm PySem.F.plainAttrs_list PySem.F.slot_list_append PySem.F.type_list_append mt_append (pv _) ht)
    (hs : swapsWith (.Call (.Attribute (.Name x p1) "append" p2) [e] [] pos) none pos2.line X.env = pure false := by rfl) :
    DS X a W (.Expr (.Call (.Attribute (.Name x p1) "append" p2) [e] [] pos) pos2) (mApp i m) := by
  obtain ⟨t, p, s⟩ := h
  refine ⟨_, ps_expr (hp _ (pa_cons p pa_nil hst)) hs, ?_⟩
  intro B G0 G H σ δ D S q
  have q' : OOk (cn X a) W B G0 D (mApp i m δ) := q
  unfold mApp at q'
  split at q'
  · rename_i ds ei
    split at q'
    · rename_i hz
      obtain ⟨v, fp, ev, ⟨b, eb, ef, xs, hx, rx⟩, _⟩ := S.sl ei
      subst eb
      refine ⟨_, ev, .inl ⟨rfl, xs, .inl (.inl hx)⟩, ?_⟩
      refine snd_out s S (R := fun y H2 => rAppend (.ref b) [y] H2 fun _ H3 => D.nx σ H3) (f := fun d => .nx (δ.set i (some (.own (.list (ds ++ [d])))))) q' fun d y G' H' _ st r k => ?_
      have ex : H' b = some (.lst xs) := st.h _ _ hx
      refine ⟨b, xs, y, rfl, rfl, ex, by rw [rx.length]; exact hz, ?_⟩
      exact k σ G' _ ((S.step st).write (d' := .list (ds ++ [d])) ei ev ⟨xs ++ [y], upd_same, (RepL.mono st.g rx).snoc r⟩)
    · exact q'.elim
  · exact q'.elim
/-- l.pop() into a target -/
def popD (i : Nat) (δ : DEnv) (k : PyData → DEnv → Out) : Out := match δ[i]? with
  | some (some (.own (.list ds))) => match ds[ds.length - 1]? with
    | some d => k d (δ.set i (some (.own (.list ds.dropLast))))
    | none => .stuck
  | _ => .stuck
theorem RepL.dropLast {K : Kw} {G : Hp} {ds : List PyData} {vs : List V} (r : RepL K G vs ds) : RepL K G vs.dropLast ds.dropLast := by
  rw [List.dropLast_eq_take, List.dropLast_eq_take, r.length]
  exact r.take _
theorem snd_pop {i : Nat} {k : PyData → DEnv → Out} {B G0 G H : Hp} {σ : St} {δ : DEnv} {D : Ends} {Q : VK} (S : StR (cn X a) B G0 G H σ δ) (q : OOk (cn X a) W B G0 D (popD i δ k))
    (h : ∀ v d δ' H', StR (cn X a) B G0 G H' σ δ' → Rep X.kw G v d → OOk (cn X a) W B G0 D (k d δ') → Q v H') : tBM0 X.K "list" rPop (tVar i) σ H Q := by
  unfold popD at q
  split at q
  · rename_i ds ei
    split at q
    · rename_i d ed
      obtain ⟨v, fp, ev, ⟨b, eb, ef, xs, hx, rx⟩, _⟩ := S.sl ei
      subst eb
      obtain ⟨y, ey, ry⟩ := rx.get ed
      refine ⟨_, ev, .inl ⟨rfl, xs, .inl (.inl hx)⟩, b, xs, y, rfl, rfl, hx, by rw [rx.length]; exact ey, ?_⟩
      exact h y d _ _ (S.write (d' := .list ds.dropLast) ei ev ⟨xs.dropLast, upd_same, rx.dropLast⟩) ry q
    · exact q.elim
  · exact q.elim
def mPop (i : Nat) : MS := fun δ => popD i δ fun _ δ' => .nx δ'
def mPopG (i : Nat) (g : MG) : MS := fun δ => popD i δ fun d δ' => tgtO g δ' d
theorem ds_pop {i : Nat} {x : Str} {p1 p2 pos2 : Pos} (hp : PE X (.Call (.Attribute (.Name x p1) "pop" p2) [] [] pos) (tBM0 X.K "list" rPop (tVar i)) := by exact pe_bm0 PySem.F.plainAttrs_list PySem.F.slot_list_pop PySem.F.type_list_pop mt_pop (pv _))
    (hs : swapsWith (.Call (.Attribute (.Name x p1) "pop" p2) [] [] pos) none pos2.line X.env = pure false := by rfl) : DS X a W (.Expr (.Call (.Attribute (.Name x p1) "pop" p2) [] [] pos) pos2) (mPop i) :=
  ⟨_, ps_expr hp hs, fun B G0 G H σ δ D S q => snd_pop (W := W) (D := D) (k := fun _ δ' => .nx δ') S q fun v d δ' H' S' _ k => k σ G H' S'⟩
theorem ds_popG {i : Nat} {x : Str} {p1 p2 pos2 : Pos} {tg : Expr} {g : MG} {vs : List Nat} (hg : DG X a tg g vs) (hp : PE X (.Call (.Attribute (.Name x p1) "pop" p2) [] [] pos) (tBM0 X.K "list" rPop (tVar i)) := by exact pe_bm0 PySem.F.plainAttrs_list PySem.F.slot_list_pop PySem.F.type_list_pop mt_pop (pv _))
    (hs : swapsWithSole [tg] (.Call (.Attribute (.Name x p1) "pop" p2) [] [] pos) pos2.line X.env = pure false := by rfl) (hw : swappedStores [tg] (.Call (.Attribute (.Name x p1) "pop" p2) [] [] pos) X.env = pure none := by rfl)
    (h1 : (assignEach [tg] X.env).map (·.2) = [assign tg X.env] := by rfl) : DS X a W (.Assign [tg] (.Call (.Attribute (.Name x p1) "pop" p2) [] [] pos) pos2) (mPopG i g) := by
  obtain ⟨u, q, z⟩ := hg
  refine ⟨_, ps_asg hp q hs hw h1, fun B G0 G H σ δ D S k => ?_⟩
  refine snd_pop (W := W) (D := D) (k := fun d δ' => tgtO g δ' d) S k fun v d δ' H' S' r k' => ?_
  unfold tgtO at k'
  cases e : g d δ' with
  | none => rw [e] at k'; exact k'.elim
  | some δ2 => rw [e] at k'; exact z B G0 G H' σ δ' v d δ2 D.nx S' r e fun σ' T _ => k' σ' G H' T
/-! ### 5. try .. except C as n: -/
def Slot.noX : Option Slot → Option Slot
  | some (.exn _) => none
  | s => s
def clearX (δ : DEnv) : DEnv := δ.map Slot.noX
def dropX (i : Nat) : Out → Out
  | .nx δ => .nx ((clearX δ).set i none)
  | .bk δ => .bk ((clearX δ).set i none)
  | .ct δ => .ct ((clearX δ).set i none)
  | .rt s δ => .rt s (clearX δ)
  | .ex _ _ => .stuck
  | .stuck => .stuck
def mTryAs (i : Nat) (cc : EC) (S : List EC) (b s : MS) : MS := fun δ => match b δ with
  | .ex ⟨c, []⟩ δ' => if c ∈ S then (if isSub c cc = true then dropX i (s (δ'.set i (some (.exn ⟨c, []⟩)))) else .ex ⟨c, []⟩ δ') else .stuck
  | .ex _ _ => .stuck
  | o => o
theorem clear_at {δ : DEnv} {j : Nat} {s : Slot} (e : (clearX δ)[j]? = some (some s)) : δ[j]? = some (some s) ∧ ∀ x, s ≠ .exn x := by
  unfold clearX at e
  rw [List.getElem?_map] at e
  cases q : δ[j]? with
  | none => rw [q] at e; cases e
  | some o =>
    rw [q] at e
    have e' : Slot.noX o = some s := Option.some.inj e
    unfold Slot.noX at e'
    split at e'
    · cases e'
    · rename_i h
      subst e'
      exact ⟨rfl, fun x z => h x (by rw [z])⟩
theorem clear_of' {δ : DEnv} {j : Nat} {s : Slot} (e : δ[j]? = some (some s)) (h : ∀ x, s ≠ .exn x) : (clearX δ)[j]? = some (some s) := by
  unfold clearX
  rw [List.getElem?_map, e]
  cases s with
  | exn x => exact (h x rfl).elim
  | val d => rfl
  | own d => rfl
  | bor d => rfl
  | tr d => rfl
  | bt d => rfl
theorem SlR.cn {C C' : Cn} (hK : C.K = C'.K) {B G H : Hp} {fp : List Addr} {s : Slot} {v : V} (h : ∀ x, s ≠ .exn x) (r : SlR C B G H fp s v) : SlR C' B G H fp s v := by
  cases s with
  | val d => exact ⟨r.1, hK ▸ r.2⟩
  | own d => obtain ⟨b, eb, n, t⟩ := r; exact ⟨b, eb, n, hK ▸ t⟩
  | bor d => obtain ⟨b, eb, n, nb, t⟩ := r; exact ⟨b, eb, n, nb, hK ▸ t⟩
  | tr t => exact (hK ▸ r : Own C'.K G H v t fp)
  | bt t => obtain ⟨e, fq, o, q⟩ := r; exact ⟨e, fq, hK ▸ o, q⟩
  | exn x => exact (h x rfl).elim
theorem EnR.swap {C C' : Cn} (hK : C.K = C'.K) {B G H : Hp} {σ : St} {δ : DEnv} {fps : Nat → List Addr} (E : EnR C B G H σ δ fps) : EnR C' B G H σ (clearX δ) fps := by
  refine ⟨fun j s e => ?_, fun j h => ?_, E.nd, E.dj, E.off⟩
  · obtain ⟨e', nx⟩ := clear_at e
    obtain ⟨v, q, r⟩ := E.sl j s e'
    exact ⟨v, q, r.cn hK nx⟩
  · by_cases hs : ∃ s, δ[j]? = some (some s)
    · obtain ⟨s, e⟩ := hs
      by_cases hx : ∃ x, s = .exn x
      · obtain ⟨x, rfl⟩ := hx
        obtain ⟨v, q, r⟩ := E.sl j _ e
        exact r.1
      · exact absurd (clear_of' e fun x z => hx ⟨x, z⟩) (h s)
    · exact E.no j fun s z => hs ⟨s, z⟩
theorem StR.swap {C C' : Cn} (hK : C.K = C'.K) (hR : C.R = C'.R) {B G0 G H : Hp} {σ : St} {δ : DEnv} (S : StR C B G0 G H σ δ) : StR C' B G0 G H σ (clearX δ) :=
  ⟨S.bh, S.g0, S.gh, S.fr, by rw [S.len]; simp [clearX], by rw [← hR]; exact S.rt, let ⟨fps, E⟩ := S.en; ⟨fps, E.swap hK⟩⟩
theorem RvR.cn {C C' : Cn} (hK : C.K = C'.K) {G H : Hp} {fp : List Addr} {s : Slot} {v : V} (r : RvR C G H fp s v) : RvR C' G H fp s v := by
  cases s with
  | val d => exact ⟨r.1, hK ▸ r.2⟩
  | own d => obtain ⟨b, eb, n, t⟩ := r; exact ⟨b, eb, n, hK ▸ t⟩
  | tr t => exact (hK ▸ r : Own C'.K G H v t fp)
  | bor d => exact r.elim
  | bt t => exact r.elim
  | exn x => exact r.elim
theorem RetR.swap {C C' : Cn} (hK : C.K = C'.K) (hR : C.R = C'.R) {B G0 G H : Hp} {σ : St} {δ : DEnv} {s : Slot} {v : V} (r : RetR C B G0 G H σ δ s v) : RetR C' B G0 G H σ (clearX δ) s v :=
  ⟨r.st.swap hK hR, let ⟨fps, fp, E, z, n, q⟩ := r.en; ⟨fps, fp, E.swap hK, z.cn hK, n, q⟩⟩
/-- a frame that holds no refusal takes one -/
theorem StR.hold {C C' : Cn} (hK : C.K = C'.K) (hR : C.R = C'.R) (hA : ∀ b x, ¬ C.A b x) {B G0 G H : Hp} {σ : St} {δ : DEnv} (S : StR C B G0 G H σ δ) (i : Nat) (hf : C.free i) {b : Addr} {x : Exn} (hx : C'.A b x) : StR C' B G0 G H (σ.set i (some (.ref b))) (δ.set i (some (.exn x))) := by
  have nox : ∀ (j : Nat) (s : Slot), δ[j]? = some (some s) → ∀ x, s ≠ .exn x := fun j s e y z => by
    subst z
    obtain ⟨v, fp, q, ⟨_, c, _, z⟩, _⟩ := S.sl e
    exact hA c y z
  have hcl : clearX δ = δ := by
    refine List.ext_getElem? fun j => ?_
    cases e : δ[j]? with
    | none => unfold clearX; rw [List.getElem?_map, e]; rfl
    | some o =>
      cases o with
      | none => unfold clearX; rw [List.getElem?_map, e]; rfl
      | some s => exact clear_of' e (nox j s e)
  have T := S.swap hK hR
  rw [hcl] at T
  obtain ⟨fps, E⟩ := T.en
  have hf' : C'.free i := by unfold Cn.free; rw [← hR]; exact hf
  by_cases hi : i < δ.length
  · exact T.put E hi (Same.refl _) T.gh (fun _ _ e _ => e) (fun a h => .inl h) (fp := []) (s := .exn x) ⟨rfl, b, rfl, hx⟩ List.nodup_nil (fun a ha => nomatch ha) (fun p hp e => absurd e (hf' p hp))
  · rw [set_out hi, set_out (by rw [T.len]; exact hi)]; exact T
theorem ds_try_as {i : Nat} {n x : Str} {cc : EC} {S : List EC} {mb ms : MS} {body suite : List Stmt} {b₀ : Stmt} {np pos' : Pos} (hA : a.A = fun _ _ => False) (hs : X.stack = X.env :: X.outer) (hf : X.env.frame = some X.env.locals) (hN : X.N.Nodup) (hi : X.N[i]? = some n)
    (hln : X.env.kindOf n = some .local) (hc : Names X x (.ref (a.ec cc))) (tk : Takes X W) (hS : ∀ c ∈ S, PySem.W.exmOne X.K (.ref (a.ec c)) (.ref (a.ec cc)) = some (isSub c cc))
    (hb : ∀ (W' : WX) (pn : List (Addr × Obj)) (xe : Value → Shared → Prop), Takes (X.tr pn xe) W' → PassesOwn (model X.prog X.w) X.A X.env xe → DSs (X.tr pn xe) a W' body mb)
    (hsu : ∀ c ∈ S, ∀ (b : Addr) (oe : Obj) (pn : List (Addr × Obj)), Zc (.ref (a.ec c)) none oe → (∃ vs, oe.data = .fields vs) → DSs (X.suite b ((b, oe) :: pn)) (held1 a.ec b c a.R) W0 (b₀ :: suite) ms) (hfr : a.free i) :
    DS X a W (.Try body [.ExceptHandler (some (.Name x np)) (some n) (b₀ :: suite) pos'] [] [] pos) (mTryAs i cc S mb ms) := by
  let tb : WX → TS := fun W' D σ H => ∀ pn xe (h1 : Takes (X.tr pn xe) W') (h2 : PassesOwn (model X.prog X.w) X.A X.env xe), Classical.choose (hb W' pn xe h1 h2) D σ H
  let ts : Addr → Value → Option Addr → TS := fun b cls d D σ H => ∃ c, ∃ hc : c ∈ S, cls = .ref (a.ec c) ∧ d = none ∧ ∀ oe pn (hz : Zc (.ref (a.ec c)) none oe) (hd : ∃ vs, oe.data = .fields vs), Classical.choose (hsu c hc b oe pn hz hd) D σ H
  refine ⟨_, ps_try_as (i := i) (tb := tb) (ts := ts) hs hf hN hi hln hc tk (fun W' pn xe h1 h2 => ⟨fun pins s σ H D I q => (Classical.choose_spec (hb W' pn xe h1 h2)).1.run pins s σ H D I (q pn xe h1 h2)⟩)
    (fun b oe cls d pn hz hd => ⟨fun pins s σ H D I q => ?_⟩), ?_⟩
  · obtain ⟨c, hc, e1, e2, q⟩ := q
    subst e1 e2
    exact (Classical.choose_spec (hsu c hc b oe pn hz hd)).1.run pins s σ H D I (q oe pn hz hd)
  · intro B G0 G H σ δ D Sr q pn xe h1 h2
    refine (Classical.choose_spec (hb _ pn xe h1 h2)).2 B G0 G H σ δ D Sr ?_
    have q' : OOk (cn X a) W B G0 D (match mb δ with
      | .ex ⟨c, []⟩ δ' => if c ∈ S then (if isSub c cc = true then dropX i (ms (δ'.set i (some (.exn ⟨c, []⟩)))) else .ex ⟨c, []⟩ δ') else .stuck
      | .ex _ _ => .stuck
      | o => o) := q
    generalize mb δ = o at q'
    show OOk (cn X a) _ B G0 D o
    cases o with
    | nx δ' => exact q'
    | bk δ' => exact q'
    | ct δ' => exact q'
    | rt s δ' => exact q'
    | stuck => exact q'
    | ex x δ' =>
      obtain ⟨c, fs⟩ := x
      cases fs with
      | cons f fs => exact q'.elim
      | nil =>
        by_cases hcS : c ∈ S
        · have q2 : OOk (cn X a) W B G0 D (if c ∈ S then (if isSub c cc = true then dropX i (ms (δ'.set i (some (.exn ⟨c, []⟩)))) else .ex ⟨c, []⟩ δ') else .stuck) := q'
          rw [if_pos hcS] at q2
          intro cls d σ' G' H' T r
          obtain ⟨rc, rd⟩ := r
          have rc' : cls = .ref (a.ec c) := rc
          have rd' : d = none := rd
          subst rc' rd'
          refine ⟨isSub c cc, hS c hcS, fun hy b hb0 => ?_, fun hn => ?_⟩
          · rw [if_pos hy] at q2
            refine ⟨c, hcS, rfl, rfl, fun oe pn2 hz hd => ?_⟩
            have T' : StR (cn (X.suite b ((b, oe) :: pn2)) (held1 a.ec b c a.R)) B G0 G' H' (σ'.set i (some (.ref b))) (δ'.set i (some (.exn ⟨c, []⟩))) :=
              StR.hold (C := cn X a) (C' := cn (X.suite b ((b, oe) :: pn2)) (held1 a.ec b c a.R)) rfl rfl (fun b x z => by rw [show (cn X a).A = a.A from rfl, hA] at z; exact z) T i hfr ⟨rfl, rfl⟩
            refine (Classical.choose_spec (hsu c hcS b oe pn2 hz hd)).2 B G0 G' H' _ _ _ T' ?_
            generalize ms (δ'.set i (some (.exn ⟨c, []⟩))) = o2 at q2 ⊢
            have back : ∀ {δ2 : DEnv} {σ2 : St} {G2 H2 : Hp}, StR (cn (X.suite b ((b, oe) :: pn2)) (held1 a.ec b c a.R)) B G0 G2 H2 σ2 δ2 → StR (cn X a) B G0 G2 H2 (σ2.set i none) ((clearX δ2).set i none) :=
              fun T2 => (StR.swap (C := cn (X.suite b ((b, oe) :: pn2)) (held1 a.ec b c a.R)) (C' := cn X a) rfl rfl T2).setNone hfr none
            cases o2 with
            | nx δ2 => exact fun σ2 G2 H2 T2 => q2 _ G2 H2 (back T2)
            | bk δ2 => exact fun σ2 G2 H2 T2 => q2 _ G2 H2 (back T2)
            | ct δ2 => exact fun σ2 G2 H2 T2 => q2 _ G2 H2 (back T2)
            | rt s δ2 => exact fun v σ2 G2 H2 T2 => q2 v σ2 G2 H2 (RetR.swap (C := cn (X.suite b ((b, oe) :: pn2)) (held1 a.ec b c a.R)) (C' := cn X a) rfl rfl T2)
            | ex x δ2 => exact q2.elim
            | stuck => exact q2.elim
          · rw [if_neg (by rw [hn]; decide)] at q2
            exact q2 _ _ σ' G' H' T ⟨rfl, rfl⟩
        · have q2 : OOk (cn X a) W B G0 D (if c ∈ S then (if isSub c cc = true then dropX i (ms (δ'.set i (some (.exn ⟨c, []⟩)))) else .ex ⟨c, []⟩ δ') else .stuck) := q'
          rw [if_neg hcS] at q2
          exact q2.elim
end
end DL
/-! DLf: defs by name, the law's end, some more operators -/
namespace DL
open PySem L2
/-! ### 1. a def of the top, by its name -/
/-- the def x of the text -/
def Ln (K : PySem.W.Frag) (mg : Str → Option Value) (x : Str) (st : Stmt) (ps : List Str) : Prop :=
  ∃ fa fd, Fun K x x st fa fd ∧ mg x = some (.ref fa) ∧ Binds K fd ps []
/-- the def x keeps the promise f -/
def Fd (P : Program) (w : World) (K : PySem.W.Frag) (mg : Str → Option Value) (base : Heap) (ec : EC → Addr) (x : Str) (ps : List Str) (k : Nat) (f : F) : Prop :=
  ∃ fa fd, FnOk P w K mg base (L2.CX P w) k fa fd ps (spD ⟨⟨K, w⟩, ec, fun _ _ => False, []⟩ f) ∧ mg x = some (.ref fa) ∧ PySem.W.keepIn K (.ref fa) = true ∧ Binds K fd ps []
section
variable {P : Program} {w : World} {K : PySem.W.Frag} {mg : Str → Option Value} {base : Heap} {ec : EC → Addr}
theorem fd_of {x : Str} {st : Stmt} {N ps : List Str} {k : Nat} {b : MS} (S : FnScope N ps (defScope st)) (L : Ln K mg x st ps)
    (hbody : ∀ {f : Addr} (cdv : Value) (A : Around) (outer : List Env) (s : Shared) (H : Hp) (E : XK), Room k (A.deeper (PyProof.Rows.envOfC x (defScope st) s.heap.objs.size f cdv)) →
      DSs (cxOf (L2.CX P w) P w K mg base N x (defScope st) f cdv A outer s H E) ⟨ec, fun _ _ => False, []⟩ (fun cls d _ H' => E cls d H') (defBody st) b) :
    Fd P w K mg base ec x ps (k + 1) (mDef N.length ps.length b) := by
  obtain ⟨fa, fd, F0, hm, hb⟩ := L
  exact ⟨fa, fd, fn_d (ax := ⟨ec, fun _ _ => False, []⟩) F0 S (fun cdv A outer s H E hr => hbody cdv A outer s H E hr) rfl, hm, F0.kp, hb⟩
theorem fd_mono {x : Str} {ps : List Str} {j k : Nat} {f : F} (h : j ≤ k) (L : Fd P w K mg base ec x ps j f) : Fd P w K mg base ec x ps k f := by
  obtain ⟨fa, fd, F0, r⟩ := L
  exact ⟨fa, fd, F0.mono h, r⟩
/-- a promise that tells less -/
theorem spD_imp {C : Cn} {f g : F} (h : ∀ ss, g ss ≠ .stuck → f ss = g ss) {vs : List V} {H : Hp} {Q : VK} {E : XK} (q : spD C g vs H Q E) : spD C f vs H Q E := by
  obtain ⟨G, ss, gh, r, k⟩ := q
  refine ⟨G, ss, gh, r, ?_⟩
  rw [h ss (fun z => by rw [z] at k; exact k)]
  exact k
theorem fd_imp {x : Str} {ps : List Str} {k : Nat} {f g : F} (h : ∀ ss, g ss ≠ .stuck → f ss = g ss) (L : Fd P w K mg base ec x ps k f) : Fd P w K mg base ec x ps k g := by
  obtain ⟨fa, fd, F0, r⟩ := L
  exact ⟨fa, fd, F0.imp fun vs H Q E q => spD_imp h q, r⟩
/-- the law itself, at its address -/
theorem fnok_of {x : Str} {st : Stmt} {N ps : List Str} {k : Nat} {b : MS} {fa : Addr} {fd : FuncData} (S : FnScope N ps (defScope st)) (F0 : Fun K x x st fa fd)
    (hbody : ∀ {f : Addr} (cdv : Value) (A : Around) (outer : List Env) (s : Shared) (H : Hp) (E : XK), Room k (A.deeper (PyProof.Rows.envOfC x (defScope st) s.heap.objs.size f cdv)) →
      DSs (cxOf (L2.CX P w) P w K mg base N x (defScope st) f cdv A outer s H E) ⟨ec, fun _ _ => False, []⟩ (fun cls d _ H' => E cls d H') (defBody st) b) :
    FnOk P w K mg base (L2.CX P w) (k + 1) fa fd ps (spD ⟨⟨K, w⟩, ec, fun _ _ => False, []⟩ (mDef N.length ps.length b)) :=
  fn_d (ax := ⟨ec, fun _ _ => False, []⟩) F0 S (fun cdv A outer s H E hr => hbody cdv A outer s H E hr) rfl
end
section
variable {X : Cx} {a : Ax} {W : WX} {e e1 e2 e3 : Expr} {es : List Expr} {pos : Pos}
theorem de_callF {x : Str} {f : F} {k : Nat} {ps : List Str} {p : Pos} {m : DEnv → Res (List Slot)} (F0 : Fd X.prog X.w X.K X.mg X.base a.ec x ps k f) (hr : Room k X.A) (hg : Gl X x) (tk : Takes X W) (h : DAS X a W (e :: es) m)
    (hdb : (x == ("__debug__" : Str)) = false := by decide) (he : starEach (e :: es) X.env = (false, eval e X.env) :: starEach es X.env := by rfl) (hpl : (backTo pos (starEach es X.env)).any (·.1) = false := by rfl) : DE X a W (.Call (.Name x p) (e :: es) [] pos) (mCall f m) := by
  obtain ⟨fa, fd, F1, hm, hk, hb⟩ := F0
  exact de_call F1 hr hg hm hk hb tk h hdb he hpl
/-! ### 2. the law's call -/
theorem vals_ints {K : Kw} {G : Hp} : ∀ ns : List Int, RepL K G (ns.map V.int) (ns.map PyData.int)
  | [] => .nil
  | n :: ns => .cons (.int n) (vals_ints ns)
theorem law_sp {K : PySem.W.Frag} {w : World} {ec : EC → Addr} {H : Hp} {b : Addr} {ns : List Int} {f : F} (hS : SqL K H b (ns.map V.int)) (hf : f [.val (.list (ns.map PyData.int))] = .ok (.val (.bool true))) :
    spD ⟨⟨K, w⟩, ec, fun _ _ => False, []⟩ f [.ref b] H (fun v _ => v = .bl true) fun _ _ _ => False := by
  refine ⟨H, [.val (.list (ns.map PyData.int))], Same.refl _, .cons (Rep.lst hS (vals_ints ns)) .nil, ?_⟩
  rw [hf]
  intro v G' H' st r
  have r' : Rep ⟨K, w⟩ G' v (.bool true) := r
  cases r'
  rfl
theorem cx_none {P : Program} {w : World} {H : Hp} {s : Shared} {e : Value} {s' : Shared} (h : L2.CX P w [] H s (fun _ _ _ => False) e s') : False := by
  obtain ⟨_, _, _, _, _, _, _, _, _, _, _, _, z⟩ := h
  exact z
/-! ### 3. more operators -/
def mU (f : PyData → Res Slot) (m : MD) : ME := fun δ => (m δ).bind f
def negF : PyData → Res Slot
  | .int i => okI (-i)
  | _ => .stuck
theorem de_neg {m : MD} (h : DR X a W e m) : DE X a W (.UnaryOp .USub e pos) (mU negF m) := by
  obtain ⟨t, p, s⟩ := h
  refine ⟨_, pe_un un_neg p, ?_⟩
  refine snd_bind (rel1 := relD X.kw) (rel2 := relE X.kw) downE s (t2 := fun x _ H Q => rU (fun i => .int (-i)) x H Q) (m2 := fun d _ => negF d) ?_
  intro d v B G0 G H σ δ H0 S rd Q hq
  have hq' : ROk (cn X a) W σ G H (relE X.kw H) (negF d) Q := hq
  unfold negF at hq'
  split at hq'
  · exact ⟨_, rdr_int rd, hq' _ G H (Stp.refl S.gh) (Rep.int _)⟩
  · exact hq'.elim
def revF : PyData → Res Slot
  | .list ds => .ok (.own (.list ds.reverse))
  | _ => .stuck
theorem de_rev {m : MD} {k : Nat} {p1 p2 p3 : Pos} (h : DR X a W e m) : DE X a W (.Subscript e (.Slice none none (some (.UnaryOp .USub (.Constant (.int 1) k p1) p2)) p3) pos) (mU revF m) := by
  obtain ⟨t, p, s⟩ := h
  refine ⟨_, pe_revL p, ?_⟩
  refine snd_bind (rel1 := relD X.kw) (rel2 := relE X.kw) downE s (t2 := fun x _ H1 Q => ∃ a xs, x = .ref a ∧ SqL X.K H1 a xs ∧ ∀ p, H1 p = none → Q (.ref p) (upd H1 p (.lst xs.reverse))) (m2 := fun d _ => revF d) ?_
  intro d v B G0 G H σ δ H0 S rd Q hq
  have hq' : ROk (cn X a) W σ G H (relE X.kw H) (revF d) Q := hq
  unfold revF at hq'
  split at hq'
  · obtain ⟨b, xs, e1, q1, r1⟩ := rdr_list S.gh rd
    exact ⟨b, xs, e1, q1, new_list S.gh r1.reverse hq'⟩
  · exact hq'.elim
def mDict0 : ME := fun _ => .ok (.own (.dict []))
theorem de_dict0 : DE X a W (.Dict [] [] pos) mDict0 := ⟨_, pe_dnewK, fun B G0 G H σ δ S Q hq p hp => hq _ G _ (Stp.newH S.gh hp) ⟨p, rfl, S.gh.free hp, hp, .inl ⟨[], upd_same, .nil⟩⟩⟩
/-- a < b < c -/
def mChain (f g : PyData → PyData → Res Slot) (ma mb mc : MD) : ME := fun δ => (ma δ).bind fun x => (mb δ).bind fun y => (f x y).bind fun s => s.bl.bind fun k => if k = true then (mc δ).bind fun z => g y z else .ok (.val (.bool false))
theorem snd_chain {C : Cn} {r r' : R2} {f g : PyData → PyData → Res Slot} (hf : OpS C.K r f) (hfn : NoExc f) (hg : OpS C.K r' g) (hgn : NoExc g) {ta tb tc : TE} {ma mb mc : MD} (ha : Snd C W (relD C.K) ta ma) (hb : Snd C W (relD C.K) tb mb) (hc : Snd C W (relD C.K) tc mc) :
    Snd C W (relE C.K) (tChain r r' ta tb tc) (mChain f g ma mb mc) := by
  intro B G0 G H σ δ S Q hq
  refine ha B G0 G H σ δ S _ ?_
  have hq' : ROk C W σ G H (relE C.K H) ((ma δ).bind fun x => (mb δ).bind fun y => (f x y).bind fun s => s.bl.bind fun k => if k = true then (mc δ).bind fun z => g y z else .ok (.val (.bool false))) Q := hq
  generalize ma δ = r1 at hq'
  cases r1 with
  | stuck => exact hq'.elim
  | exc x => exact hq'
  | ok x =>
    intro vx G1 H1 st1 rx
    rw [bind_ok] at hq'
    refine hb B G0 G1 H1 σ δ (S.step st1) _ ?_
    generalize mb δ = r2 at hq'
    cases r2 with
    | stuck => exact hq'.elim
    | exc x => exact fun cls d G2 H2 s2 r => hq' cls d G2 H2 (st1.trans s2) r
    | ok y =>
      intro vy G2 H2 st2 ry
      rw [bind_ok] at hq'
      have st := st1.trans st2
      cases ef : f x y with
      | stuck => rw [ef] at hq'; exact hq'.elim
      | exc z => exact (hfn x y z ef).elim
      | ok s =>
        rw [ef, bind_ok] at hq'
        refine hf G2 H2 vx vy x y s _ st.gh (rx.mono st2.g st2.h) ry ef fun v G3 H3 st3 rv => ?_
        unfold Slot.bl at hq'
        split at hq'
        · rename_i k
          rw [bind_ok] at hq'
          have rv' : Rep C.K G3 v (.bool k) := rv
          cases rv'
          refine ⟨k, rfl, ?_⟩
          have st' := st.trans st3
          cases k with
          | true =>
            rw [if_pos rfl] at hq'
            show tc σ H3 _
            refine hc B G0 G3 H3 σ δ (S.step st') _ ?_
            generalize mc δ = r3 at hq'
            cases r3 with
            | stuck => exact hq'.elim
            | exc x => exact fun cls d G4 H4 s4 r => hq' cls d G4 H4 (st'.trans s4) r
            | ok z =>
              intro vz G4 H4 st4 rz
              rw [bind_ok] at hq'
              have st4' := st'.trans st4
              cases eg : g y z with
              | stuck => rw [eg] at hq'; exact hq'.elim
              | exc u => exact (hgn y z u eg).elim
              | ok s2 =>
                rw [eg] at hq'
                exact hg G4 H4 vy vz y z s2 Q st4'.gh (ry.mono (st3.trans st4).g (st3.trans st4).h) rz eg fun v G5 H5 s5 rv => hq' v G5 H5 (st4'.trans s5) (ResF.mono0 st4'.h rv)
          | false =>
            rw [if_neg (by decide)] at hq'
            show Q (.bl false) H3
            exact hq' _ G3 H3 st' (Rep.bl false)
        · exact hq'.elim
theorem de_chain {op op' : CmpOp} {r r' : R2} {f g : PyData → PyData → Res Slot} (hf : OpS X.kw r f) (hfn : NoExc f) (hg : OpS X.kw r' g) (hgn : NoExc g) (ho : OpR X (compareOp op) r) (ho' : OpR X (compareOp op') r') {ma mb mc : MD} (ha : DR X a W e1 ma) (hb : DR X a W e2 mb) (hc : DR X a W e3 mc)
    (hm : lastMarks [op, op'] [e2, e3] = false := by with_unfolding_all rfl) : DE X a W (.Compare e1 [op, op'] [e2, e3] pos) (mChain f g ma mb mc) :=
  let ⟨_, pa, sa⟩ := ha; let ⟨_, pb, sb⟩ := hb; let ⟨_, pc, sc⟩ := hc; ⟨_, pe_chain ho ho' pa pb pc hm, snd_chain (C := cn X a) hf hfn hg hgn sa sb sc⟩
theorem dt_chain {op op' : CmpOp} {r r' : R2} {f g : PyData → PyData → Res Slot} (hf : OpS X.kw r f) (hfn : NoExc f) (hg : OpS X.kw r' g) (hgn : NoExc g) (ho : OpR X (compareOp op) r) (ho' : OpR X (compareOp op') r') {ma mb mc : MD} (ha : DR X a W e1 ma) (hb : DR X a W e2 mb) (hc : DR X a W e3 mc)
    (hm : lastMarks [op, op'] [e2, e3] = false := by with_unfolding_all rfl) : DT X a W (.Compare e1 [op, op'] [e2, e3] pos) (mTest (mChain f g ma mb mc)) :=
  let ⟨_, pa, sa⟩ := ha; let ⟨_, pb, sb⟩ := hb; let ⟨_, pc, sc⟩ := hc; ⟨_, pt_chain ho ho' pa pb pc hm, snd_test (C := cn X a) (snd_chain (C := cn X a) hf hfn hg hgn sa sb sc)⟩
theorem isNotF_ne : NoExc (isF true) := isF_ne
/-- for over a list or a tuple -/
def asSeq : PyData → Res (List PyData)
  | .list ds => .ok ds
  | .tuple ds => .ok ds
  | _ => .stuck
end
end DL
/-! DLg: walking a list, a tuple or a text; str(n) -/
namespace DL
open PySem L2
section
variable {X : Cx} {a : Ax} {W : WX} {e e1 e2 e3 tg : Expr} {es : List Expr} {pos : Pos}
def iSeq (K : PySem.W.Frag) (tl : TE) : TI := fun σ H R => tl σ H fun x H1 => (∃ a, x = .ref a ∧ (∃ xs, SqL K H1 a xs) ∧ R (Itl K a) H1) ∨ (∃ a, x = .ref a ∧ (∃ xs, SqT K H1 a xs) ∧ R (Itt K a) H1) ∨ ∃ z, x = .str z ∧ R (Its z) H1
theorem pi_seq {l : Expr} {tl : TE} (hl : PE X l tl) : PI X tg l (iSeq X.K tl) := by
  refine ⟨fun pins s σ H R I h => ?_⟩
  refine thn (hl.run pins s σ H _ I h) fun v s1 ⟨x, H1, I1, r1, q1⟩ => ?_
  rcases q1 with ⟨b, e, q, k⟩ | ⟨b, e, q, k⟩ | ⟨z, e, k⟩
  · have p : PI X tg l (iList X.K fun _ _ Q => Q x H1) → True := fun _ => trivial
    subst e
    obtain ⟨xs, hq⟩ := q
    cases r1
    obtain ⟨its, rv, p, hz⟩ := I1.list hq
    refine wpAny_pyIter_list p.isList ?_
    refine ⟨s1.heap.objs.size, [s1.heap.objs.size], _, _, H1, rfl, I1.kept (t' := s1.toks) fun b o e => Heap.get?_push_of_some _ e, turn_list b _, ⟨_, Heap.get?_push_size _ rfl, rfl, rfl⟩, fun b hb => ?_, k⟩
    have e : b = s1.heap.objs.size := by simpa using hb
    subst e
    exact I1.fpOk (Nat.le_refl _) (I1.hok.fresh (Nat.le_refl _))
  · subst e
    obtain ⟨xs, hq⟩ := q
    cases r1
    obtain ⟨its, rv, p, hz⟩ := I1.tuple hq
    refine wpAny_pyIter_tuple (show s1.heap.IsTuple b its.toArray from p) ?_
    refine ⟨s1.heap.objs.size, [s1.heap.objs.size], _, _, H1, rfl, I1.kept (t' := s1.toks) fun b o e => Heap.get?_push_of_some _ e, turn_tuple b _, ⟨_, Heap.get?_push_size _ rfl, rfl, rfl⟩, fun b hb => ?_, k⟩
    have e : b = s1.heap.objs.size := by simpa using hb
    subst e
    exact I1.fpOk (Nat.le_refl _) (I1.hok.fresh (Nat.le_refl _))
  · subst e
    obtain ⟨t, rfl⟩ := r1
    cases ha : z.cps.all (· < 128)
    · exact wpAny_pyIter_wide ha (pi_one (tk := s1.toks) I1 _ (turn_str _ z t "str_iterator" (.inr rfl)) ⟨_, Heap.get?_push_size _ rfl, rfl, rfl⟩ k)
    · exact wpAny_pyIter_ascii ha (pi_one (tk := s1.toks) I1 _ (turn_str _ z t "str_ascii_iterator" (.inl rfl)) ⟨_, Heap.get?_push_size _ rfl, rfl, rfl⟩ k)
def signs (z : Str) : List PyData := z.cps.toList.map fun c => .str ⟨#[c]⟩
theorem gives_str {C : Cn} {B G : Hp} {z : Str} : Gives C B (Its z) G (signs z) := by
  intro i G1 H1 g s _
  have hl : (signs z).length = z.cps.size := by simp [signs]
  refine ⟨fun d e => ?_, fun h1 _ => by rw [hl] at h1; exact h1⟩
  have hi : i < z.cps.size := by
    have := (List.getElem?_eq_some_iff.mp e).1
    rw [hl] at this; exact this
  refine ⟨hi, fun x H' y => ?_⟩
  obtain ⟨e1, c, e2, e3⟩ := y
  subst e1 e3
  have ed : d = .str ⟨#[c]⟩ := by
    have h3 : (signs z)[i]? = some (.str ⟨#[c]⟩) := by
      unfold signs
      rw [List.getElem?_map, Array.getElem?_toList, e2]
      rfl
    rw [h3] at e; cases e; rfl
  subst ed
  exact ⟨G1, Stp.refl s, .str _⟩
def seqOf : PyData → Res (List PyData)
  | .list ds => .ok ds
  | .tuple ds => .ok ds
  | .str z => .ok (signs z)
  | _ => .stuck
def miQ (m : MD) : ML := fun δ => (m δ).bind seqOf
theorem di_seq {tg : Expr} {m : MD} (h : DV X a W e m) : DI X a W tg e (miQ m) := by
  obtain ⟨t, p, s⟩ := h
  refine ⟨_, pi_seq p, fun B G0 G H σ δ S R q => ?_⟩
  refine s B G0 G H σ δ S _ ?_
  have q' : ROk (cn X a) W σ G H (fun G' _ ds J => Gives (cn X a) B J G' ds) ((m δ).bind seqOf) R := q
  generalize m δ = r at q'
  cases r with
  | stuck => exact q'.elim
  | exc x => exact q'
  | ok d =>
    intro v G' H' st rp
    cases rp with
    | lst h r => exact .inl ⟨_, rfl, ⟨_, sqL_mono st.gh h⟩, q' _ G' H' st (gives_list (C := cn X a) h r)⟩
    | tup h r => exact .inr (.inl ⟨_, rfl, ⟨_, sqT_mono st.gh h⟩, q' _ G' H' st (gives_tup (C := cn X a) h r)⟩)
    | str x => exact .inr (.inr ⟨_, rfl, q' _ G' H' st gives_str⟩)
    | dk _ _ => exact q'.elim
    | dn _ _ _ => exact q'.elim
    | non => exact q'.elim
    | bl _ => exact q'.elim
    | int _ => exact q'.elim
/-- a local name's list, text or tuple; a borrowed list stays as it is while the def runs -/
def miV (i : Nat) : ML := fun δ => match δ[i]? with
  | some (some (.val d)) => seqOf d
  | some (some (.bor (.list ds))) => .ok ds
  | _ => .stuck
theorem gives_bor {C : Cn} {B G : Hp} {p : Addr} {xs : List V} {ds : List PyData} (h : B p = some (.lst xs)) (r : RepL C.K G xs ds) : Gives C B (Itl C.K p) G ds := by
  intro i G1 H1 g s sb
  have q : SqL C.K H1 p xs := .inl (.inl (sb _ _ h))
  refine ⟨fun d e => ?_, fun h1 h2 => ⟨xs, q, by rw [r.length]; exact h1⟩⟩
  obtain ⟨v, ev, rv⟩ := r.get e
  refine ⟨⟨xs, v, q, ev⟩, fun x H' y => ?_⟩
  obtain ⟨e1, y⟩ := y
  subst e1
  have e2 := y xs q
  rw [ev] at e2; cases e2
  exact ⟨G1, Stp.refl s, rv.mono g⟩
theorem di_var (i : Nat) {x : Str} {p : Pos} (hN : X.N[i]? = some x := by rfl) (hv : Vis X.env.scope x := by first | exact Or.inl rfl | exact Or.inr (Or.inl rfl) | exact Or.inr (Or.inr rfl)) (hd : (x == ("__debug__" : Str)) = false := by decide)
    (hcd : (x == ("__classdict__" : Str)) = false := by decide) : DI X a W tg (.Name x p) (miV i) := by
  refine ⟨_, pi_seq (pe_var hN hv hd hcd), fun B G0 G H σ δ S R q => ?_⟩
  unfold miV at q
  split at q
  · rename_i d e
    obtain ⟨v, fp, ev, ⟨_, rp⟩, _⟩ := S.sl e
    refine ⟨v, ev, ?_⟩
    have st := Stp.refl S.gh
    have q' : ROk (cn X a) W σ G H (fun G' _ ds J => Gives (cn X a) B J G' ds) (seqOf d) R := q
    cases rp with
    | lst h r => exact .inl ⟨_, rfl, ⟨_, sqL_mono st.gh h⟩, q' _ G H st (gives_list (C := cn X a) h r)⟩
    | tup h r => exact .inr (.inl ⟨_, rfl, ⟨_, sqT_mono st.gh h⟩, q' _ G H st (gives_tup (C := cn X a) h r)⟩)
    | str x => exact .inr (.inr ⟨_, rfl, q' _ G H st gives_str⟩)
    | dk _ _ => exact q'.elim
    | dn _ _ _ => exact q'.elim
    | non => exact q'.elim
    | bl _ => exact q'.elim
    | int _ => exact q'.elim
  · rename_i ds e
    obtain ⟨v, fp, ev, ⟨b, rfl, _, nb, t⟩, _⟩ := S.sl e
    refine ⟨_, ev, ?_⟩
    obtain ⟨xs, hx, r⟩ := t
    have hb : B b = some (.lst xs) := by
      cases hz : B b with
      | none => exact absurd hz nb
      | some c => have := S.bh _ _ hz; rw [hx] at this; rw [← this]
    exact .inl ⟨_, rfl, ⟨xs, .inl (.inl hx)⟩, q _ G H (Stp.refl S.gh) (gives_bor (C := cn X a) hb r)⟩
  · exact q.elim
/-- str(n) -/
def strF : List PyData → Res Slot
  | [.int i] => if i.natAbs.log2 < 1920 then okV (.str (toString i)) else .stuck
  | _ => .stuck
theorem strF_ok {K : Kw} : CallS K (fun xs H Q => ∃ i, xs = [.int i] ∧ i.natAbs.log2 < 1920 ∧ Q (.str (toString i)) H) strF := by
  refine ⟨fun G H vs ds s Q g rd ef q => ?_, fun ds x => ?_⟩
  · unfold strF at ef
    split at ef
    · split at ef
      · rename_i hz
        cases ef
        obtain ⟨v, ev, r⟩ := rdl1 rd
        cases rdr_int r
        exact ⟨_, ev, hz, q _ G H (Stp.refl g) (Rep.str _)⟩
      · cases ef
    · cases ef
  · unfold strF
    split <;> (try split) <;> (intro h; cases h)
/-- in, not in: a text in a text; data in a list or tuple of data -/
def rInT (K : PySem.W.Frag) (neg : Bool) : R2 := fun x y H Q => ∃ d ds, Dp K H x d ∧ Dp K H y (.tuple ds) ∧ SeqAt.shaped d = true ∧ SeqAt.shaped (.tuple ds) = true ∧ Q (.bl (neg != ds.any fun z => PyData.eqv z d)) H
theorem op_inTup (hu : X.A.units + 65 < cLine) : OpR X (compareOp .In) (rInT X.K false) := by
  intro pins s σ H x y v u Q I rx ry h
  obtain ⟨d, ds, hd, he, sd, se, q⟩ := h
  obtain ⟨as, r1⟩ := Dp.reads I d x v hd rx
  obtain ⟨bs, r2⟩ := Dp.reads I (.tuple ds) y u he ry
  exact SeqAt.in_tuple_reads r2 r1 (SeqAt.canLay_of_shaped se) (SeqAt.canLay_of_shaped sd) (PyProof.Rows.room_in_shaped sd hu) ⟨.bl _, H, I, rfl, by simpa using q⟩
theorem op_notInTup (hu : X.A.units + 65 < cLine) : OpR X (compareOp .NotIn) (rInT X.K true) := by
  intro pins s σ H x y v u Q I rx ry h
  obtain ⟨d, ds, hd, he, sd, se, q⟩ := h
  obtain ⟨as, r1⟩ := Dp.reads I d x v hd rx
  obtain ⟨bs, r2⟩ := Dp.reads I (.tuple ds) y u he ry
  exact SeqAt.notIn_tuple_reads r2 r1 (SeqAt.canLay_of_shaped se) (SeqAt.canLay_of_shaped sd) (PyProof.Rows.room_in_shaped sd hu) ⟨.bl _, H, I, rfl, by simpa using q⟩
def strIn (x z : Str) : Bool := !(Builtin.Str.occurrences z x 0 z.length 1).isEmpty
def inF (neg : Bool) (d : PyData) : PyData → Res Slot
  | .str z => match d with
    | .str x => okB (neg != strIn x z)
    | _ => .stuck
  | .list ds => if SeqAt.shaped d = true ∧ SeqAt.shaped (.list ds) = true then okB (neg != ds.any fun z => PyData.eqv z d) else .stuck
  | .tuple ds => if SeqAt.shaped d = true ∧ SeqAt.shaped (.tuple ds) = true then okB (neg != ds.any fun z => PyData.eqv z d) else .stuck
  | _ => .stuck
def rInA (K : PySem.W.Frag) : R2 := fun x y H Q => (∃ i j, x = .str i ∧ y = .str j ∧ Q (.bl (!(Builtin.Str.occurrences j i 0 j.length 1).isEmpty)) H) ∨ (rInD K x y H Q ∨ rInT K false x y H Q)
def rNotInA (K : PySem.W.Frag) : R2 := fun x y H Q => (∃ i j, x = .str i ∧ y = .str j ∧ Q (.bl (!(!(Builtin.Str.occurrences j i 0 j.length 1).isEmpty))) H) ∨ (rNotInD K x y H Q ∨ rInT K true x y H Q)
theorem op_inA {k : Nat} (hr : Room k X.A) : OpR X (compareOp .In) (rInA X.K) := op_in_str.or ((L2.op_inD (by have := hr.un; omega)).or (op_inTup (by have := hr.un; omega)))
theorem op_notInA {k : Nat} (hr : Room k X.A) : OpR X (compareOp .NotIn) (rNotInA X.K) := op_notin_str.or ((L2.op_notInD (by have := hr.un; omega)).or (op_notInTup (by have := hr.un; omega)))
theorem inF_ok {K : Kw} : OpS K (rInA K) (inF false) := by
  intro G H x y d e s Q g rx ry ef q
  unfold inF at ef
  split at ef
  · split at ef
    · cases ef
      cases rdr_str rx; cases rdr_str ry
      exact .inl ⟨_, _, rfl, rfl, by have h := q (.bl (false != strIn _ _)) G H (Stp.refl g) (Rep.bl _); simpa [strIn] using h⟩
    · cases ef
  · split at ef
    · rename_i hz
      cases ef
      refine .inr (.inl ⟨d, _, rdr_dp g (SeqAt.canLay_of_shaped hz.1) rx, rdr_dp g (SeqAt.canLay_of_shaped hz.2) ry, hz.1, hz.2, ?_⟩)
      have h := q (.bl _) G H (Stp.refl g) (Rep.bl _)
      simpa using h
    · cases ef
  · split at ef
    · rename_i hz
      cases ef
      exact .inr (.inr ⟨d, _, rdr_dp g (SeqAt.canLay_of_shaped hz.1) rx, rdr_dp g (SeqAt.canLay_of_shaped hz.2) ry, hz.1, hz.2, q (.bl _) G H (Stp.refl g) (Rep.bl _)⟩)
    · cases ef
  · cases ef
theorem notInF_ok {K : Kw} : OpS K (rNotInA K) (inF true) := by
  intro G H x y d e s Q g rx ry ef q
  unfold inF at ef
  split at ef
  · split at ef
    · cases ef
      cases rdr_str rx; cases rdr_str ry
      exact .inl ⟨_, _, rfl, rfl, by have h := q (.bl (true != strIn _ _)) G H (Stp.refl g) (Rep.bl _); simpa [strIn] using h⟩
    · cases ef
  · split at ef
    · rename_i hz
      cases ef
      refine .inr (.inl ⟨d, _, rdr_dp g (SeqAt.canLay_of_shaped hz.1) rx, rdr_dp g (SeqAt.canLay_of_shaped hz.2) ry, hz.1, hz.2, ?_⟩)
      have h := q (.bl _) G H (Stp.refl g) (Rep.bl _)
      simpa using h
    · cases ef
  · split at ef
    · rename_i hz
      cases ef
      exact .inr (.inr ⟨d, _, rdr_dp g (SeqAt.canLay_of_shaped hz.1) rx, rdr_dp g (SeqAt.canLay_of_shaped hz.2) ry, hz.1, hz.2, q (.bl _) G H (Stp.refl g) (Rep.bl _)⟩)
    · cases ef
  · cases ef
theorem inF_ne {neg : Bool} : NoExc (inF neg) := fun d e x => by
  unfold inF
  split <;> (try split) <;> (intro h; cases h)
theorem notInF_ne : NoExc (inF true) := inF_ne
end
end DL
/-! DLs: what the denotations come to, for simp -/
namespace DL
open PySem L2
section
variable {m n : MS} {δ : DEnv} {i k : Nat} {me mf : ME} {ma mb mc : MD} {c e : MT} {f : PyData → PyData → Res Slot} {ml : ML}
@[simp] theorem mSeq_ap : mSeq m n δ = (match m δ with | .nx δ' => n δ' | o => o) := (rfl)
@[simp] theorem mNext_ap : mNext δ = .nx δ := (rfl)
@[simp] theorem mBk_ap : mBk δ = .bk δ := (rfl)
@[simp] theorem mCt_ap : mCt δ = .ct δ := (rfl)
@[simp] theorem mFrz_ap : mFrz i m δ = m (frz i δ) := (rfl)
@[simp] theorem mDrop_ap : mDrop me δ = (me δ).out δ fun _ => .nx δ := (rfl)
@[simp] theorem mRet_ap : mRet me δ = (me δ).out δ (retS δ) := (rfl)
@[simp] theorem retS_val {d : PyData} : retS δ (.val d) = .rt (.val d) δ := (rfl)
@[simp] theorem retS_own {d : PyData} : retS δ (.own d) = .rt (.own d) δ := (rfl)
@[simp] theorem retS_tr {t : T} : retS δ (.tr t) = .rt (.tr t) δ := (rfl)
@[simp] theorem mRetN_ap : mRetN i δ = (match δ[i]? with | some (some (.val d)) => .rt (.val d) δ | some (some (.own d)) => .rt (.own d) (δ.set i none) | some (some (.tr t)) => .rt (.tr t) (δ.set i none) | _ => .stuck) := (rfl)
@[simp] theorem mRet0_ap : mRet0 δ = .rt (.val .none) δ := (rfl)
@[simp] theorem mIf_ap : mIf c m n δ = (c δ).out δ fun b => if b = true then m δ else n δ := (rfl)
@[simp] theorem mAsg_ap : mAsg i me δ = (me δ).out δ (asgS i δ) := (rfl)
@[simp] theorem asgS_val {d : PyData} : asgS i δ (.val d) = .nx (δ.set i (some (.val d))) := (rfl)
@[simp] theorem asgS_own {d : PyData} : asgS i δ (.own d) = .nx (δ.set i (some (.own d))) := (rfl)
@[simp] theorem asgS_tr {t : T} : asgS i δ (.tr t) = .nx (δ.set i (some (.tr t))) := (rfl)
@[simp] theorem asgS_bor {d : PyData} : asgS i δ (.bor d) = .stuck := (rfl)
@[simp] theorem mRaise_ap {x : Exn} : mRaise x δ = .ex x δ := (rfl)
@[simp] theorem mVar_ap : mVar i δ = (match δ[i]? with | some (some (.val d)) => .ok (.val d) | some (some (.own d)) => .ok (.bor d) | some (some (.bor d)) => .ok (.bor d) | some (some (.tr t)) => .ok (.bt t) | some (some (.bt t)) => .ok (.bt t) | _ => .stuck) := (rfl)
@[simp] theorem mC_ap {d : PyData} : mC d δ = .ok (.val d) := (rfl)
@[simp] theorem mV_ap : mV me δ = (me δ).bind Slot.vl := (rfl)
@[simp] theorem mR_ap : mR me δ = (me δ).bind Slot.rd := (rfl)
@[simp] theorem mB_ap : mB f ma mb δ = (ma δ).bind fun d => (mb δ).bind fun e => f d e := (rfl)
@[simp] theorem mU_ap {g : PyData → Res Slot} : mU g ma δ = (ma δ).bind g := (rfl)
@[simp] theorem mTest_ap : mTest me δ = (me δ).bind Slot.bl := (rfl)
@[simp] theorem mAnd_ap : mAnd c e δ = (c δ).bind fun b => if b = true then e δ else .ok false := (rfl)
@[simp] theorem mOr_ap : mOr c e δ = (c δ).bind fun b => if b = true then .ok true else e δ := (rfl)
@[simp] theorem mNot_ap : mNot c δ = (c δ).bind fun b => .ok (!b) := (rfl)
@[simp] theorem mAndV_ap : mAndV me mf δ = (mTest me δ).bind fun b => if b = true then mf δ else .ok (.val (.bool false)) := (rfl)
@[simp] theorem mOrV_ap : mOrV me mf δ = (mTest me δ).bind fun b => if b = true then .ok (.val (.bool true)) else mf δ := (rfl)
@[simp] theorem mNotV_ap : mNotV me δ = (mTest me δ).bind fun b => .ok (.val (.bool (!b))) := (rfl)
@[simp] theorem mIte_ap : mIte c me mf δ = (c δ).bind fun b => if b = true then me δ else mf δ := (rfl)
@[simp] theorem mNil_ap : mNil δ = .ok [] := (rfl)
@[simp] theorem mCons_ap : mCons ma ml δ = (ma δ).bind fun d => (ml δ).bind fun ds => .ok (d :: ds) := (rfl)
@[simp] theorem mTup_ap : mTup ml δ = (ml δ).bind fun ds => if fits ds = true then .ok (.val (.tuple ds)) else .stuck := (rfl)
@[simp] theorem mLst_ap : mLst ml δ = (ml δ).bind fun ds => if fits ds = true then .ok (.own (.list ds)) else .stuck := (rfl)
@[simp] theorem mBi_ap {g : List PyData → Res Slot} : mBi g ml δ = (ml δ).bind g := (rfl)
@[simp] theorem mANil_ap : mANil δ = .ok [] := (rfl)
@[simp] theorem mACons_ap {ms : DEnv → Res (List Slot)} : mACons me ms δ = (me δ).bind fun s => s.arg.bind fun s => (ms δ).bind fun ss => .ok (s :: ss) := (rfl)
@[simp] theorem mCall_ap {g : F} {ms : DEnv → Res (List Slot)} : mCall g ms δ = (ms δ).bind g := (rfl)
@[simp] theorem mIsi_ap {T : String} : mIsi T ma δ = (ma δ).bind (isiF T) := (rfl)
@[simp] theorem mO0_ap : mO0 δ = .ok none := (rfl)
@[simp] theorem mO_ap : mO ma δ = (ma δ).bind asI := (rfl)
@[simp] theorem asI_int {j : Int} : asI (.int j) = .ok (some j) := (rfl)
@[simp] theorem mSl_ap {l h : DEnv → Res (Option Int)} : mSl ma l h δ = (ma δ).bind fun d => (l δ).bind fun lo => (h δ).bind fun hi => slF d lo hi := (rfl)
@[simp] theorem mFor_ap {g : MG} : mFor g ml m δ = (ml δ).out δ fun ds => loopO g m ds δ := (rfl)
@[simp] theorem mRng1_ap : mRng1 ml δ = (ml δ).bind rng1 := (rfl)
@[simp] theorem mRng2_ap : mRng2 ml δ = (ml δ).bind rng2 := (rfl)
@[simp] theorem miL_ap : miL ma δ = (ma δ).bind asList := (rfl)
@[simp] theorem miT_ap : miT ma δ = (ma δ).bind asTuple := (rfl)
@[simp] theorem mDict0_ap : mDict0 δ = .ok (.own (.dict [])) := (rfl)
@[simp] theorem mChain_ap {g : PyData → PyData → Res Slot} : mChain f g ma mb mc δ = (ma δ).bind fun x => (mb δ).bind fun y => (f x y).bind fun s => s.bl.bind fun k => if k = true then (mc δ).bind fun z => g y z else .ok (.val (.bool false)) := (rfl)
end
end DL
namespace DL
open PySem L2
section
variable {α β : Type} {a : α} {x : Exn} {g : α → Res β} {h : α → Out} {δ : DEnv} {i : Nat} {d : PyData}
@[simp] theorem bind_ok' : (Res.ok a).bind g = g a := (rfl)
@[simp] theorem bind_exc' : (Res.exc x : Res α).bind g = .exc x := (rfl)
@[simp] theorem bind_stuck' : (Res.stuck : Res α).bind g = .stuck := (rfl)
@[simp] theorem out_ok' : (Res.ok a).out δ h = h a := (rfl)
@[simp] theorem out_exc' : (Res.exc x : Res α).out δ h = .ex x δ := (rfl)
@[simp] theorem out_stuck' : (Res.stuck : Res α).out δ h = .stuck := (rfl)
@[simp] theorem vl_val : (Slot.val d).vl = .ok d := (rfl)
@[simp] theorem vl_own : (Slot.own d).vl = .ok d := (rfl)
@[simp] theorem vl_bor : (Slot.bor d).vl = .stuck := (rfl)
@[simp] theorem rd_val : (Slot.val d).rd = .ok d := (rfl)
@[simp] theorem rd_own : (Slot.own d).rd = .ok d := (rfl)
@[simp] theorem rd_bor : (Slot.bor d).rd = .ok d := (rfl)
@[simp] theorem arg_val : (Slot.val d).arg = .ok (.val d) := (rfl)
@[simp] theorem arg_own : (Slot.own d).arg = .ok (.val d) := (rfl)
@[simp] theorem arg_bt {t : T} : (Slot.bt t).arg = .ok (.bt t) := (rfl)
@[simp] theorem arg_bor : (Slot.bor d).arg = .ok (.bor d) := (rfl)
@[simp] theorem bl_bool {b : Bool} : (Slot.val (.bool b)).bl = .ok b := (rfl)
@[simp] theorem okV_eq : okV d = .ok (.val d) := (rfl)
@[simp] theorem okI_eq {j : Int} : okI j = .ok (.val (.int j)) := (rfl)
@[simp] theorem okB_eq {b : Bool} : okB b = .ok (.val (.bool b)) := (rfl)
@[simp] theorem res_rt {s : Slot} : (Out.rt s δ).res = .ok s := (rfl)
@[simp] theorem res_nx : (Out.nx δ).res = .ok (.val .none) := (rfl)
@[simp] theorem res_ex : (Out.ex x δ).res = .exc x := (rfl)
@[simp] theorem addF_int {a b : Int} : addF (.int a) (.int b) = .ok (.val (.int (a + b))) := (rfl)
@[simp] theorem subF_int {a b : Int} : subF (.int a) (.int b) = .ok (.val (.int (a - b))) := (rfl)
@[simp] theorem cmpF_int {a b : Int} {p : Int → Int → Bool} : cmpF p (.int a) (.int b) = .ok (.val (.bool (p a b))) := (rfl)
theorem shaped_int (a : Int) : SeqAt.shaped (.int a) = true := by
  unfold SeqAt.shaped
  simp [PyData.canLay0, PyData.depth]
theorem shaped_bool (a : Bool) : SeqAt.shaped (.bool a) = true := by
  unfold SeqAt.shaped
  simp [PyData.canLay0, PyData.depth]
theorem shaped_none : SeqAt.shaped .none = true := by
  unfold SeqAt.shaped
  simp [PyData.canLay0, PyData.depth]
@[simp] theorem eqF_int {a b : Int} : eqF (.int a) (.int b) = .ok (.val (.bool (a == b))) := by
  unfold eqF
  rw [if_pos ⟨shaped_int a, shaped_int b⟩]
  rfl
@[simp] theorem neF_int {a b : Int} : neF (.int a) (.int b) = .ok (.val (.bool (!(a == b)))) := by
  unfold neF
  rw [if_pos ⟨shaped_int a, shaped_int b⟩]
  rfl
@[simp] theorem isF_bool {neg a b : Bool} : isF neg (.bool a) (.bool b) = .ok (.val (.bool (neg != decide (a = b)))) := (rfl)
/-- // and % by a positive number -/
theorem divF_pos {a b : Int} (hb : 0 < b) (h : b.natAbs.log2 < 9000) : divF (.int a) (.int b) = .ok (.val (.int (a / b))) := by
  have hc : CDivA a b := ⟨by omega, PyProof.noPylong_of_log2 h⟩
  show (if CDivA a b then okI (a.fdiv b) else .stuck) = _
  rw [if_pos hc, Int.fdiv_eq_ediv_of_nonneg a (by omega)]
  rfl
theorem modF_pos {a b : Int} (hb : 0 < b) : modF (.int a) (.int b) = .ok (.val (.int (a % b))) := by
  show (if b ≠ 0 then okI (a.fmod b) else .stuck) = _
  rw [if_pos (by omega), Int.fmod_eq_emod_of_nonneg a (by omega)]
  rfl
theorem mulF_ok' {a b : Int} (h : IntMulOk a b) : mulF (.int a) (.int b) = .ok (.val (.int (a * b))) := by
  show (if IntMulOk a b then okI (a * b) else .stuck) = _
  rw [if_pos h]
  rfl
theorem log2_lt {n k : Nat} (hk : 0 < k) (h : n < 2 ^ k) : n.log2 < k := by
  by_cases h0 : n = 0
  · subst h0; simpa using hk
  · exact (Nat.log2_lt h0).mpr h
/-- products of numbers below 2 ^ (2 ^ 26) in all -/
theorem mulOk_pow {a b : Int} {k l : Nat} (hk : 0 < k) (hl : 0 < l) (ha : a.natAbs < 2 ^ k) (hb : b.natAbs < 2 ^ l) (h : k + l ≤ 134217000) : IntMulOk a b := by
  have w : ∀ x : Int, Builtin.Int.intBits x ≤ x.natAbs.log2 + 1 := fun x => by
    unfold Builtin.Int.intBits
    split <;> omega
  have h1 := w a
  have h2 := w b
  have h3 := log2_lt hk ha
  have h4 := log2_lt hl hb
  have e : bitsLine = 134217728 := by decide
  unfold IntMulOk
  intro z
  rw [Bool.and_eq_true] at z
  have z2 := z.2
  unfold Builtin.Int.intTooBig at z2
  have z3 := of_decide_eq_true z2
  rw [e] at z3
  omega
/-- one factor below 2 ^ 64 -/
theorem mulOk_small {a b : Int} (h : (-(2 ^ 64) < a ∧ a < 2 ^ 64) ∨ (-(2 ^ 64) < b ∧ b < 2 ^ 64)) : IntMulOk a b := by
  rcases h with h | h
  · exact .of_left (intBits_le_64 h.1 h.2)
  · exact .of_right (intBits_le_64 h.1 h.2)
@[simp] theorem divF_lit {a b : Int} (hb : 0 < b) (h : b < 18446744073709551616) : divF (.int a) (.int b) = .ok (.val (.int (a / b))) := divF_pos hb (Nat.lt_trans (log2_lt (k := 64) (by decide) (by omega)) (by decide))
@[simp] theorem modF_lit {a b : Int} (hb : 0 < b) : modF (.int a) (.int b) = .ok (.val (.int (a % b))) := modF_pos hb
@[simp] theorem mulF_litr {a b : Int} (h1 : -18446744073709551616 < b) (h2 : b < 18446744073709551616) : mulF (.int a) (.int b) = .ok (.val (.int (a * b))) := mulF_ok' (mulOk_small (.inr ⟨by omega, by omega⟩))
@[simp] theorem mulF_litl {a b : Int} (h1 : -18446744073709551616 < a) (h2 : a < 18446744073709551616) : mulF (.int a) (.int b) = .ok (.val (.int (a * b))) := mulF_ok' (mulOk_small (.inl ⟨by omega, by omega⟩))
@[simp] theorem powF_lit {a b : Int} (h0 : 0 ≤ b) (h1 : b ≤ 1000000) (h2 : a.natAbs < 18446744073709551616) : powF (.int a) (.int b) = .ok (.val (.int (a ^ b.toNat))) := by
  show (if CPow a b then okI (a ^ b.toNat) else .stuck) = _
  rw [if_pos ⟨h0, h1, by omega⟩]
  rfl
@[simp] theorem ixF_list {ds : List PyData} {j : Int} : ixF (.list ds) (.int j) = (match atI ds j with | some d => .ok (.val d) | none => .stuck) := (rfl)
@[simp] theorem ixF_tup {ds : List PyData} {j : Int} : ixF (.tuple ds) (.int j) = (match atI ds j with | some d => .ok (.val d) | none => .stuck) := (rfl)
@[simp] theorem atI_0 {α : Type} {x : α} {xs : List α} : atI (x :: xs) 0 = some x := by simp [atI, ixN]
@[simp] theorem atI_1 {α : Type} {x y : α} {xs : List α} : atI (x :: y :: xs) 1 = some y := by
  have h : (1 : Int) < (xs.length : Int) + 1 + 1 := by omega
  simp [atI, ixN, h]
theorem atI_of {α : Type} {xs : List α} {j : Nat} (h : j < xs.length) : atI xs (j : Int) = some xs[j] := L2.atI_nat (List.getElem?_eq_getElem h)
theorem atI_mem {α : Type} {xs : List α} {j : Int} (h0 : 0 ≤ j) (h : j < xs.length) : ∃ x ∈ xs, atI xs j = some x := by
  obtain ⟨n, rfl⟩ : ∃ n : Nat, j = (n : Int) := ⟨j.toNat, by omega⟩
  exact ⟨xs[n], List.getElem_mem (by omega), atI_of (by omega)⟩
@[simp] theorem fits_nil : fits ([] : List PyData) = true := by decide
theorem fits_of {α : Type} {xs : List α} (h : xs.length ≤ 10000) : fits xs = true := decide_eq_true (Nat.le_trans h (by decide))
@[simp] theorem lenF_list {ds : List PyData} : lenF [.list ds] = .ok (.val (.int (ds.length : Int))) := (rfl)
@[simp] theorem lenF_tup {ds : List PyData} : lenF [.tuple ds] = .ok (.val (.int (ds.length : Int))) := (rfl)
@[simp] theorem absF_int {a : Int} : absF [.int a] = .ok (.val (.int (if a < 0 then -a else a))) := (rfl)
@[simp] theorem isiF_eq {T : String} {d : PyData} : isiF T d = (match kitB (tyD d) T with | some b => .ok (.val (.bool b)) | none => .stuck) := (rfl)
@[simp] theorem ty_none : tyD .none = "NoneType" := (rfl)
@[simp] theorem ty_bool {b : Bool} : tyD (.bool b) = "bool" := (rfl)
@[simp] theorem ty_int {b : Int} : tyD (.int b) = "int" := (rfl)
@[simp] theorem ty_str {b : Str} : tyD (.str b) = "str" := (rfl)
@[simp] theorem ty_list {b : List PyData} : tyD (.list b) = "list" := (rfl)
@[simp] theorem ty_tup {b : List PyData} : tyD (.tuple b) = "tuple" := (rfl)
@[simp] theorem ty_dict {b : List (PyData × PyData)} : tyD (.dict b) = "dict" := (rfl)
@[simp] theorem kit_int_int : kitB "int" "int" = some true := by decide +kernel
@[simp] theorem kit_bool_int : kitB "bool" "int" = some true := by decide +kernel
@[simp] theorem kit_none_int : kitB "NoneType" "int" = some false := by decide +kernel
@[simp] theorem kit_str_int : kitB "str" "int" = some false := by decide +kernel
@[simp] theorem kit_list_int : kitB "list" "int" = some false := by decide +kernel
@[simp] theorem kit_tup_int : kitB "tuple" "int" = some false := by decide +kernel
@[simp] theorem kit_dict_int : kitB "dict" "int" = some false := by decide +kernel
@[simp] theorem kit_int_bool : kitB "int" "bool" = some false := by decide +kernel
@[simp] theorem kit_bool_bool : kitB "bool" "bool" = some true := by decide +kernel
@[simp] theorem kit_none_bool : kitB "NoneType" "bool" = some false := by decide +kernel
@[simp] theorem kit_tup_bool : kitB "tuple" "bool" = some false := by decide +kernel
@[simp] theorem kit_str_bool : kitB "str" "bool" = some false := by decide +kernel
@[simp] theorem kit_list_bool : kitB "list" "bool" = some false := by decide +kernel
@[simp] theorem kit_dict_bool : kitB "dict" "bool" = some false := by decide +kernel
@[simp] theorem kit_tup_tup : kitB "tuple" "tuple" = some true := by decide +kernel
@[simp] theorem kit_int_tup : kitB "int" "tuple" = some false := by decide +kernel
@[simp] theorem kit_bool_tup : kitB "bool" "tuple" = some false := by decide +kernel
@[simp] theorem kit_none_tup : kitB "NoneType" "tuple" = some false := by decide +kernel
@[simp] theorem kit_str_tup : kitB "str" "tuple" = some false := by decide +kernel
@[simp] theorem kit_list_tup : kitB "list" "tuple" = some false := by decide +kernel
@[simp] theorem kit_dict_tup : kitB "dict" "tuple" = some false := by decide +kernel
@[simp] theorem kit_str_str : kitB "str" "str" = some true := by decide +kernel
@[simp] theorem kit_int_str : kitB "int" "str" = some false := by decide +kernel
@[simp] theorem kit_bool_str : kitB "bool" "str" = some false := by decide +kernel
@[simp] theorem kit_none_str : kitB "NoneType" "str" = some false := by decide +kernel
@[simp] theorem kit_tup_str : kitB "tuple" "str" = some false := by decide +kernel
@[simp] theorem kit_list_str : kitB "list" "str" = some false := by decide +kernel
@[simp] theorem kit_dict_str : kitB "dict" "str" = some false := by decide +kernel
@[simp] theorem kit_dict_dict : kitB "dict" "dict" = some true := by decide +kernel
@[simp] theorem kit_int_dict : kitB "int" "dict" = some false := by decide +kernel
@[simp] theorem kit_bool_dict : kitB "bool" "dict" = some false := by decide +kernel
@[simp] theorem kit_none_dict : kitB "NoneType" "dict" = some false := by decide +kernel
@[simp] theorem kit_tup_dict : kitB "tuple" "dict" = some false := by decide +kernel
@[simp] theorem kit_list_dict : kitB "list" "dict" = some false := by decide +kernel
@[simp] theorem kit_str_dict : kitB "str" "dict" = some false := by decide +kernel
@[simp] theorem kit_list_list : kitB "list" "list" = some true := by decide +kernel
@[simp] theorem kit_int_list : kitB "int" "list" = some false := by decide +kernel
@[simp] theorem kit_bool_list : kitB "bool" "list" = some false := by decide +kernel
@[simp] theorem kit_none_list : kitB "NoneType" "list" = some false := by decide +kernel
@[simp] theorem kit_tup_list : kitB "tuple" "list" = some false := by decide +kernel
@[simp] theorem kit_dict_list : kitB "dict" "list" = some false := by decide +kernel
@[simp] theorem kit_str_list : kitB "str" "list" = some false := by decide +kernel
end
section
variable {δ : DEnv} {i : Nat} {c : EC}
@[simp] theorem isSub_DuelError : isSub c .DuelError = true := by cases c <;> rfl
@[simp] theorem isSub_NoNumber : isSub c .NoNumber = decide (c = .NoNumber) := (rfl)
@[simp] theorem isSub_NoText : isSub c .NoText = decide (c = .NoText) := (rfl)
@[simp] theorem isSub_TooGreat : isSub c .TooGreat = decide (c = .TooGreat) := (rfl)
@[simp] theorem isSub_NoPlan : isSub c .NoPlan = decide (c = .NoPlan) := (rfl)
@[simp] theorem isSub_NoWord : isSub c .NoWord = decide (c = .NoWord) := (rfl)
@[simp] theorem isSub_NoPlace : isSub c .NoPlace = decide (c = .NoPlace) := (rfl)
@[simp] theorem isSub_NoName : isSub c .NoName = decide (c = .NoName) := (rfl)
@[simp] theorem isSub_NoRow : isSub c .NoRow = decide (c = .NoRow) := (rfl)
@[simp] theorem isSub_NoShares : isSub c .NoShares = decide (c = .NoShares) := (rfl)
@[simp] theorem isSub_Unlike : isSub c .Unlike = decide (c = .Unlike) := (rfl)
@[simp] theorem isSub_Forgets : isSub c .Forgets = decide (c = .Forgets) := (rfl)
@[simp] theorem mIsE_ap : mIsE i c δ = (match δ[i]? with | some (some (.exn x)) => .ok (.val (.bool (isSub x.c c))) | _ => .stuck) := (rfl)
@[simp] theorem mIsEV_ap : mIsEV i δ = (match δ[i]? with | some (some (.exn _)) => .ok (.val (.bool true)) | _ => .stuck) := (rfl)
@[simp] theorem fits_simp {α : Type} {xs : List α} (h : xs.length ≤ 10000) : fits xs = true := fits_of h
@[simp] theorem addF_list {x y : List PyData} (h : x.length + y.length ≤ 10000) : addF (.list x) (.list y) = .ok (.own (.list (x ++ y))) := if_pos (Nat.le_trans h (by decide))
@[simp] theorem addF_tup {x y : List PyData} (h : x.length + y.length ≤ 10000) : addF (.tuple x) (.tuple y) = .ok (.val (.tuple (x ++ y))) := if_pos (Nat.le_trans h (by decide))
@[simp] theorem addF_str {x y : Str} (h : x.length + y.length ≤ 10000) : addF (.str x) (.str y) = .ok (.val (.str (x ++ y))) := if_pos (Nat.le_trans h (by decide))
@[simp] theorem slF_list {ds : List PyData} {lo hi : Option Int} : slF (.list ds) lo hi = .ok (.own (.list (cutD ds lo hi))) := (rfl)
@[simp] theorem slF_tup {ds : List PyData} {lo hi : Option Int} : slF (.tuple ds) lo hi = .ok (.val (.tuple (cutD ds lo hi))) := (rfl)
@[simp] theorem dropX_nx : dropX i (.nx δ) = .nx ((clearX δ).set i none) := (rfl)
@[simp] theorem clearX_nil : clearX [] = [] := (rfl)
@[simp] theorem clearX_cons {o : Option Slot} : clearX (o :: δ) = Slot.noX o :: clearX δ := (rfl)
@[simp] theorem noX_none : Slot.noX none = none := (rfl)
@[simp] theorem noX_val {d : PyData} : Slot.noX (some (.val d)) = some (.val d) := (rfl)
@[simp] theorem noX_own {d : PyData} : Slot.noX (some (.own d)) = some (.own d) := (rfl)
@[simp] theorem noX_bor {d : PyData} : Slot.noX (some (.bor d)) = some (.bor d) := (rfl)
@[simp] theorem noX_tr {t : T} : Slot.noX (some (.tr t)) = some (.tr t) := (rfl)
@[simp] theorem noX_bt {t : T} : Slot.noX (some (.bt t)) = some (.bt t) := (rfl)
@[simp] theorem dropX_rt {s : Slot} : dropX i (.rt s δ) = .rt s (clearX δ) := (rfl)
@[simp] theorem noX_exn {x : Exn} : Slot.noX (some (.exn x)) = none := (rfl)
end
/-! ### loops -/
/-- a for that goes through -/
theorem loop_all {g : MG} {b : MS} (Inv : DEnv → Prop) : ∀ {ds : List PyData} {δ : DEnv}, (∀ d ∈ ds, ∀ δ, Inv δ → ∃ δ1 δ2, g d δ = some δ1 ∧ b δ1 = .nx δ2 ∧ Inv δ2) → Inv δ → ∃ δ', loopO g b ds δ = .nx δ' ∧ Inv δ'
  | [], δ, _, h0 => ⟨δ, rfl, h0⟩
  | d :: ds, δ, h, h0 => by
    obtain ⟨δ1, δ2, e1, e2, h2⟩ := h d List.mem_cons_self δ h0
    obtain ⟨δ', e3, h3⟩ := loop_all Inv (ds := ds) (δ := δ2) (fun d hd => h d (List.mem_cons_of_mem _ hd)) h2
    exact ⟨δ', by unfold loopO; rw [e1]; simp only; rw [e2]; exact e3, h3⟩
theorem seq_nx {m n : MS} {δ δ' : DEnv} (h : m δ = .nx δ') : mSeq m n δ = n δ' := by
  show (match m δ with | .nx δ' => n δ' | o => o) = _
  rw [h]
theorem seq_rt {m n : MS} {δ δ' : DEnv} {s : Slot} (h : m δ = .rt s δ') : mSeq m n δ = .rt s δ' := by
  show (match m δ with | .nx δ' => n δ' | o => o) = _
  rw [h]
theorem seq_ex {m n : MS} {δ δ' : DEnv} {x : Exn} (h : m δ = .ex x δ') : mSeq m n δ = .ex x δ' := by
  show (match m δ with | .nx δ' => n δ' | o => o) = _
  rw [h]
theorem for_nx {g : MG} {it : ML} {b : MS} (Inv : DEnv → Prop) {ds : List PyData} {δ : DEnv} (hit : it δ = .ok ds) (h : ∀ d ∈ ds, ∀ δ, Inv δ → ∃ δ1 δ2, g d δ = some δ1 ∧ b δ1 = .nx δ2 ∧ Inv δ2) (h0 : Inv δ) : ∃ δ', mFor g it b δ = .nx δ' ∧ Inv δ' := by
  obtain ⟨δ', e, h'⟩ := loop_all Inv h h0
  refine ⟨δ', ?_, h'⟩
  show (it δ).out δ _ = _
  rw [hit]
  exact e
theorem seq_for {g : MG} {it : ML} {b n : MS} (Inv : DEnv → Prop) {ds : List PyData} {δ : DEnv} {o : Out} (hit : it δ = .ok ds) (h : ∀ d ∈ ds, ∀ δ, Inv δ → ∃ δ1 δ2, g d δ = some δ1 ∧ b δ1 = .nx δ2 ∧ Inv δ2) (h0 : Inv δ) (k : ∀ δ', Inv δ' → n δ' = o) : mSeq (mFor g it b) n δ = o := by
  obtain ⟨δ', e, h'⟩ := for_nx Inv hit h h0
  rw [seq_nx e]
  exact k δ' h'
theorem mem_rng {lo : Int} {n : Nat} {d : PyData} (h : d ∈ rng lo n) : ∃ i : Nat, i < n ∧ d = .int (lo + (i : Int)) := by
  simp only [rng, List.mem_map, List.mem_range] at h
  obtain ⟨i, hi, e⟩ := h
  exact ⟨i, hi, e.symm⟩
theorem rng1_of {n : Int} (h : small62 n = true) : rng1 [.int n] = .ok (rng 0 n.toNat) := if_pos h
theorem small_of {n : Int} (h0 : -1000000 ≤ n) (h : n ≤ 1000000) : small62 n = true := small62_iff.2 ⟨by omega, by omega⟩
@[simp] theorem rng1_simp {n : Nat} (h : n ≤ 1000000) : rng1 [.int (n : Int)] = .ok (rng 0 n) := by
  rw [rng1_of (small_of (by omega) (by omega))]
  simp
theorem cutD_to {ds : List PyData} {n : Int} (h : 0 ≤ n) : cutD ds none (some n) = ds.take n.toNat := by
  have e : HT.sIx ds.length ds.length (some n) = min n.toNat ds.length := by
    unfold HT.sIx
    simp only
    rw [if_neg (by omega)]
  unfold cutD
  rw [e, HT.sIx_none, Nat.sub_zero, List.drop_zero]
  rcases Nat.le_total n.toNat ds.length with q | q
  · rw [Nat.min_eq_left q]
  · rw [Nat.min_eq_right q, List.take_length, List.take_of_length_le q]
theorem cutD_from {ds : List PyData} {n : Int} (h : 0 ≤ n) : cutD ds (some n) none = ds.drop n.toNat := by
  have e : HT.sIx ds.length 0 (some n) = min n.toNat ds.length := by
    unfold HT.sIx
    simp only
    rw [if_neg (by omega)]
  unfold cutD
  rw [e, HT.sIx_none]
  rcases Nat.le_total n.toNat ds.length with q | q
  · rw [Nat.min_eq_left q, ← List.length_drop, List.take_length]
  · rw [Nat.min_eq_right q, List.drop_length, List.drop_of_length_le q, List.take_nil]
theorem seq_seq {m n k : MS} {δ : DEnv} : mSeq m (mSeq n k) δ = mSeq (mSeq m n) k δ := by
  show (match m δ with | .nx δ' => mSeq n k δ' | o => o) = (match (match m δ with | .nx δ' => n δ' | o => o) with | .nx δ' => k δ' | o => o)
  cases m δ <;> rfl
theorem seq_st {m n : MS} {δ δ' : DEnv} {o : Out} (h : m δ = .nx δ') (k : n δ' = o) : mSeq m n δ = o := (seq_nx h).trans k
@[simp] theorem miQ_ap {ma : MD} {δ : DEnv} : miQ ma δ = (ma δ).bind seqOf := (rfl)
@[simp] theorem seqOf_list {ds : List PyData} : seqOf (.list ds) = .ok ds := (rfl)
@[simp] theorem seqOf_tup {ds : List PyData} : seqOf (.tuple ds) = .ok ds := (rfl)
@[simp] theorem loopO_nil {g : MG} {b : MS} {δ : DEnv} : loopO g b [] δ = .nx δ := (rfl)
@[simp] theorem loopO_cons {g : MG} {b : MS} {d : PyData} {ds : List PyData} {δ : DEnv} : loopO g b (d :: ds) δ = (match g d δ with
    | none => .stuck
    | some δ1 => match b δ1 with
      | .nx δ2 => loopO g b ds δ2
      | .ct δ2 => loopO g b ds δ2
      | .bk δ2 => .nx δ2
      | o => o) := (rfl)
@[simp] theorem mgN_ap {i : Nat} {d : PyData} {δ : DEnv} : mgN i d δ = some (δ.set i (some (.val d))) := (rfl)
@[simp] theorem miV_ap {i : Nat} {δ : DEnv} : miV i δ = (match δ[i]? with
  | some (some (.val d)) => seqOf d
  | some (some (.bor (.list ds))) => .ok ds
  | _ => .stuck) := (rfl)
@[simp] theorem mApp_ap {i : Nat} {m : MD} {δ : DEnv} : mApp i m δ = (match δ[i]? with
  | some (some (.own (.list ds))) => if ds.length < sizeLine then (m δ).out δ fun d => .nx (δ.set i (some (.own (.list (ds ++ [d]))))) else .stuck
  | _ => .stuck) := (rfl)
@[simp] theorem revF_list {ds : List PyData} : revF (.list ds) = .ok (.own (.list ds.reverse)) := (rfl)
@[simp] theorem listF_list {ds : List PyData} : listF [.list ds] = .ok (.own (.list ds)) := (rfl)
@[simp] theorem listF_tup {ds : List PyData} : listF [.tuple ds] = .ok (.own (.list ds)) := (rfl)
theorem lt_sizeLine {n : Nat} (h : n ≤ 10000) : n < sizeLine := Nat.lt_of_le_of_lt h (by decide)
@[simp] theorem mYes_ap {δ : DEnv} : mYes δ = .ok true := (rfl)
@[simp] theorem mComp_ap {vs : List Nat} {g : MG} {it : ML} {c : MT} {m : MD} {δ : DEnv} : mComp vs g it c m δ = (it δ).bind fun ds => if fits ds = true then (compR g c m (wipeD δ vs) ds).bind fun ys => .ok (.own (.list ys)) else .stuck := (rfl)
theorem compR_map {α : Type} {g : MG} {c : MT} {m : MD} {δ : DEnv} {f h : α → PyData} : ∀ {xs : List α}, (∀ x ∈ xs, ∃ δ1, g (f x) δ = some δ1 ∧ c δ1 = .ok true ∧ m δ1 = .ok (h x)) → compR g c m δ (xs.map f) = .ok (xs.map h)
  | [], _ => rfl
  | x :: xs, H => by
    obtain ⟨δ1, e1, e2, e3⟩ := H x List.mem_cons_self
    rw [List.map_cons, compR, e1]
    simp only [e2, e3]
    rw [compR_map (xs := xs) fun y hy => H y (List.mem_cons_of_mem _ hy)]
    rfl
@[simp] theorem wipeD_nil {δ : DEnv} : wipeD δ [] = δ := (rfl)
@[simp] theorem wipeD_cons {δ : DEnv} {v : Nat} {vs : List Nat} : wipeD δ (v :: vs) = (wipeD δ vs).set v none := (rfl)
theorem shaped_str {x : Str} (h : PyData.strOk x = true) : SeqAt.shaped (.str x) = true := by
  unfold SeqAt.shaped
  simp [PyData.canLay0, PyData.depth, h]
@[simp] theorem eqF_bool {a b : Bool} : eqF (.bool a) (.bool b) = .ok (.val (.bool (a == b))) := by
  unfold eqF
  rw [if_pos ⟨shaped_bool a, shaped_bool b⟩]
  rfl
@[simp] theorem neF_bool {a b : Bool} : neF (.bool a) (.bool b) = .ok (.val (.bool (!(a == b)))) := by
  unfold neF
  rw [if_pos ⟨shaped_bool a, shaped_bool b⟩]
  rfl
@[simp] theorem eqF_str {a b : Str} (ha : PyData.strOk a = true) (hb : PyData.strOk b = true) : eqF (.str a) (.str b) = .ok (.val (.bool (a == b))) := by
  unfold eqF
  rw [if_pos ⟨shaped_str ha, shaped_str hb⟩]
  rfl
@[simp] theorem neF_str {a b : Str} (ha : PyData.strOk a = true) (hb : PyData.strOk b = true) : neF (.str a) (.str b) = .ok (.val (.bool (!(a == b)))) := by
  unfold neF
  rw [if_pos ⟨shaped_str ha, shaped_str hb⟩]
  rfl
theorem eqF_of {d e : PyData} (h : SeqAt.shaped d = true) (h' : SeqAt.shaped e = true) : eqF d e = .ok (.val (.bool (PyData.eqv d e))) := if_pos ⟨h, h'⟩
theorem neF_of {d e : PyData} (h : SeqAt.shaped d = true) (h' : SeqAt.shaped e = true) : neF d e = .ok (.val (.bool (!PyData.eqv d e))) := if_pos ⟨h, h'⟩
theorem eqF_self {d : PyData} (h : SeqAt.shaped d = true) : eqF d d = .ok (.val (.bool true)) := by
  rw [eqF_of h h, SeqAt.eqv_refl d (by simp only [SeqAt.shaped, Bool.and_eq_true] at h; exact h.1)]
theorem neF_self {d : PyData} (h : SeqAt.shaped d = true) : neF d d = .ok (.val (.bool false)) := by
  rw [neF_of h h, SeqAt.eqv_refl d (by simp only [SeqAt.shaped, Bool.and_eq_true] at h; exact h.1)]
  rfl
theorem for_in {g g0 : MG} {it : ML} {b : MS} {P : DEnv → Prop} (Inv : DEnv → Prop) {ds : List PyData} {d : PyData} {δ0 δ1 : DEnv} (eg : g0 d δ0 = some δ1) (hit : it δ1 = .ok ds) (h : ∀ d ∈ ds, ∀ δ, Inv δ → ∃ δ1 δ2, g d δ = some δ1 ∧ b δ1 = .nx δ2 ∧ Inv δ2) (h0 : Inv δ1) (hP : ∀ δ', Inv δ' → P δ') : ∃ δ1 δ2, g0 d δ0 = some δ1 ∧ mFor g it b δ1 = .nx δ2 ∧ P δ2 := by
  obtain ⟨δ', e, h'⟩ := for_nx Inv hit h h0
  exact ⟨δ1, δ', eg, e, hP δ' h'⟩
end DL
/-! DLt: texts -/
namespace DL
open PySem L2
section
variable {X : Cx} {a : Ax} {W : WX} {e o : Expr} {es : List Expr} {pos apos : Pos}
/-- o.name(e) of a text -/
def mM1 (f : PyData → PyData → Res Slot) (mo me : MD) : ME := fun δ => (mo δ).bind fun d => match d with
  | .str z => (me δ).bind fun e => f (.str z) e
  | _ => .stuck
theorem snd_m1 {C : Cn} {r : V → List V → Hp → VK → Prop} {f : PyData → PyData → Res Slot} (hf : OpS C.K (fun x y H Q => r x [y] H Q) f) (hn : NoExc f) {ta tb : TE} {ma mb : MD} (ha : Snd C W (relD C.K) ta ma) (hb : Snd C W (relD C.K) tb mb) : Snd C W (relE C.K) (tM1 r ta tb) (mM1 f ma mb) := by
  refine snd_bind (rel1 := relD C.K) (rel2 := relE C.K) downE ha (t2 := fun x σ H Q => (∃ a, x = .str a) ∧ tb σ H fun y H2 => r x [y] H2 Q) (m2 := fun d δ => match d with
    | .str z => (mb δ).bind fun e => f (.str z) e
    | _ => .stuck) ?_
  intro d x B G0 G H σ δ H0 S rd Q hq
  cases d with
  | str z =>
    cases rdr_str rd
    refine ⟨⟨_, rfl⟩, hb B G0 G H σ δ S _ ?_⟩
    have hq' : ROk C W σ G H (relE C.K H) ((mb δ).bind fun e => f (.str z) e) Q := hq
    generalize mb δ = rb at hq'
    cases rb with
    | stuck => exact hq'.elim
    | exc z => exact hq'
    | ok e =>
      intro y G' H' st ry
      have hq2 : ROk C W σ G H (relE C.K H) (f (.str z) e) Q := hq'
      cases ef : f (.str z) e with
      | stuck => rw [ef] at hq2; exact hq2.elim
      | exc z => exact (hn _ e z ef).elim
      | ok s =>
        rw [ef] at hq2
        exact hf G' H' _ y _ e s Q st.gh (rd.mono st.g st.h) ry ef fun v G2 H2 s2 rv => hq2 v G2 H2 (st.trans s2) (rv.mono0 st.h)
  | none => exact (show False from hq).elim
  | bool _ => exact (show False from hq).elim
  | int _ => exact (show False from hq).elim
  | list _ => exact (show False from hq).elim
  | tuple _ => exact (show False from hq).elim
  | dict _ => exact (show False from hq).elim
/-- startswith -/
def startsF : PyData → PyData → Res Slot
  | .str a, .str b => okB (Txt.startswith a b)
  | _, _ => .stuck
theorem startsF_ne : NoExc startsF := fun d e x => by unfold startsF; split <;> (intro h; cases h)
theorem startsF_ok {K : Kw} : OpS K (fun x y H Q => ∃ a b, x = .str a ∧ [y] = [.str b] ∧ Q (.bl (Txt.startswith a b)) H) startsF := by
  intro G H x y d e s Q g rx ry ef q
  unfold startsF at ef
  split at ef
  · cases ef
    cases rdr_str rx; cases rdr_str ry
    exact ⟨_, _, rfl, rfl, q _ G H (Stp.refl g) (Rep.bl _)⟩
  · cases ef
theorem de_starts {ma mb : MD} (ha : DR X a W o ma) (hb : DR X a W e mb) (hs : starEach [e] X.env = [(false, eval e X.env)] := by rfl) (hbase : attributeBase o "startswith" X.env (eval o X.env) = eval o X.env := by rfl) (hline : (apos.endLine == pos.line) = true := by rfl) :
    DE X a W (.Call (.Attribute o "startswith" apos) [e] [] pos) (mM1 startsF ma mb) :=
  let ⟨_, pa, sa⟩ := ha; let ⟨_, pb, sb⟩ := hb; ⟨_, pe_m1 F.slot_str_startswith F.type_str_startswith mt_startswith pa pb hs hbase hline, snd_m1 (C := cn X a) startsF_ok startsF_ne sa sb⟩
/-- split -/
def splitF : PyData → PyData → Res Slot
  | .str a, .str b => if (b.length == 0) = false ∧ a.length ≤ 10000 then .ok (.own (.list ((Txt.split a b).map PyData.str))) else .stuck
  | _, _ => .stuck
theorem splitF_ne : NoExc splitF := fun d e x => by unfold splitF; split <;> (try split) <;> (intro h; cases h)
theorem repL_strs {K : Kw} {G : Hp} : ∀ ys : List Str, RepL K G (ys.map V.str) (ys.map PyData.str)
  | [] => .nil
  | y :: ys => .cons (.str _) (repL_strs ys)
theorem splitF_ok {K : Kw} : OpS K (fun x y H Q => ∃ a b, x = .str a ∧ [y] = [.str b] ∧ (b.length == 0) = false ∧ a.length + 2 ≤ sizeLine ∧ rNewStrs (Txt.split a b) H Q) splitF := by
  intro G H x y d e s Q g rx ry ef q
  unfold splitF at ef
  split at ef
  · split at ef
    · rename_i hz
      cases ef
      cases rdr_str rx; cases rdr_str ry
      exact ⟨_, _, rfl, rfl, hz.1, Nat.le_trans (by omega : _ ≤ 10002) (by decide), new_list g (repL_strs _) q⟩
    · cases ef
  · cases ef
theorem de_split {ma mb : MD} (ha : DR X a W o ma) (hb : DR X a W e mb) (hs : starEach [e] X.env = [(false, eval e X.env)] := by rfl) (hbase : attributeBase o "split" X.env (eval o X.env) = eval o X.env := by rfl) (hline : (apos.endLine == pos.line) = true := by rfl) :
    DE X a W (.Call (.Attribute o "split" apos) [e] [] pos) (mM1 splitF ma mb) :=
  let ⟨_, pa, sa⟩ := ha; let ⟨_, pb, sb⟩ := hb; ⟨_, pe_split pa pb hs hbase hline, snd_m1 (C := cn X a) splitF_ok splitF_ne sa sb⟩
/-- int, of a text too -/
def intSF : List PyData → Res Slot
  | [.int i] => okI i
  | [.bool b] => okI (if b then 1 else 0)
  | [.str z] => match PySem.intText? z with
    | some n => if z.length ≤ 640 then okI n else .stuck
    | none => .stuck
  | _ => .stuck
theorem intSF_ok {K : Kw} : CallS K (fun xs H Q => ((∃ i, xs = [.int i] ∧ Q (.int i) H) ∨ ∃ k, xs = [.bl k] ∧ Q (.int (if k then 1 else 0)) H) ∨ ∃ a n, xs = [.str a] ∧ PySem.intText? a = some n ∧ a.length ≤ 640 ∧ Q (.int n) H) intSF := by
  refine ⟨fun G H vs ds s Q g rd ef q => ?_, fun ds x => ?_⟩
  · unfold intSF at ef
    split at ef
    · cases ef
      obtain ⟨v, ev, r⟩ := rdl1 rd
      cases rdr_int r
      exact .inl (.inl ⟨_, ev, q _ G H (Stp.refl g) (Rep.int _)⟩)
    · cases ef
      obtain ⟨v, ev, r⟩ := rdl1 rd
      cases rdr_bool r
      exact .inl (.inr ⟨_, ev, q _ G H (Stp.refl g) (Rep.int _)⟩)
    · split at ef
      · rename_i n hn
        split at ef
        · rename_i hz
          cases ef
          obtain ⟨v, ev, r⟩ := rdl1 rd
          cases rdr_str r
          exact .inr ⟨_, _, ev, hn, hz, q _ G H (Stp.refl g) (Rep.int _)⟩
        · cases ef
      · cases ef
    · cases ef
  · unfold intSF
    split <;> (try split) <;> (try split) <;> (intro h; cases h)
/-! for simp -/
@[simp] theorem mM1_ap {f : PyData → PyData → Res Slot} {mo me : MD} {δ : DEnv} : mM1 f mo me δ = (mo δ).bind fun d => match d with
  | .str z => (me δ).bind fun e => f (.str z) e
  | _ => .stuck := (rfl)
@[simp] theorem startsF_str {a b : Str} : startsF (.str a) (.str b) = .ok (.val (.bool (Txt.startswith a b))) := (rfl)
theorem splitF_str {a b : Str} (hb : (b.length == 0) = false) (ha : a.length ≤ 10000) : splitF (.str a) (.str b) = .ok (.own (.list ((Txt.split a b).map PyData.str))) := if_pos ⟨hb, ha⟩
@[simp] theorem intSF_int {i : Int} : intSF [.int i] = .ok (.val (.int i)) := (rfl)
theorem intSF_str {z : Str} {n : Int} (h : PySem.intText? z = some n) (hl : z.length ≤ 640) : intSF [.str z] = .ok (.val (.int n)) := by
  unfold intSF
  simp only [h]
  exact if_pos hl
theorem lenF_str {z : Str} (h : z.length ≤ 10000) : lenF [.str z] = .ok (.val (.int (z.length : Int))) := if_pos (Nat.le_trans h (by decide))
theorem strF_int {i : Int} (h : i.natAbs.log2 < 1920) : strF [.int i] = .ok (.val (.str (toString i))) := if_pos h
theorem slF_str {z : Str} {lo hi : Option Int} (h : z.length ≤ 10000) : slF (.str z) lo hi = .ok (.val (.str (cutS z lo hi))) := if_pos (Nat.le_trans h (by decide))
@[simp] theorem seqOf_str {z : Str} : seqOf (.str z) = .ok (signs z) := (rfl)
theorem inF_str {n : Bool} {x z : Str} : inF n (.str x) (.str z) = .ok (.val (.bool (n != strIn x z))) := rfl
end
end DL
namespace DL
open PySem L2
section
variable {X : Cx} {a : Ax} {W : WX} {pos : Pos}
/-- a module's constant, whatever its marks -/
theorem de_gl {x : Str} {v : V} {d : PyData} (hg : Gl X x) (hm : ∃ u, X.mg x = some u ∧ RelV v u) (h : ∀ G, Rep X.kw G v d) (hd : (x == ("__debug__" : Str)) = false := by decide) : DE X a W (.Name x pos) (mC d) :=
  let ⟨_, e, r⟩ := hm; de_glob hg e r h hd
end
end DL
namespace DL
open PySem L2
section
variable {X : Cx} {a : Ax} {W : WX} {e o : Expr} {es : List Expr} {pos apos : Pos}
def strsOf : List PyData → Option (List Str)
  | [] => some []
  | .str x :: r => (strsOf r).map (x :: ·)
  | _ => none
theorem strsOf_map : ∀ ys : List Str, strsOf (ys.map PyData.str) = some ys
  | [] => rfl
  | y :: ys => by
    show (strsOf (ys.map PyData.str)).map (y :: ·) = _
    rw [strsOf_map ys]
    rfl
theorem strsOf_eq : ∀ {ds : List PyData} {ys : List Str}, strsOf ds = some ys → ds = ys.map PyData.str
  | [], ys, e => by cases e; rfl
  | .str x :: r, ys, e => by
    have e' : (strsOf r).map (x :: ·) = some ys := e
    cases h : strsOf r with
    | none => rw [h] at e'; cases e'
    | some zs => rw [h] at e'; cases e'; rw [strsOf_eq h]; rfl
  | .none :: r, ys, e => by cases e
  | .bool _ :: r, ys, e => by cases e
  | .int _ :: r, ys, e => by cases e
  | .list _ :: r, ys, e => by cases e
  | .tuple _ :: r, ys, e => by cases e
  | .dict _ :: r, ys, e => by cases e
theorem repL_strs_eq {K : Kw} {G : Hp} : ∀ {ys : List Str} {xs : List V}, RepL K G xs (ys.map PyData.str) → xs = ys.map V.str
  | [], _, .nil => rfl
  | y :: ys, _, .cons r rs => by
    cases r
    rw [repL_strs_eq (ys := ys) rs]
    rfl
def joinF : PyData → PyData → Res Slot
  | .str a, .list ds => match strsOf ds with
    | some ys => if (ys.map (·.length)).sum + ys.length * a.length ≤ 16777216 then okV (.str (Txt.join a ys)) else .stuck
    | none => .stuck
  | .str a, .tuple ds => match strsOf ds with
    | some ys => if (ys.map (·.length)).sum + ys.length * a.length ≤ 16777216 then okV (.str (Txt.join a ys)) else .stuck
    | none => .stuck
  | _, _ => .stuck
theorem joinF_ne : NoExc joinF := fun d e x => by unfold joinF; split <;> (try split) <;> (try split) <;> (intro h; cases h)
theorem joinF_ok {K : Kw} : OpS K (fun x y H Q => ∃ a p, ∃ ys : List Str, x = .str a ∧ [y] = [.ref p] ∧ (SqL K H p (ys.map V.str) ∨ SqT K H p (ys.map V.str)) ∧ (ys.map (·.length)).sum + ys.length * a.length ≤ 16777216 ∧ Q (.str (Txt.join a ys)) H) joinF := by
  intro G H x y d e s Q g rx ry ef q
  unfold joinF at ef
  split at ef
  · split at ef
    · rename_i ys hy
      split at ef
      · rename_i hz
        cases ef
        cases rdr_str rx
        obtain ⟨b, xs, e1, q1, r1⟩ := rdr_list g ry
        subst e1
        rw [strsOf_eq hy] at r1
        rw [repL_strs_eq r1] at q1
        exact ⟨_, b, ys, rfl, rfl, .inl q1, hz, q _ G H (Stp.refl g) (Rep.str _)⟩
      · cases ef
    · cases ef
  · split at ef
    · rename_i ys hy
      split at ef
      · rename_i hz
        cases ef
        cases rdr_str rx
        obtain ⟨b, xs, e1, q1, r1⟩ := rdr_tup g ry
        subst e1
        rw [strsOf_eq hy] at r1
        rw [repL_strs_eq r1] at q1
        exact ⟨_, b, ys, rfl, rfl, .inr q1, hz, q _ G H (Stp.refl g) (Rep.str _)⟩
      · cases ef
    · cases ef
  · cases ef
theorem de_join {ma mb : MD} (ha : DR X a W o ma) (hb : DR X a W e mb) (hs : starEach [e] X.env = [(false, eval e X.env)] := by rfl) (hbase : attributeBase o "join" X.env (eval o X.env) = eval o X.env := by rfl) (hline : (apos.endLine == pos.line) = true := by rfl) :
    DE X a W (.Call (.Attribute o "join" apos) [e] [] pos) (mM1 joinF ma mb) :=
  let ⟨_, pa, sa⟩ := ha; let ⟨_, pb, sb⟩ := hb; ⟨_, pe_join pa pb hs hbase hline, snd_m1 (C := cn X a) joinF_ok joinF_ne sa sb⟩
end
end DL
/-! DLm: what changes one's own things while an expression is reckoned; defs that change what they are lent -/
namespace DL
open PySem L2
/-! ### 1. a cell set aside -/
section
variable {C : Cn} {B G0 G H G' H' : Hp} {σ : St} {δ : DEnv}
/-- a fresh cell is set aside among what stays -/
theorem StR.aside (S : StR C B G0 G H σ δ) {D : Addr} {o : HO} (n : H D = none) : StR C (upd B D o) G0 G (upd H D o) σ δ := by
  have st := Stp.newH (o := o) S.gh n
  have T := S.step st
  have gD : G D = none := S.gh.free n
  obtain ⟨fps, E⟩ := S.en
  obtain E2 := E.step S.bh st
  have offD : ∀ i, D ∉ fps i := fun i z => E.there z n
  refine ⟨fun b u q => ?_, T.g0, T.gh, fun x e z => ?_, T.len, T.rt, fps, fun j s e => ?_, E.no, E.nd, E.dj, fun i a ha => ?_⟩
  · by_cases hb : b = D
    · subst hb; rw [upd_same] at q ⊢; exact q
    · rw [upd_ne hb] at q ⊢; exact S.bh _ _ q
  · by_cases hx : x = D
    · rw [hx]; exact gD
    · rw [upd_ne hx] at z; exact S.fr x e z
  · obtain ⟨v, q, z⟩ := E2.sl j s e
    refine ⟨v, q, ?_⟩
    have up : ∀ b, B b ≠ none → upd B D o b ≠ none := fun b hb => by
      by_cases hD : b = D
      · rw [hD, upd_same]; exact fun z => nomatch z
      · rw [upd_ne hD]; exact hb
    cases s with
    | val d => exact z
    | own d => exact z
    | bor d => obtain ⟨b, eb, ef, nb, t⟩ := z; exact ⟨b, eb, ef, up b nb, t⟩
    | tr t => exact z
    | bt t => obtain ⟨ef, fq, w, q⟩ := z; exact ⟨ef, fq, w, fun a ha => up a (q a ha)⟩
    | exn x => exact z
  · have hD : a ≠ D := fun w => offD i (by rw [← w]; exact ha)
    rw [upd_ne hD]; exact E.off i a ha
end
/-! ### 2. expressions that change what one owns or was lent -/
inductive MRes where
  | ok (s : Slot) (δ : DEnv) | exc (x : Exn) (δ : DEnv) | stuck
abbrev MM := DEnv → MRes
def MRes.bind (r : MRes) (f : Slot → DEnv → MRes) : MRes := match r with
  | .ok s δ => f s δ
  | .exc x δ => .exc x δ
  | .stuck => .stuck
def MOk (C : Cn) (W : WX) (B G0 : Hp) (σ : St) (G : Hp) (r : MRes) (Q : VK) : Prop := match r with
  | .ok s δ' => ∀ v G' H', RetR C B G0 G' H' σ δ' s v → Same G G' → Q v H'
  | .exc x δ' => ∀ cls d G' H', StR C B G0 G' H' σ δ' → ExR C G' H' x cls d → W cls d σ H'
  | .stuck => False
def SndM (C : Cn) (W : WX) (t : TE) (m : MM) : Prop := ∀ B G0 G H σ δ, StR C B G0 G H σ δ → ∀ Q, MOk C W B G0 σ G (m δ) Q → t σ H Q
/-- but for the contents of what is one's own, the slots stay -/
def isO : Option (Option Slot) → Bool
  | some (some (.own _)) => true
  | some (some (.tr _)) => true
  | _ => false
def Keep (δ δ' : DEnv) : Prop := ∀ i : Nat, δ'[i]? = δ[i]? ∨ (isO δ[i]? = true ∧ isO δ'[i]? = true)
theorem Keep.refl (δ : DEnv) : Keep δ δ := fun _ => .inl rfl
theorem Keep.trans {δ δ1 δ2 : DEnv} (h : Keep δ δ1) (k : Keep δ1 δ2) : Keep δ δ2 := fun i => by
  rcases h i with h | ⟨h1, h2⟩
  · rcases k i with k | ⟨k1, k2⟩
    · exact .inl (k.trans h)
    · exact .inr ⟨by rw [← h]; exact k1, k2⟩
  · rcases k i with k | ⟨k1, k2⟩
    · exact .inr ⟨h1, by rw [k]; exact h2⟩
    · exact .inr ⟨h1, k2⟩
theorem Keep.set {δ : DEnv} {i : Nat} {s : Slot} (h : isO δ[i]? = true) (k : isO (some (some s)) = true) : Keep δ (δ.set i (some s)) := fun j => by
  by_cases hj : i = j
  · subst hj
    have hl : i < δ.length := by
      rcases Nat.lt_or_ge i δ.length with q | q
      · exact q
      · rw [List.getElem?_eq_none q] at h; cases h
    exact .inr ⟨h, by rw [List.getElem?_set_self hl]; exact k⟩
  · exact .inl (by rw [List.getElem?_set_ne hj])
theorem Keep.len {δ δ' : DEnv} (h : Keep δ δ') {i : Nat} (e : δ[i]? = some none) : δ'[i]? = some none := by
  rcases h i with h | ⟨h, _⟩
  · rw [h]; exact e
  · rw [e] at h; cases h
theorem Keep.bor {δ δ' : DEnv} (h : Keep δ δ') {i : Nat} {s : Slot} (e : δ'[i]? = some (some s)) (n : isO (some (some s)) = false) : δ[i]? = some (some s) := by
  rcases h i with h | ⟨_, h⟩
  · rw [← h]; exact e
  · rw [e, n] at h; cases h
def KpR (δ : DEnv) : MRes → Prop
  | .ok _ δ' => Keep δ δ'
  | .exc _ δ' => Keep δ δ'
  | .stuck => True
def Kp (m : MM) : Prop := ∀ δ, KpR δ (m δ)
def EDE (X : Cx) (a : Ax) (W : WX) (e : Expr) (m : MM) : Prop := ∃ t, PE X e t ∧ SndM (cn X a) W t m ∧ Kp m
/-- several, as values that last -/
inductive MLRes where
  | ok (ds : List PyData) (δ : DEnv) | exc (x : Exn) (δ : DEnv) | stuck
abbrev MML := DEnv → MLRes
def MLOk (C : Cn) (W : WX) (B G0 : Hp) (σ : St) (G : Hp) (r : MLRes) (Q : List V → Hp → Prop) : Prop := match r with
  | .ok ds δ' => ∀ vs G' H', StR C B G0 G' H' σ δ' → Same G G' → RepL C.K G' vs ds → Q vs H'
  | .exc x δ' => ∀ cls d G' H', StR C B G0 G' H' σ δ' → ExR C G' H' x cls d → W cls d σ H'
  | .stuck => False
def SndML (C : Cn) (W : WX) (t : TA) (m : MML) : Prop := ∀ B G0 G H σ δ, StR C B G0 G H σ δ → ∀ Q, MLOk C W B G0 σ G (m δ) Q → t σ H Q
def KpL (δ : DEnv) : MLRes → Prop
  | .ok _ δ' => Keep δ δ'
  | .exc _ δ' => Keep δ δ'
  | .stuck => True
def KpA (m : MML) : Prop := ∀ δ, KpL δ (m δ)
def EDA (X : Cx) (a : Ax) (W : WX) (es : List Expr) (m : MML) : Prop := ∃ t, PA X es t ∧ SndML (cn X a) W t m ∧ KpA m
section
variable {C : Cn} {W : WX} {B G0 G H G1 : Hp} {σ : St} {δ : DEnv}
/-- what is one's own becomes lasting -/
theorem RetR.vl {s : Slot} {d : PyData} {v : V} {P : Hp → Prop} (r : RetR C B G0 G H σ δ s v) (e : s.vl = .ok d) (k : ∀ G' H', StR C B G0 G' H' σ δ → Same G G' → Rep C.K G' v d → P H') : Frz H v P := by
  cases s with
  | val d' =>
    cases e
    obtain ⟨fps, fp, E, z, _⟩ := r.en
    exact .inl (k G H r.st (Same.refl _) z.2)
  | own d' =>
    cases e
    obtain ⟨fps, fp, E, ⟨b, rfl, rfl, t⟩, nd, q⟩ := r.en
    have hb := q b List.mem_cons_self
    refine t.freeze hb.1.2 r.st.gh fun G' H' s1 s2 rp gne hne hn => k G' H' ⟨fun x o e => ?_, r.st.g0.trans s1, s2, fun a e n => ?_, r.st.len, r.st.rt, fps, fun i s e => ?_, E.no, E.nd, E.dj, fun i a ha => ?_⟩ s1 rp
    · have : x ≠ b := fun z => by rw [z, hb.1.1] at e; cases e
      rw [hne x this]; exact r.st.bh x o e
    · have : a ≠ b := fun z => n (by rw [z]; exact hb.1.1)
      rw [gne a this]; exact r.st.fr a e n
    · obtain ⟨v, q, z⟩ := E.sl i s e
      exact ⟨v, q, z.keep s1 (fun c hc => hne c fun w => hb.2 i (by rw [← w]; exact hc)) fun c hc => hne c fun w => hc (by rw [w]; exact hb.1.1)⟩
    · have : a ≠ b := fun z => hb.2 i (by rw [← z]; exact ha)
      rw [gne a this]; exact E.off i a ha
  | bor d => cases e
  | tr d => cases e
  | bt d => cases e
  | exn d => cases e
theorem MOk.up {r : MRes} {Q : VK} (g : Same G G1) (h : MOk C W B G0 σ G r Q) : MOk C W B G0 σ G1 r Q := by
  cases r with
  | ok s δ => exact fun v G' H' r g' => h v G' H' r (g.trans g')
  | exc x δ => exact h
  | stuck => exact h
theorem MLOk.up {r : MLRes} {Q : List V → Hp → Prop} (g : Same G G1) (h : MLOk C W B G0 σ G r Q) : MLOk C W B G0 σ G1 r Q := by
  cases r with
  | ok s δ => exact fun v G' H' S g' => h v G' H' S (g.trans g')
  | exc x δ => exact h
  | stuck => exact h
end
section
variable {X : Cx} {a : Ax} {W : WX} {e e2 e3 o : Expr} {es : List Expr} {pos : Pos}
/-- a pure one -/
def emP (m : ME) : MM := fun δ => match m δ with
  | .ok (.val d) => .ok (.val d) δ
  | .ok (.own d) => .ok (.own d) δ
  | .ok (.tr t) => .ok (.tr t) δ
  | .exc x => .exc x δ
  | _ => .stuck
theorem kp_pure {m : ME} : Kp (emP m) := fun δ => by
  unfold emP
  split <;> first | exact Keep.refl δ | exact True.intro
theorem em_pure {m : ME} (h : DE X a W e m) : EDE X a W e (emP m) := by
  obtain ⟨t, p, s⟩ := h
  refine ⟨t, p, fun B G0 G H σ δ S Q q => ?_, kp_pure⟩
  refine s B G0 G H σ δ S Q ?_
  unfold emP at q
  cases r : m δ with
  | stuck => rw [r] at q; exact q.elim
  | exc x => rw [r] at q; exact fun cls d G' H' st ex => q cls d G' H' (S.step st) ex
  | ok sl =>
    rw [r] at q
    cases sl with
    | val d => exact fun v G' H' st r => q v G' H' (ret_new S st r (.inl ⟨d, rfl⟩)) st.g
    | own d => exact fun v G' H' st r => q v G' H' (ret_new S st r (.inr (.inl ⟨d, rfl⟩))) st.g
    | tr t => exact fun v G' H' st r => q v G' H' (ret_new S st r (.inr (.inr ⟨t, rfl⟩))) st.g
    | bor d => exact q.elim
    | bt d => exact q.elim
    | exn d => exact q.elim
/-- a value that lasts of it -/
def emD (m : MM) (δ : DEnv) (k : PyData → DEnv → MLRes) : MLRes := match m δ with
  | .ok s δ' => match s.vl with
    | .ok d => k d δ'
    | _ => .stuck
  | .exc x δ' => .exc x δ'
  | .stuck => .stuck
def emNil : MML := fun δ => .ok [] δ
def emCons (m : MM) (n : MML) : MML := fun δ => emD m δ fun d δ1 => match n δ1 with
  | .ok ds δ2 => .ok (d :: ds) δ2
  | r => r
theorem kp_nil : KpA emNil := fun δ => Keep.refl δ
theorem kp_cons {m : MM} {n : MML} (h : Kp m) (k : KpA n) : KpA (emCons m n) := fun δ => by
  unfold emCons emD
  have h1 := h δ
  cases r : m δ with
  | stuck => exact True.intro
  | exc x δ1 => rw [r] at h1; exact h1
  | ok sl δ1 =>
    rw [r] at h1
    have h1 : Keep δ δ1 := h1
    cases ev : sl.vl with
    | stuck => simp only [ev]; exact True.intro
    | exc x => simp only [ev]; exact True.intro
    | ok d =>
      simp only [ev]
      have k1 := k δ1
      cases r2 : n δ1 with
      | stuck => exact True.intro
      | exc x δ2 => rw [r2] at k1; exact h1.trans k1
      | ok ds δ2 => rw [r2] at k1; exact h1.trans k1
theorem ea_nil : EDA X a W [] emNil := ⟨_, pa_nil, fun B G0 G H σ δ S Q q => q [] G H S (Same.refl _) .nil, kp_nil⟩
theorem ea_cons {m : MM} {n : MML} (h : EDE X a W e m) (k : EDA X a W es n) (hs : starEach (e :: es) X.env = (false, eval e X.env) :: starEach es X.env := by rfl) : EDA X a W (e :: es) (emCons m n) := by
  obtain ⟨t, p, s, k1⟩ := h
  obtain ⟨u, q, z, k2⟩ := k
  refine ⟨_, pa_cons (pe_lk p) q hs, fun B G0 G H σ δ S Q hq => ?_, kp_cons k1 k2⟩
  refine s B G0 G H σ δ S _ ?_
  unfold emCons emD at hq
  cases r : m δ with
  | stuck => rw [r] at hq; exact hq.elim
  | exc x δ1 => rw [r] at hq; exact hq
  | ok sl δ1 =>
    rw [r] at hq
    intro v G1 H1 rv g1
    cases ev : sl.vl with
    | stuck => simp only [ev] at hq; exact hq.elim
    | exc x => exact (vl_noexc ev).elim
    | ok d =>
      simp only [ev] at hq
      refine rv.vl ev fun G2 H2 S2 g2 rp => z B G0 G2 H2 σ δ1 S2 _ ?_
      cases r2 : n δ1 with
      | stuck => rw [r2] at hq; exact hq.elim
      | exc x δ2 => rw [r2] at hq; exact hq
      | ok ds δ2 =>
        rw [r2] at hq
        exact fun vs G3 H3 S3 g3 rs => hq (v :: vs) G3 H3 S3 ((g1.trans g2).trans g3) (.cons (rp.mono g3) rs)
def emTup (m : MML) : MM := fun δ => match m δ with
  | .ok ds δ' => if fits ds = true then .ok (.val (.tuple ds)) δ' else .stuck
  | .exc x δ' => .exc x δ'
  | .stuck => .stuck
theorem kp_tup {m : MML} (h : KpA m) : Kp (emTup m) := fun δ => by
  unfold emTup
  have h1 := h δ
  cases r : m δ with
  | stuck => exact True.intro
  | exc x δ1 => rw [r] at h1; exact h1
  | ok sl δ1 =>
    rw [r] at h1
    simp only
    split
    · exact h1
    · exact True.intro
theorem em_tup {m : MML} {k} (h : EDA X a W es m) : EDE X a W (.Tuple es k pos) (emTup m) := by
  obtain ⟨t, p, s, kp⟩ := h
  refine ⟨_, pe_tup p, fun B G0 G H σ δ S Q hq => ?_, kp_tup kp⟩
  refine s B G0 G H σ δ S _ ?_
  unfold emTup at hq
  cases r : m δ with
  | stuck => rw [r] at hq; exact hq.elim
  | exc x δ1 => rw [r] at hq; exact hq
  | ok ds δ1 =>
    rw [r] at hq
    intro vs G1 H1 S1 g1 rv
    by_cases hz : fits ds = true
    · simp only [hz, if_true] at hq
      refine ⟨by rw [rv.length]; exact of_decide_eq_true hz, fun p hp => ?_⟩
      have st := Stp.new (o := .tup vs) S1.gh hp
      exact hq _ _ _ (ret_new S1 st (s := .val (.tuple ds)) (Rep.tup (.inl (.inl upd_same)) (rv.mono st.g)) (.inl ⟨_, rfl⟩)) (g1.trans st.g)
    · simp only [hz] at hq; exact hq.elim
def emLst (m : MML) : MM := fun δ => match m δ with
  | .ok ds δ' => if fits ds = true then .ok (.own (.list ds)) δ' else .stuck
  | .exc x δ' => .exc x δ'
  | .stuck => .stuck
theorem kp_lst {m : MML} (h : KpA m) : Kp (emLst m) := fun δ => by
  unfold emLst
  have h1 := h δ
  cases r : m δ with
  | stuck => exact True.intro
  | exc x δ1 => rw [r] at h1; exact h1
  | ok sl δ1 =>
    rw [r] at h1
    simp only
    split
    · exact h1
    · exact True.intro
theorem em_lst {m : MML} (h : EDA X a W es m) : EDE X a W (.List es pos) (emLst m) := by
  obtain ⟨t, p, s, kp⟩ := h
  refine ⟨_, pe_lst p, fun B G0 G H σ δ S Q hq => ?_, kp_lst kp⟩
  refine s B G0 G H σ δ S _ ?_
  unfold emLst at hq
  cases r : m δ with
  | stuck => rw [r] at hq; exact hq.elim
  | exc x δ1 => rw [r] at hq; exact hq
  | ok ds δ1 =>
    rw [r] at hq
    intro vs G1 H1 S1 g1 rv
    by_cases hz : fits ds = true
    · simp only [hz, if_true] at hq
      refine ⟨by rw [rv.length]; exact of_decide_eq_true hz, fun p hp => ?_⟩
      have st := Stp.newH (o := .lst vs) S1.gh hp
      exact hq _ _ _ (ret_new S1 st (s := .own (.list ds)) ⟨p, rfl, S1.gh.free hp, hp, vs, upd_same, rv⟩ (.inr (.inl ⟨_, rfl⟩))) (g1.trans st.g)
    · simp only [hz] at hq; exact hq.elim
/-- a built-in of what was so reckoned -/
def emBi (f : List PyData → Res Slot) (m : MML) : MM := fun δ => match m δ with
  | .ok ds δ' => emP (fun _ => f ds) δ'
  | .exc x δ' => .exc x δ'
  | .stuck => .stuck
theorem RepL.toRd {K : Kw} {G H : Hp} : ∀ {vs : List V} {ds : List PyData}, RepL K G vs ds → RdL K G H ds vs
  | _, _, .nil => .nil
  | _, _, .cons r rs => .cons (.inl r) (RepL.toRd rs)
theorem em_bi {C : Cn} {r : List V → Hp → VK → Prop} {f : List PyData → Res Slot} (hf : CallS C.K r f) {t : TA} {m : MML} (s : SndML C W t m) : SndM C W (tCB r t) (emBi f m) := by
  intro B G0 G H σ δ S Q hq
  refine s B G0 G H σ δ S _ ?_
  unfold emBi at hq
  cases r1 : m δ with
  | stuck => rw [r1] at hq; exact hq.elim
  | exc x δ1 => rw [r1] at hq; exact hq
  | ok ds δ1 =>
    rw [r1] at hq
    intro vs G1 H1 S1 g1 rv
    unfold emP at hq
    cases ef : f ds with
    | stuck => simp only [ef] at hq; exact hq.elim
    | exc x => exact (hf.2 ds x ef).elim
    | ok sl =>
      simp only [ef] at hq
      refine hf.1 G1 H1 vs ds sl _ S1.gh rv.toRd ef fun v G2 H2 st rr => ?_
      cases sl with
      | val d => exact hq v G2 H2 (ret_new S1 st rr (.inl ⟨d, rfl⟩)) (g1.trans st.g)
      | own d => exact hq v G2 H2 (ret_new S1 st rr (.inr (.inl ⟨d, rfl⟩))) (g1.trans st.g)
      | tr t => exact hq v G2 H2 (ret_new S1 st rr (.inr (.inr ⟨t, rfl⟩))) (g1.trans st.g)
      | bor d => exact hq.elim
      | bt d => exact hq.elim
      | exn d => exact hq.elim
theorem kp_emP {m : ME} {δ δ' : DEnv} (h : Keep δ δ') : KpR δ (emP m δ') := by
  have := kp_pure (m := m) δ'
  cases r : emP m δ' with
  | stuck => exact True.intro
  | exc x δ1 => rw [r] at this; exact h.trans this
  | ok sl δ1 => rw [r] at this; exact h.trans this
theorem kp_bi {f : List PyData → Res Slot} {m : MML} (h : KpA m) : Kp (emBi f m) := fun δ => by
  unfold emBi
  have h1 := h δ
  cases r : m δ with
  | stuck => exact True.intro
  | exc x δ1 => rw [r] at h1; exact h1
  | ok ds δ1 => rw [r] at h1; exact kp_emP h1
theorem em_callT {x : Str} {T : String} {r : List V → Hp → VK → Prop} {f : List PyData → Res Slot} {p : Pos} {m : MML} (hf : CallS X.kw r f) (hc : CallR X (.type T) r) (hg : Gl X x) (hm : X.mg x = none) (hv : bootBuiltins x = some (.type T)) (h : EDA X a W (e :: es) m)
    (hn : x ≠ "__name__" := by decide) (hdb : (x == ("__debug__" : Str)) = false := by decide) (he : starEach (e :: es) X.env = (false, eval e X.env) :: starEach es X.env := by rfl) (hpl : (backTo pos (starEach es X.env)).any (·.1) = false := by rfl) : EDE X a W (.Call (.Name x p) (e :: es) [] pos) (emBi f m) :=
  let ⟨_, pa, sa, k⟩ := h; ⟨_, pe_callTy hc hg hm hv pa hn hdb he hpl, em_bi (C := cn X a) hf sa, kp_bi k⟩
theorem em_callB {x : Str} {idb : String} {r : List V → Hp → VK → Prop} {f : List PyData → Res Slot} {p : Pos} {m : MML} (hf : CallS X.kw r f) (hc : CallR X (.builtin idb) r) (hg : Gl X x) (hm : X.mg x = none) (hv : bootBuiltins x = some (.builtin idb)) (h : EDA X a W (e :: es) m)
    (hn : x ≠ "__name__" := by decide) (hdb : (x == ("__debug__" : Str)) = false := by decide) (he : starEach (e :: es) X.env = (false, eval e X.env) :: starEach es X.env := by rfl) (hpl : (backTo pos (starEach es X.env)).any (·.1) = false := by rfl) : EDE X a W (.Call (.Name x p) (e :: es) [] pos) (emBi f m) :=
  let ⟨_, pa, sa, k⟩ := h; ⟨_, pe_callB hc hg hm hv pa hn hdb he hpl, em_bi (C := cn X a) hf sa, kp_bi k⟩
/-- a op b: the right side changes nothing, or the left side lasts -/
def emB (f : PyData → PyData → Res Slot) (m n : MM) : MM := fun δ => match emCons m (emCons n emNil) δ with
  | .ok [d, e] δ' => emP (fun _ => f d e) δ'
  | .exc x δ' => .exc x δ'
  | _ => .stuck
theorem kp_B {f : PyData → PyData → Res Slot} {m n : MM} (h : Kp m) (k : Kp n) : Kp (emB f m n) := fun δ => by
  unfold emB
  have h1 := kp_cons h (kp_cons k kp_nil) δ
  split
  · rename_i e; rw [e] at h1; exact kp_emP h1
  · rename_i e; rw [e] at h1; exact h1
  · exact True.intro
theorem em_op {op : Operator} {r : R2} {f : PyData → PyData → Res Slot} (hf : OpS X.kw r f) (hn : NoExc f) (ho : OpR X (binaryOp op) r) {m n : MM} (ha : EDE X a W e m) (hb : EDE X a W e2 n) : EDE X a W (.BinOp e op e2 pos) (emB f m n) := by
  obtain ⟨t, p, s, k1⟩ := ha
  obtain ⟨u, q, z, k2⟩ := hb
  refine ⟨_, pe_op ho (pe_lk p) (pe_lk q), fun B G0 G H σ δ S Q hq => ?_, kp_B k1 k2⟩
  refine s B G0 G H σ δ S _ ?_
  unfold emB emCons emD at hq
  cases r1 : m δ with
  | stuck => rw [r1] at hq; exact hq.elim
  | exc x δ1 => rw [r1] at hq; exact hq
  | ok sl δ1 =>
    rw [r1] at hq
    intro v G1 H1 rv g1
    cases ev : sl.vl with
    | stuck => simp only [ev] at hq; exact hq.elim
    | exc x => exact (vl_noexc ev).elim
    | ok d =>
      refine rv.vl ev fun G2 H2 S2 g2 rp => z B G0 G2 H2 σ δ1 S2 _ ?_
      cases r2 : n δ1 with
      | stuck => simp only [ev, r2] at hq; exact hq.elim
      | exc x δ2 => simp only [ev, r2] at hq; exact hq
      | ok sl2 δ2 =>
        intro v2 G3 H3 rv2 g3
        cases ev2 : sl2.vl with
        | stuck => simp only [ev, r2, ev2] at hq; exact hq.elim
        | exc x => exact (vl_noexc ev2).elim
        | ok d2 =>
          simp only [ev, r2, ev2, emNil] at hq
          unfold emP at hq
          refine rv2.vl ev2 fun G4 H4 S4 g4 rp2 => ?_
          cases ef : f d d2 with
          | stuck => simp only [ef] at hq; exact hq.elim
          | exc x => exact (hn d d2 x ef).elim
          | ok sl3 =>
            simp only [ef] at hq
            have gg : Same G G4 := ((g1.trans g2).trans g3).trans g4
            refine hf G4 H4 v v2 d d2 sl3 _ S4.gh (.inl (rp.mono (g3.trans g4))) (.inl rp2) ef fun v G5 H5 st rr => ?_
            cases sl3 with
            | val d => exact hq v G5 H5 (ret_new S4 st rr (.inl ⟨d, rfl⟩)) (gg.trans st.g)
            | own d => exact hq v G5 H5 (ret_new S4 st rr (.inr (.inl ⟨d, rfl⟩))) (gg.trans st.g)
            | tr t => exact hq v G5 H5 (ret_new S4 st rr (.inr (.inr ⟨t, rfl⟩))) (gg.trans st.g)
            | bor d => exact hq.elim
            | bt d => exact hq.elim
            | exn d => exact hq.elim
end
/-! ### 3. calls that change what they are lent -/
/-- a thing lent: its root, its cells -/
def LnR (K : Kw) (G H : Hp) (fp : List Addr) : Slot → V → Prop
  | .own d, v => ∃ a, v = .ref a ∧ fp = [a] ∧ Top K G H a d
  | .tr t, v => Own K G H v t fp
  | _, _ => False
structure ArgsM (K : Kw) (G H : Hp) (ss : List Slot) (vs : List V) (k : Nat) (r : V) (fp : List Addr) : Prop where
  len : ss.length = vs.length
  vals : ∀ i s, ss[i]? = some s → i ≠ k → ∃ d v, s = .val d ∧ vs[i]? = some v ∧ Rep K G v d
  ln : ∃ s, ss[k]? = some s ∧ vs[k]? = some r ∧ LnR K G H fp s r
  nd : fp.Nodup
  off : ∀ a ∈ fp, G a = none
structure StpF (fp : List Addr) (G H G' H' : Hp) : Prop where
  g : Same G G'
  h : ∀ a o, H a = some o → a ∉ fp → H' a = some o
  gh : Same G' H'
  fr : ∀ a, G a = none → H a ≠ none → a ∉ fp → G' a = none
/-- what was lent is given back -/
def BackM (K : Kw) (fp : List Addr) (H G' H' : Hp) (r : V) (l : Slot) (fpv : List Addr) : Prop := ∃ fp', LnR K G' H' fp' l r ∧ fp'.Nodup ∧ ∀ a ∈ fp', (a ∈ fp ∨ H a = none) ∧ G' a = none ∧ a ∉ fpv
inductive FRes where
  | ok (s : Slot) (l : Slot) | exc (x : Exn) (l : Slot) | stuck
abbrev FM := List Slot → FRes
def spM (C : Cn) (k : Nat) (f : FM) : Sp := fun vs H Q E => ∃ G ss r fp, Same G H ∧ ArgsM C.K G H ss vs k r fp ∧ match f ss with
  | .ok s l => ∀ v G' H' fpv, StpF fp G H G' H' → RvR C G' H' fpv s v → fpv.Nodup → (∀ a ∈ fpv, (a ∈ fp ∨ H a = none) ∧ G' a = none) → BackM C.K fp H G' H' r l fpv → Q v H'
  | .exc x l => ∀ cls d G' H', StpF fp G H G' H' → BackM C.K fp H G' H' r l [] → ExR C G' H' x cls d → E cls d H'
  | .stuck => False
def backAt (k : Nat) (δ : DEnv) (f : Slot → FRes) : FRes := match δ[k]? with
  | some (some (.own d)) => f (.own d)
  | some (some (.tr t)) => f (.tr t)
  | _ => .stuck
theorem backAt_is (k : Nat) (δ : DEnv) (f : Slot → FRes) : (∃ sl, δ[k]? = some (some sl) ∧ ((∃ d, sl = .own d) ∨ ∃ t, sl = .tr t) ∧ backAt k δ f = f sl) ∨ backAt k δ f = .stuck := by
  unfold backAt
  split
  · rename_i d e; exact .inl ⟨_, e, .inl ⟨_, rfl⟩, rfl⟩
  · rename_i t e; exact .inl ⟨_, e, .inr ⟨_, rfl⟩, rfl⟩
  · exact .inr rfl
def Out.resM (k : Nat) : Out → FRes
  | .rt s δ => backAt k δ fun l => .ok s l
  | .nx δ => backAt k δ fun l => .ok (.val .none) l
  | .ex x δ => backAt k δ fun l => .exc x l
  | _ => .stuck
/-- a def of n slots and p parameters, the k-th lent -/
def mDefM (n p k : Nat) (b : MS) : FM := fun ss => if ss.length = p then (b (start0 n ss)).resM k else .stuck
def butAll (H : Hp) (fp : List Addr) : Hp := fun x => if x ∈ fp then none else H x
theorem butAll_in {H : Hp} {fp : List Addr} {a : Addr} (h : a ∈ fp) : butAll H fp a = none := if_pos h
theorem butAll_off {H : Hp} {fp : List Addr} {a : Addr} (h : a ∉ fp) : butAll H fp a = H a := if_neg h
theorem butAll_none {H : Hp} {fp : List Addr} {a : Addr} (h : butAll H fp a = none) : a ∈ fp ∨ H a = none := by
  by_cases ha : a ∈ fp
  · exact .inl ha
  · rw [butAll_off ha] at h; exact .inr h
theorem start_okM {C : Cn} {k : Nat} {r : V} {fp : List Addr} (hR : C.R = [(k, r)]) {G H : Hp} {N : List Str} {ss : List Slot} {vs : List V} (gh : Same G H) (A : ArgsM C.K G H ss vs k r fp) : StR C (butAll H fp) G G H (L2.start N vs) (start0 N.length ss) := by
  obtain ⟨s0, e0, v0, l0⟩ := A.ln
  have there : ∀ a ∈ fp, H a ≠ none := by
    cases s0 with
    | own d => obtain ⟨b, _, ef, t⟩ := l0; subst ef; intro a ha; rw [List.mem_singleton] at ha; subst ha; exact t.ne
    | tr t => exact Own.there l0
    | val d => exact l0.elim
    | bor d => exact l0.elim
    | bt d => exact l0.elim
    | exn d => exact l0.elim
  refine ⟨fun b u q => ?_, Same.refl _, gh, fun _ e _ => e, ?_, fun p hp => ?_, fun i => if i = k then fp else [], fun i s e => ?_, fun i e => ?_, fun i => ?_, fun i j c hij h => ?_, fun i c h => ?_⟩
  · by_cases hb : b ∈ fp
    · rw [butAll_in hb] at q; cases q
    · rw [butAll_off hb] at q; exact q
  · unfold L2.start start0
    simp [A.len]
  · rw [hR, List.mem_singleton] at hp
    subst hp
    exact start_v v0
  · have e' := start_at e
    by_cases hi : i = k
    · subst hi
      rw [e0] at e'; cases e'
      refine ⟨r, start_v v0, ?_⟩
      rw [if_pos rfl]
      cases s0 with
      | own d => exact l0
      | tr t => exact l0
      | val d => exact l0.elim
      | bor d => exact l0.elim
      | bt d => exact l0.elim
      | exn d => exact l0.elim
    · obtain ⟨d, v, rfl, q, rp⟩ := A.vals i s e' hi
      exact ⟨v, start_v q, by rw [if_neg hi]; exact ⟨rfl, rp⟩⟩
  · by_cases hi : i = k
    · subst hi
      have hl : i < ss.length := (List.getElem?_eq_some_iff.mp e0).1
      refine absurd ?_ (e s0)
      unfold start0
      rw [List.getElem?_append_left (by simpa using hl), List.getElem?_map, e0]; rfl
    · exact if_neg hi
  · by_cases hi : i = k
    · simp only [hi, if_true]; exact A.nd
    · simp only [hi, if_false]; exact List.nodup_nil
  · by_cases hi : i = k
    · simp only [hi, if_true] at h
      have hj : ¬ j = k := fun z => hij (hi.trans z.symm)
      simp only [hj, if_false]
      exact fun z => nomatch z
    · simp only [hi, if_false] at h; cases h
  · by_cases hi : i = k
    · simp only [hi, if_true] at h
      exact ⟨butAll_in h, A.off c h⟩
    · simp only [hi, if_false] at h; cases h
section
variable {P : Program} {w : World} {K : PySem.W.Frag} {mg : Str → Option Value} {base : Heap} {ec : EC → Addr}
/-- THE RULE for a def that changes what it is lent -/
theorem fn_m {x qual : Str} {st : Stmt} {f : Addr} {fd : FuncData} {N ps : List Str} {k l : Nat} {b : MS} (F0 : Fun K x qual st f fd) (S : FnScope N ps (defScope st))
    (hbody : ∀ (r : V) (cdv : Value) (A : Around) (outer : List Env) (s : Shared) (H : Hp) (E : XK), Room k (A.deeper (PyProof.Rows.envOfC qual (defScope st) s.heap.objs.size f cdv)) →
      DSs (cxOf (L2.CX P w) P w K mg base N qual (defScope st) f cdv A outer s H E) ⟨ec, fun _ _ => False, [(l, r)]⟩ (fun cls d _ H' => E cls d H') (defBody st) b) :
    FnOk P w K mg base (L2.CX P w) (k + 1) f fd ps (spM ⟨⟨K, w⟩, ec, fun _ _ => False, []⟩ l (mDefM N.length ps.length l b)) := by
  refine F0.okX S (fun vs H Q E h => ?_) (fun cdv A outer s H vs Q E hr h => ?_)
  · obtain ⟨G, ss, r, fp, gh, A, q⟩ := h
    unfold mDefM at q
    by_cases z : ss.length = ps.length
    · rw [← A.len]; exact z
    · rw [if_neg z] at q; exact q.elim
  · obtain ⟨G, ss, r, fp, gh, Ar, q⟩ := h
    obtain ⟨t, p, snd⟩ := hbody r cdv A outer s H E hr
    refine ⟨t, p, ?_⟩
    unfold mDefM at q
    by_cases z : ss.length = ps.length
    · rw [if_pos z] at q
      have S0 := start_okM (C := cn (cxOf (L2.CX P w) P w K mg base N qual (defScope st) f cdv A outer s H E) ⟨ec, fun _ _ => False, [(l, r)]⟩) (N := N) rfl gh Ar
      refine snd (butAll H fp) G G H _ (start0 N.length ss) _ S0 ?_
      have stp : ∀ {δ' : DEnv} {σ' : St} {G' H' : Hp}, StR (cn (cxOf (L2.CX P w) P w K mg base N qual (defScope st) f cdv A outer s H E) ⟨ec, fun _ _ => False, [(l, r)]⟩) (butAll H fp) G G' H' σ' δ' → StpF fp G H G' H' := fun T =>
        ⟨T.g0, fun a o e hn => T.bh a o (by rw [butAll_off hn]; exact e), T.gh, fun a e hh hn => T.fr a e (by rw [butAll_off hn]; exact hh)⟩
      have bck : ∀ {δ' : DEnv} {σ' : St} {G' H' : Hp} {fps : Nat → List Addr} {sl : Slot} {fpv : List Addr}, StR (cn (cxOf (L2.CX P w) P w K mg base N qual (defScope st) f cdv A outer s H E) ⟨ec, fun _ _ => False, [(l, r)]⟩) (butAll H fp) G G' H' σ' δ' →
          EnR (cn (cxOf (L2.CX P w) P w K mg base N qual (defScope st) f cdv A outer s H E) ⟨ec, fun _ _ => False, [(l, r)]⟩) (butAll H fp) G' H' σ' δ' fps → δ'[l]? = some (some sl) → ((∃ d, sl = .own d) ∨ ∃ t, sl = .tr t) → (∀ a ∈ fpv, ∀ i, a ∉ fps i) → BackM ⟨K, w⟩ fp H G' H' r sl fpv := by
        intro δ' σ' G' H' fps sl fpv T E e hs hv
        obtain ⟨v, q1, z⟩ := E.sl l sl e
        have hrt := T.rt (l, r) List.mem_cons_self
        rw [q1] at hrt
        cases hrt
        refine ⟨fps l, ?_, E.nd l, fun a ha => ⟨butAll_none (E.off l a ha).1, (E.off l a ha).2, fun w => hv a w l ha⟩⟩
        rcases hs with ⟨d, rfl⟩ | ⟨t, rfl⟩
        · exact z
        · exact z
      generalize b (start0 N.length ss) = o at q
      cases o with
      | bk δ' => exact q.elim
      | ct δ' => exact q.elim
      | stuck => exact q.elim
      | nx δ' =>
        intro σ' G' H' T
        obtain ⟨fps, E⟩ := T.en
        rcases backAt_is l δ' (fun l => .ok (.val .none) l) with ⟨sl, ed, hs, eb⟩ | eb
        · simp only [Out.resM, eb] at q
          exact q .non G' H' [] (stp T) ⟨rfl, Rep.non⟩ List.nodup_nil (fun a ha => nomatch ha) (bck T E ed hs fun a ha => nomatch ha)
        · simp only [Out.resM, eb] at q
      | rt s1 δ' =>
        intro v σ' G' H' R
        obtain ⟨fps, fpv, E, rv, nd, qv⟩ := R.en
        have hv : ∀ a ∈ fpv, (a ∈ fp ∨ H a = none) ∧ G' a = none := fun a ha => ⟨butAll_none (qv a ha).1.1, (qv a ha).1.2⟩
        rcases backAt_is l δ' (fun l => .ok s1 l) with ⟨sl, ed, hs, eb⟩ | eb
        · simp only [Out.resM, eb] at q
          exact q v G' H' fpv (stp R.st) rv nd hv (bck R.st E ed hs fun a ha => (qv a ha).2)
        · simp only [Out.resM, eb] at q
      | ex x δ' =>
        intro cls d σ' G' H' T rr
        obtain ⟨fps, E⟩ := T.en
        rcases backAt_is l δ' (fun l => .exc x l) with ⟨sl, ed, hs, eb⟩ | eb
        · simp only [Out.resM, eb] at q
          exact q cls d G' H' (stp T) (bck T E ed hs fun a ha => nomatch ha) rr
        · simp only [Out.resM, eb] at q
    · rw [if_neg z] at q; exact q.elim
/-- the def x keeps the promise f about what it is lent as its l-th parameter -/
def FdM (P : Program) (w : World) (K : PySem.W.Frag) (mg : Str → Option Value) (base : Heap) (ec : EC → Addr) (x : Str) (ps : List Str) (k l : Nat) (f : FM) : Prop :=
  ∃ fa fd, FnOk P w K mg base (L2.CX P w) k fa fd ps (spM ⟨⟨K, w⟩, ec, fun _ _ => False, []⟩ l f) ∧ mg x = some (.ref fa) ∧ PySem.W.keepIn K (.ref fa) = true ∧ Binds K fd ps []
theorem fdM_of {x : Str} {st : Stmt} {N ps : List Str} {k l : Nat} {b : MS} (S : FnScope N ps (defScope st)) (L : Ln K mg x st ps)
    (hbody : ∀ {f : Addr} (Lt : V) (cdv : Value) (A : Around) (outer : List Env) (s : Shared) (H : Hp) (E : XK), Room k (A.deeper (PyProof.Rows.envOfC x (defScope st) s.heap.objs.size f cdv)) →
      DSs (cxOf (L2.CX P w) P w K mg base N x (defScope st) f cdv A outer s H E) ⟨ec, fun _ _ => False, [(l, Lt)]⟩ (fun cls d _ H' => E cls d H') (defBody st) b) :
    FdM P w K mg base ec x ps (k + 1) l (mDefM N.length ps.length l b) := by
  obtain ⟨fa, fd, F0, hm, hb⟩ := L
  exact ⟨fa, fd, fn_m F0 S (fun Lt cdv A outer s H E hr => hbody Lt cdv A outer s H E hr), hm, F0.kp, hb⟩
/-- nothing promised: the bottom of a def that calls itself -/
theorem fdM_bot {x : Str} {st : Stmt} {N ps : List Str} {k l : Nat} (S : FnScope N ps (defScope st)) (L : Ln K mg x st ps) : FdM P w K mg base ec x ps (k + 1) l (fun _ => .stuck) := by
  obtain ⟨fa, fd, F0, hm, hb⟩ := L
  exact ⟨fa, fd, F0.okX (N := N) S (fun vs H Q E h => by obtain ⟨_, _, _, _, _, _, q⟩ := h; exact q.elim) (fun cdv A outer s H vs Q E hr h => by obtain ⟨_, _, _, _, _, _, q⟩ := h; exact q.elim), hm, F0.kp, hb⟩
theorem fd_bot {x : Str} {st : Stmt} {N ps : List Str} {k : Nat} (S : FnScope N ps (defScope st)) (L : Ln K mg x st ps) : Fd P w K mg base ec x ps (k + 1) (fun _ => .stuck) := by
  obtain ⟨fa, fd, F0, hm, hb⟩ := L
  exact ⟨fa, fd, F0.okX (N := N) S (fun vs H Q E h => by obtain ⟨_, _, _, _, q⟩ := h; exact q.elim) (fun cdv A outer s H vs Q E hr h => by obtain ⟨_, _, _, _, q⟩ := h; exact q.elim), hm, F0.kp, hb⟩
theorem fdM_mono {x : Str} {ps : List Str} {j k l : Nat} {f : FM} (h : j ≤ k) (L : FdM P w K mg base ec x ps j l f) : FdM P w K mg base ec x ps k l f := by
  obtain ⟨fa, fd, F0, r⟩ := L
  exact ⟨fa, fd, F0.mono h, r⟩
end
end DL
/-! DLn: calls that change what they are lent; comprehensions, tests and statements with effects -/
namespace DL
open PySem L2
section
variable {X : Cx} {a : Ax} {W : WX} {e e2 e3 o : Expr} {es : List Expr} {pos : Pos}
/-! ### 1. arguments, one of them lent -/
def AMR (K : Kw) (G : Hp) (i : Nat) (σ : St) (δ : DEnv) (s : Slot) (v : V) : Prop := (∃ d, s = .val d ∧ Rep K G v d) ∨ (δ[i]? = some (some s) ∧ isO (some (some s)) = true ∧ σ[i]? = some (some v))
def DAM (X : Cx) (a : Ax) (W : WX) (i : Nat) (es : List Expr) (m : DEnv → Res (List Slot)) : Prop :=
  ∃ t, PA X es t ∧ ∀ B G0 G H σ δ, StR (cn X a) B G0 G H σ δ → ∀ Q, ROk (cn X a) W σ G H (fun G' H' ss vs => Paired (AMR X.kw G' i σ δ) ss vs) (m δ) Q → t σ H Q
def amVal (m : MD) (n : DEnv → Res (List Slot)) : DEnv → Res (List Slot) := fun δ => (m δ).bind fun d => (n δ).bind fun ss => .ok (.val d :: ss)
def amLent (i : Nat) (n : DEnv → Res (List Slot)) : DEnv → Res (List Slot) := fun δ => match δ[i]? with
  | some (some (.own d)) => (n δ).bind fun ss => .ok (.own d :: ss)
  | some (some (.tr t)) => (n δ).bind fun ss => .ok (.tr t :: ss)
  | _ => .stuck
theorem AMR.mono {K : Kw} {G G' : Hp} {i : Nat} {σ : St} {δ : DEnv} (g : Same G G') {s : Slot} {v : V} (h : AMR K G i σ δ s v) : AMR K G' i σ δ s v := by
  rcases h with ⟨d, e, r⟩ | h
  · exact .inl ⟨d, e, r.mono g⟩
  · exact .inr h
theorem dam_nil {i : Nat} : DAM X a W i [] mANil := ⟨_, pa_nil, fun B G0 G H σ δ S Q hq => hq [] G H (Stp.refl S.gh) .nil⟩
theorem dam_val {i : Nat} {m : MD} {n : DEnv → Res (List Slot)} (h : DV X a W e m) (k : DAM X a W i es n) (hs : starEach (e :: es) X.env = (false, eval e X.env) :: starEach es X.env := by rfl) : DAM X a W i (e :: es) (amVal m n) := by
  obtain ⟨t, p, s⟩ := h
  obtain ⟨u, q, z⟩ := k
  refine ⟨_, pa_cons p q hs, fun B G0 G H σ δ S Q hq => ?_⟩
  refine s B G0 G H σ δ S _ ?_
  have hq' : ROk (cn X a) W σ G H (fun G' H' ss vs => Paired (AMR X.kw G' i σ δ) ss vs) ((m δ).bind fun d => (n δ).bind fun ss => .ok (.val d :: ss)) Q := hq
  generalize m δ = r at hq'
  cases r with
  | stuck => exact hq'.elim
  | exc x => exact hq'
  | ok d =>
    intro v G1 H1 st1 r1
    refine z B G0 G1 H1 σ δ (S.step st1) _ ?_
    have hq2 : ROk (cn X a) W σ G H (fun G' H' ss vs => Paired (AMR X.kw G' i σ δ) ss vs) ((n δ).bind fun ss => .ok (.val d :: ss)) Q := hq'
    generalize n δ = rn at hq2
    cases rn with
    | stuck => exact hq2.elim
    | exc x => exact fun cls d G3 H3 s3 r => hq2 cls d G3 H3 (st1.trans s3) r
    | ok ss => exact fun vs G3 H3 st3 r3 => hq2 (v :: vs) G3 H3 (st1.trans st3) (.cons (.inl ⟨d, rfl, Rep.mono st3.g r1⟩) r3)
theorem dam_lent {i : Nat} {x : Str} {p : Pos} {n : DEnv → Res (List Slot)} (k : DAM X a W i es n) (hN : X.N[i]? = some x := by rfl) (hv : Vis X.env.scope x := by first | exact Or.inl rfl | exact Or.inr (Or.inl rfl) | exact Or.inr (Or.inr rfl)) (hd : (x == ("__debug__" : Str)) = false := by decide)
    (hcd : (x == ("__classdict__" : Str)) = false := by decide) (hs : starEach (.Name x p :: es) X.env = (false, eval (.Name x p) X.env) :: starEach es X.env := by rfl) : DAM X a W i (.Name x p :: es) (amLent i n) := by
  obtain ⟨u, q, z⟩ := k
  refine ⟨_, pa_cons (pe_var (i := i) hN hv hd hcd) q hs, fun B G0 G H σ δ S Q hq => ?_⟩
  have go : ∀ s, δ[i]? = some (some s) → isO (some (some s)) = true → ROk (cn X a) W σ G H (fun G' H' ss vs => Paired (AMR X.kw G' i σ δ) ss vs) ((n δ).bind fun ss => .ok (s :: ss)) Q → ∃ v, σ[i]? = some (some v) ∧ u σ H fun vs H1 => Q (v :: vs) H1 := by
    intro s es ho hq2
    obtain ⟨v, fp, ev, _⟩ := S.sl es
    refine ⟨v, ev, z B G0 G H σ δ S _ ?_⟩
    generalize n δ = rn at hq2
    cases rn with
    | stuck => exact hq2.elim
    | exc x => exact hq2
    | ok ss => exact fun vs G3 H3 st3 r3 => hq2 (v :: vs) G3 H3 st3 (.cons (.inr ⟨es, ho, ev⟩) r3)
  unfold amLent at hq
  split at hq
  · rename_i d ei
    exact go _ ei rfl hq
  · rename_i d ei
    exact go _ ei rfl hq
  · exact hq.elim
def allVal : List Slot → Bool
  | [] => true
  | .val _ :: r => allVal r
  | _ => false
/-- all are values but the k-th -/
def okM : Nat → List Slot → Bool
  | 0, s :: r => isO (some (some s)) && allVal r
  | n + 1, .val _ :: r => okM n r
  | _, _ => false
theorem allVal_at : ∀ {ss : List Slot} {i : Nat} {s : Slot}, allVal ss = true → ss[i]? = some s → ∃ d, s = .val d
  | [], _, _, _, e => by simp at e
  | s :: r, i, u, h, e => by
    cases s with
    | val d => cases i with
      | zero => simp at e; exact ⟨d, e.symm⟩
      | succ i => exact allVal_at (ss := r) h (by simpa using e)
    | own d => cases h
    | bor d => cases h
    | tr d => cases h
    | bt d => cases h
    | exn d => cases h
theorem okM_at : ∀ {k : Nat} {ss : List Slot}, okM k ss = true → (∃ s, ss[k]? = some s ∧ isO (some (some s)) = true) ∧ ∀ i s, ss[i]? = some s → i ≠ k → ∃ d, s = .val d
  | 0, [], h => by cases h
  | k + 1, [], h => by cases h
  | 0, s :: r, h => by
    have h' : isO (some (some s)) = true ∧ allVal r = true := by simpa [okM] using h
    refine ⟨⟨s, rfl, h'.1⟩, fun i u e hi => ?_⟩
    cases i with
    | zero => exact absurd rfl hi
    | succ i => exact allVal_at h'.2 (by simpa using e)
  | k + 1, s :: r, h => by
    cases s with
    | val d =>
      obtain ⟨⟨s, h1, h2⟩, h3⟩ := okM_at (k := k) (ss := r) h
      refine ⟨⟨s, by simpa using h1, h2⟩, fun i u e hi => ?_⟩
      cases i with
      | zero => simp at e; exact ⟨d, e.symm⟩
      | succ i => exact h3 i u (by simpa using e) fun z => hi (by rw [z])
    | own d => cases h
    | bor d => cases h
    | tr d => cases h
    | bt d => cases h
    | exn d => cases h
theorem paired_at {α β : Type} {R : α → β → Prop} : ∀ {xs : List α} {ys : List β}, Paired R xs ys → ∀ {i : Nat} {x : α}, xs[i]? = some x → ∃ y, ys[i]? = some y ∧ R x y
  | _, _, .nil, i, _, e => by simp at e
  | _, _, .cons r t, 0, _, e => by simp at e; subst e; exact ⟨_, rfl, r⟩
  | _, _, .cons _ t, i + 1, _, e => by
    obtain ⟨y, h1, h2⟩ := paired_at t (i := i) (by simpa using e)
    exact ⟨y, by simpa using h1, h2⟩
def callR (i : Nat) (δ : DEnv) (r : FRes) : MRes := match r with
  | .ok s l => if isO (some (some l)) = true then .ok s (δ.set i (some l)) else .stuck
  | .exc x l => if isO (some (some l)) = true then .exc x (δ.set i (some l)) else .stuck
  | .stuck => .stuck
/-- a call: the variable i is lent as the k-th argument -/
def emCall (i k : Nat) (f : FM) (m : DEnv → Res (List Slot)) : MM := fun δ => match m δ with
  | .ok ss => if okM k ss = true ∧ isO δ[i]? = true then callR i δ (f ss) else .stuck
  | .exc x => .exc x δ
  | .stuck => .stuck
theorem kp_call {i k : Nat} {f : FM} {m : DEnv → Res (List Slot)} : Kp (emCall i k f m) := fun δ => by
  unfold emCall
  split
  · split
    · rename_i h
      unfold callR
      split
      · split
        · rename_i h2; exact Keep.set h.2 h2
        · exact True.intro
      · split
        · rename_i h2; exact Keep.set h.2 h2
        · exact True.intro
      · exact True.intro
    · exact True.intro
  · exact Keep.refl δ
  · exact True.intro
/-- from the callee's word to the frame -/
theorem back_ok {C : Cn} {B G0 G H G' H' : Hp} {σ : St} {δ : DEnv} {i : Nat} {r : V} {l : Slot} {fps : Nat → List Addr} {fpv : List Addr} (S : StR C B G0 G H σ δ) (E : EnR C B G H σ δ fps) (hi : i < δ.length) (hr : σ[i]? = some (some r)) (st : StpF (fps i) G H G' H') (b : BackM C.K (fps i) H G' H' r l fpv)
    (hv : ∀ a ∈ fpv, (a ∈ fps i ∨ H a = none) ∧ G' a = none) : ∃ fps', EnR C B G' H' σ (δ.set i (some l)) fps' ∧ StR C B G0 G' H' σ (δ.set i (some l)) ∧ ∀ a ∈ fpv, (B a = none ∧ G' a = none) ∧ ∀ j, a ∉ fps' j := by
  obtain ⟨fp', ln, nd, q⟩ := b
  have sl : SlR C B G' H' fp' l r := by
    cases l with
    | own d => exact ln
    | tr t => exact ln
    | val d => exact ln.elim
    | bor d => exact ln.elim
    | bt d => exact ln.elim
    | exn d => exact ln.elim
  have gn : ∀ a, G' a ≠ none → G a ≠ none ∨ H a = none ∨ a ∈ fps i := fun a ha => by
    by_cases h1 : G a = none
    · by_cases h2 : H a = none
      · exact .inr (.inl h2)
      · by_cases h3 : a ∈ fps i
        · exact .inr (.inr h3)
        · exact absurd (st.fr a h1 h2 h3) ha
    · exact .inl h1
  have nw : ∀ a ∈ fp', (a ∈ fps i ∨ H a = none) ∧ G' a = none := fun a ha => ⟨(q a ha).1, (q a ha).2.1⟩
  have E' := E.put S.bh S.len hi st.g st.h gn sl nd nw
  have S' := S.put E hi st.g st.gh st.h gn sl nd nw (fun p hp e => by have := S.rt p hp; rw [e, hr] at this; exact Option.some.inj (Option.some.inj this))
  rw [set_id hr] at E' S'
  refine ⟨_, E', S', fun a ha => ⟨⟨?_, (hv a ha).2⟩, fun j z => ?_⟩⟩
  · rcases (hv a ha).1 with w | w
    · exact (E.off i a w).1
    · exact S.bh.free w
  · by_cases hj : j = i
    · subst hj
      rw [fset_same] at z
      exact (q a z).2.2 ha
    · rw [fset_ne hj] at z
      rcases (hv a ha).1 with w | w
      · exact E.dj j i a hj z w
      · exact E.there z w
theorem em_call {x : Str} {f : FM} {k i l : Nat} {ps : List Str} {p : Pos} {m : DEnv → Res (List Slot)} (F0 : FdM X.prog X.w X.K X.mg X.base a.ec x ps k l f) (hr : Room k X.A) (hg : Gl X x) (tk : Takes X W) (h : DAM X a W i (e :: es) m)
    (hdb : (x == ("__debug__" : Str)) = false := by decide) (he : starEach (e :: es) X.env = (false, eval e X.env) :: starEach es X.env := by rfl) (hpl : (backTo pos (starEach es X.env)).any (·.1) = false := by rfl) : EDE X a W (.Call (.Name x p) (e :: es) [] pos) (emCall i l f m) := by
  obtain ⟨fa, fd, F1, hm, hk, hb⟩ := F0
  obtain ⟨t, pa, s⟩ := h
  refine ⟨_, pe_callS F1 hr hg hm hk hb (fun σ => passAt tk σ) pa hdb he hpl, fun B G0 G H σ δ S Q hq => ?_, kp_call⟩
  refine s B G0 G H σ δ S _ ?_
  unfold emCall at hq
  cases rm : m δ with
  | stuck => rw [rm] at hq; exact hq.elim
  | exc x => rw [rm] at hq; exact fun cls d G' H' st r => hq cls d G' H' (S.step st) r
  | ok ss =>
    rw [rm] at hq
    intro vs G1 H1 st1 pr
    simp only at hq
    by_cases hz : okM l ss = true ∧ isO δ[i]? = true
    · rw [if_pos hz] at hq
      have S1 := S.step st1
      obtain ⟨fps, E⟩ := S1.en
      obtain ⟨⟨s0, h0, ho⟩, hv⟩ := okM_at hz.1
      obtain ⟨r, q1, am⟩ := paired_at pr h0
      have am' : δ[i]? = some (some s0) ∧ σ[i]? = some (some r) := by
        rcases am with ⟨d, e, _⟩ | ⟨e, _, e2⟩
        · rw [e] at ho; cases ho
        · exact ⟨e, e2⟩
      obtain ⟨v0, q0, sl⟩ := E.sl i s0 am'.1
      rw [am'.2] at q0; cases q0
      have ln : LnR X.kw G1 H1 (fps i) s0 r := by
        cases s0 with
        | own d => exact sl
        | tr t => exact sl
        | val d => cases ho
        | bor d => cases ho
        | bt d => cases ho
        | exn d => cases ho
      have hi : i < δ.length := (List.getElem?_eq_some_iff.mp am'.1).1
      refine ⟨G1, ss, r, fps i, S1.gh, ⟨Paired.length pr, fun j u e hj => ?_, ⟨s0, h0, q1, ln⟩, E.nd i, fun c hc => (E.off i c hc).2⟩, ?_⟩
      · obtain ⟨v, q2, am2⟩ := paired_at pr e
        obtain ⟨d, ed⟩ := hv j u e hj
        rcases am2 with ⟨d2, e2, rp⟩ | ⟨_, ho2, _⟩
        · exact ⟨d2, v, e2, q2, rp⟩
        · rw [ed] at ho2; cases ho2
      · cases rf : f ss with
        | stuck => rw [rf] at hq; exact hq.elim
        | ok s2 l2 =>
          rw [rf] at hq
          unfold callR at hq
          simp only at hq
          split at hq
          · intro v G2 H2 fpv sF rv nd hvv bk
            obtain ⟨fps', E', S', q⟩ := back_ok S1 E hi am'.2 sF bk hvv
            exact hq v G2 H2 ⟨S', fps', fpv, E', rv, nd, q⟩ (st1.g.trans sF.g)
          · exact hq.elim
        | exc x l2 =>
          rw [rf] at hq
          unfold callR at hq
          simp only at hq
          split at hq
          · intro cls d G2 H2 sF bk rr
            obtain ⟨fps', E', S', q⟩ := back_ok S1 E hi am'.2 sF bk (fun a ha => nomatch ha)
            exact hq cls d G2 H2 S' rr
          · exact hq.elim
    · rw [if_neg hz] at hq; exact hq.elim
/-- a new list of no name is lent: nothing of it is seen later -/
def mCallTmp (f : FM) (m : ME) (n : ML) : ME := fun δ => (m δ).bind fun s => match s with
  | .own d => (n δ).bind fun ds => match f (.own d :: ds.map Slot.val) with | .ok r _ => .ok r | .exc x _ => .exc x | .stuck => .stuck
  | _ => .stuck
theorem resF_of {C : Cn} {H0 G H : Hp} {fpv : List Addr} {s : Slot} {v : V} (r : RvR C G H fpv s v) (nd : fpv.Nodup) (h : ∀ a ∈ fpv, H0 a = none ∧ G a = none) : ResF C.K H0 G H s v := by
  cases s with
  | val d => exact r.2
  | own d => obtain ⟨b, e, ef, t⟩ := r; subst ef; exact ⟨b, e, (h b List.mem_cons_self).2, (h b List.mem_cons_self).1, t⟩
  | tr t => exact ⟨fpv, r, nd, fun a ha => ⟨(h a ha).2, (h a ha).1⟩⟩
  | bor d => exact r.elim
  | bt d => exact r.elim
  | exn d => exact r.elim
theorem vals_at {K : Kw} {G : Hp} : ∀ {vs : List V} {ds : List PyData} {i : Nat} {s : Slot}, RepL K G vs ds → (ds.map Slot.val)[i]? = some s → ∃ d v, s = .val d ∧ vs[i]? = some v ∧ Rep K G v d
  | _, _, _, _, .nil, e => by simp at e
  | _, _, 0, _, .cons r rs, e => by simp at e; exact ⟨_, _, e.symm, rfl, r⟩
  | _, _, i + 1, _, .cons r rs, e => by
    obtain ⟨d, v, h1, h2, h3⟩ := vals_at (i := i) rs (by simpa using e)
    exact ⟨d, v, h1, by simpa using h2, h3⟩
theorem de_callTmp {x : Str} {f : FM} {k : Nat} {ps : List Str} {p : Pos} {m : ME} {n : ML} (F0 : FdM X.prog X.w X.K X.mg X.base a.ec x ps k 0 f) (hr : Room k X.A) (hg : Gl X x) (tk : Takes X W) (h : DE X a W e m) (kk : DA X a W es n) (hs : starEach (e :: es) X.env = (false, eval e X.env) :: starEach es X.env := by rfl)
    (hdb : (x == ("__debug__" : Str)) = false := by decide) (hpl : (backTo pos (starEach es X.env)).any (·.1) = false := by rfl) : DE X a W (.Call (.Name x p) (e :: es) [] pos) (mCallTmp f m n) := by
  obtain ⟨fa, fd, F1, hm, hk, hb⟩ := F0
  obtain ⟨t, pt, s⟩ := h
  obtain ⟨u, pu, z⟩ := kk
  refine ⟨_, pe_callS F1 hr hg hm hk hb (fun σ => passAt tk σ) (pa_cons pt pu hs) hdb hs hpl, fun B G0 G H σ δ S Q hq => ?_⟩
  refine s B G0 G H σ δ S _ ?_
  have hq' : ROk (cn X a) W σ G H (relE X.kw H) ((m δ).bind fun s => match s with
    | .own d => (n δ).bind fun ds => match f (.own d :: ds.map Slot.val) with | .ok r _ => .ok r | .exc x _ => .exc x | .stuck => .stuck
    | _ => .stuck) Q := hq
  generalize m δ = r at hq'
  cases r with
  | stuck => exact hq'.elim
  | exc x => exact hq'
  | ok sl =>
    cases sl with
    | val d => exact hq'.elim
    | bor d => exact hq'.elim
    | tr d => exact hq'.elim
    | bt d => exact hq'.elim
    | exn d => exact hq'.elim
    | own d =>
      intro v G1 H1 st1 ⟨ad, ev, na, n0, tp⟩
      subst ev
      refine z B G0 G1 H1 σ δ (S.step st1) _ ?_
      have hq2 : ROk (cn X a) W σ G H (relE X.kw H) ((n δ).bind fun ds => match f (.own d :: ds.map Slot.val) with | .ok r _ => .ok r | .exc x _ => .exc x | .stuck => .stuck) Q := hq'
      generalize n δ = rn at hq2
      cases rn with
      | stuck => exact hq2.elim
      | exc x => exact fun cls d G3 H3 s3 r => hq2 cls d G3 H3 (st1.trans s3) r
      | ok ds =>
        intro vs G2 H2 st2 rv
        have st := st1.trans st2
        have na2 : G2 ad = none := st2.fr ad na tp.ne
        have fin : ∀ {G3 H3 : Hp}, StpF [ad] G2 H2 G3 H3 → (G3 ad = none ∨ True) → Same G G3 ∧ Same H H3 ∧ Same G3 H3 ∧ ∀ b, G b = none → H b ≠ none → G3 b = none := fun {G3 H3} sF _ => by
          have hne : ∀ b, H b ≠ none → b ∉ [ad] := fun b hb => by
            rw [List.mem_singleton]; intro w; subst w; exact hb n0
          exact ⟨st.g.trans sF.g, fun b o e => sF.h b o (st.h b o e) (hne b (by rw [e]; exact fun z => nomatch z)), sF.gh, fun b e hb' => sF.fr b (st.fr b e hb') (Same.ne st.h hb') (hne b hb')⟩
        refine ⟨G2, .own d :: ds.map Slot.val, .ref ad, [ad], st2.gh, ⟨by simp [rv.length], fun i s e hi => ?_, ⟨.own d, rfl, rfl, ad, rfl, rfl, tp.mono st2.g st2.h⟩, by simp, fun b hb => by rw [List.mem_singleton] at hb; subst hb; exact na2⟩, ?_⟩
        · cases i with
          | zero => exact absurd rfl hi
          | succ i =>
            obtain ⟨d, v, h1, h2, h3⟩ := vals_at rv (by simpa using e)
            exact ⟨d, v, h1, by simpa using h2, h3⟩
        · have hq3 : ROk (cn X a) W σ G H (relE X.kw H) (match f (.own d :: ds.map Slot.val) with | .ok r _ => .ok r | .exc x _ => .exc x | .stuck => .stuck) Q := hq2
          cases rf : f (.own d :: ds.map Slot.val) with
          | stuck => rw [rf] at hq3; exact hq3.elim
          | exc x l2 =>
            rw [rf] at hq3
            intro cls dd G3 H3 sF bk rr
            obtain ⟨g1, g2, g3, g4⟩ := fin sF (.inr trivial)
            exact hq3 cls dd G3 H3 ⟨g1, g2, g3, g4⟩ rr
          | ok s2 l2 =>
            rw [rf] at hq3
            intro v G3 H3 fpv sF rr nd hv bk
            obtain ⟨g1, g2, g3, g4⟩ := fin sF (.inr trivial)
            refine hq3 v G3 H3 ⟨g1, g2, g3, g4⟩ (resF_of (C := cn X a) rr nd fun b hb => ⟨?_, (hv b hb).2⟩)
            rcases (hv b hb).1 with w | w
            · rw [List.mem_singleton] at w; subst w; exact n0
            · exact st.h.free w
/-! ### 2. tests with effects -/
def emTest (m : MM) (δ : DEnv) (y n : DEnv → Out) : Out := match m δ with
  | .ok s δ' => match s.bl with
    | .ok b => if b = true then y δ' else n δ'
    | _ => .stuck
  | .exc x δ' => .ex x δ'
  | .stuck => .stuck
def mIfM (c : MM) (m n : MS) : MS := fun δ => emTest c δ m n
theorem ds_ifM {c : MM} {m n : MS} {s1 s2 : List Stmt} (hc : EDE X a W e c) (h : DSs X a W s1 m) (k : DSs X a W s2 n) (he : ∀ whole, isTrue e X.env whole = (do let v ← whole; standAt e.pos; holding [v] (truthy v)) := by intro _; rfl) : DS X a W (.If e s1 s2 pos) (mIfM c m n) := by
  obtain ⟨tc, pc, sc, _⟩ := hc
  obtain ⟨t, p, s⟩ := h
  obtain ⟨u, r, z⟩ := k
  refine ⟨_, ps_if (pt_val pc he) p r, fun B G0 G H σ δ D S q => ?_⟩
  refine sc B G0 G H σ δ S _ ?_
  have q' : OOk (cn X a) W B G0 D (emTest c δ m n) := q
  unfold emTest at q'
  cases rc : c δ with
  | stuck => rw [rc] at q'; exact q'.elim
  | exc x δ' => rw [rc] at q'; exact fun cls d G' H' T ex => q' cls d σ G' H' T ex
  | ok sl δ' =>
    rw [rc] at q'
    intro v G' H' R g'
    simp only at q'
    cases eb : sl.bl with
    | stuck => rw [eb] at q'; exact q'.elim
    | exc x => rw [eb] at q'; exact q'.elim
    | ok b =>
      rw [eb] at q'
      simp only at q'
      unfold Slot.bl at eb
      split at eb
      · cases eb
        obtain ⟨fps, fp, E, rv, _⟩ := R.en
        obtain ⟨_, rv⟩ := rv
        cases rv
        refine ⟨_, rfl, ?_⟩
        cases b with
        | true =>
          simp only [if_true] at q' ⊢
          exact s B G0 G' H' σ δ' D R.st q'
        | false =>
          have q2 : OOk (cn X a) W B G0 D (n δ') := q'
          exact z B G0 G' H' σ δ' D R.st q2
      · cases eb
/-- not, and, or: as values -/
def emNot (m : MM) : MM := fun δ => match m δ with
  | .ok s δ' => match s.bl with
    | .ok b => .ok (.val (.bool (!b))) δ'
    | _ => .stuck
  | r => r
theorem bl_val {s : Slot} {b : Bool} (h : s.bl = .ok b) : s = .val (.bool b) := by
  unfold Slot.bl at h
  split at h
  · cases h; rfl
  · cases h
theorem bl_ne {s : Slot} {x : Exn} : s.bl ≠ .exc x := by
  unfold Slot.bl
  split <;> (intro h; cases h)
theorem em_not {m : MM} (h : EDE X a W e m) : EDE X a W (.UnaryOp .Not e pos) (emNot m) := by
  obtain ⟨t, p, s, kp⟩ := h
  refine ⟨_, pe_not p, fun B G0 G H σ δ S Q q => ?_, fun δ => ?_⟩
  · refine s B G0 G H σ δ S _ ?_
    unfold emNot at q
    cases rc : m δ with
    | stuck => rw [rc] at q; exact q.elim
    | exc x δ' => rw [rc] at q; exact q
    | ok sl δ' =>
      rw [rc] at q
      intro v G' H' R g'
      simp only at q
      cases eb : sl.bl with
      | stuck => rw [eb] at q; exact q.elim
      | exc x => exact (bl_ne eb).elim
      | ok b =>
        rw [eb] at q
        have := bl_val eb
        subst this
        obtain ⟨fps, fp, E, rv, nd, qv⟩ := R.en
        obtain ⟨ef, rv⟩ := rv
        cases rv
        exact ⟨_, rfl, q (.bl (!b)) G' H' ⟨R.st, fps, [], E, ⟨rfl, Rep.bl _⟩, List.nodup_nil, fun a ha => nomatch ha⟩ g'⟩
  · unfold emNot
    have h1 := kp δ
    cases rc : m δ with
    | stuck => exact True.intro
    | exc x δ' => rw [rc] at h1; exact h1
    | ok sl δ' =>
      rw [rc] at h1
      simp only
      cases eb : sl.bl <;> first | exact h1 | exact True.intro
/-! ### 3. statements -/
def mAsgM (i : Nat) (m : MM) : MS := fun δ => match m δ with
  | .ok s δ' => asgS i δ' s
  | .exc x δ' => .ex x δ'
  | .stuck => .stuck
theorem RetR.asg {C : Cn} {B G0 G H : Hp} {σ : St} {δ : DEnv} {s : Slot} {v : V} {i : Nat} (hf : C.free i) (R : RetR C B G0 G H σ δ s v) : StR C B G0 G H (σ.set i (some v)) (δ.set i (some s)) := by
  obtain ⟨fps, fp, E, rv, nd, q⟩ := R.en
  by_cases hi : i < δ.length
  · have S := R.st
    have E1 : EnR C B G H (σ.set i (some v)) (δ.set i (some s)) (fset fps i fp) := by
      refine ⟨fun j u e => ?_, fun j e => ?_, fun j => ?_, fun j k c hjk hc => ?_, fun j c hc => ?_⟩
      · by_cases hj : i = j
        · subst hj
          rw [List.getElem?_set_self hi] at e
          cases e
          refine ⟨v, by rw [List.getElem?_set_self (by rw [S.len]; exact hi)], ?_⟩
          rw [fset_same]
          cases s with
          | val d => exact rv
          | own d => exact rv
          | tr t => exact rv
          | bor d => exact rv.elim
          | bt d => exact rv.elim
          | exn d => exact rv.elim
        · rw [List.getElem?_set_ne hj] at e ⊢
          rw [fset_ne (Ne.symm hj)]
          exact E.sl j u e
      · by_cases hj : i = j
        · subst hj; exact absurd (List.getElem?_set_self hi) (e s)
        · rw [fset_ne (Ne.symm hj)]
          exact E.no j fun u z => e u (by rw [List.getElem?_set_ne hj]; exact z)
      · by_cases hj : j = i
        · subst hj; rw [fset_same]; exact nd
        · rw [fset_ne hj]; exact E.nd j
      · by_cases hj : j = i
        · subst hj
          rw [fset_same] at hc
          rw [fset_ne (Ne.symm hjk)]
          exact (q c hc).2 k
        · rw [fset_ne hj] at hc
          by_cases hk : k = i
          · subst hk; rw [fset_same]; exact fun w => (q c w).2 j hc
          · rw [fset_ne hk]; exact E.dj j k c hjk hc
      · by_cases hj : j = i
        · subst hj; rw [fset_same] at hc; exact (q c hc).1
        · rw [fset_ne hj] at hc; exact E.off j c hc
    exact ⟨S.bh, S.g0, S.gh, S.fr, by simp [S.len], fun p hp => by rw [List.getElem?_set_ne (Ne.symm (hf p hp))]; exact S.rt p hp, _, E1⟩
  · rw [set_out hi, set_out (by rw [R.st.len]; exact hi)]; exact R.st
theorem asgM_ok {C : Cn} {W : WX} {B G0 G H : Hp} {σ : St} {δ : DEnv} {D : Ends} {s : Slot} {v : V} {i : Nat} (hf : C.free i) (R : RetR C B G0 G H σ δ s v) (k : OOk C W B G0 D (asgS i δ s)) : D.nx (σ.set i (some v)) H := by
  cases s with
  | val d => exact k _ G H (R.asg hf)
  | own d => exact k _ G H (R.asg hf)
  | tr d => exact k _ G H (R.asg hf)
  | bor d => exact k.elim
  | bt d => exact k.elim
  | exn d => exact k.elim
theorem ds_asgM {i : Nat} {x : Str} {m : MM} {pos' : Pos} (hfr : a.free i) (hN : X.N.Nodup) (hi : X.N[i]? = some x) (hx : Loc X.env.scope x) (h : EDE X a W e m) (hs : swapsWith e (some (.Name x pos')) pos.line X.env = pure false := by rfl)
    (hf : X.fn x = true ∨ X.env.scope.names.lookup x = some .local := by first | exact .inl rfl | exact .inr rfl | assumption) : DS X a W (.Assign [.Name x pos'] e pos) (mAsgM i m) := by
  obtain ⟨t, p, s, _⟩ := h
  refine ⟨_, ps_set hN hi hx p hs hf, fun B G0 G H σ δ D S q => ?_⟩
  refine s B G0 G H σ δ S _ ?_
  have q' : OOk (cn X a) W B G0 D (mAsgM i m δ) := q
  unfold mAsgM at q'
  cases r : m δ with
  | stuck => rw [r] at q'; exact q'.elim
  | exc x δ' => rw [r] at q'; exact fun cls d G' H' T ex => q' cls d σ G' H' T ex
  | ok sl δ' =>
    rw [r] at q'
    exact fun v G' H' R g' => asgM_ok (C := cn X a) hfr R q'
def mAsgGM (g : MG) (m : MM) : MS := fun δ => match m δ with
  | .ok s δ' => match s.vl with
    | .ok d => tgtO g δ' d
    | _ => .stuck
  | .exc x δ' => .ex x δ'
  | .stuck => .stuck
theorem ds_asgGM {tg : Expr} {g : MG} {m : MM} (h : EDE X a W e m) {vs : List Nat} (hg : DG X a tg g vs) (hs : swapsWithSole [tg] e pos.line X.env = pure false := by rfl) (hw : swappedStores [tg] e X.env = pure none := by rfl)
    (h1 : (assignEach [tg] X.env).map (·.2) = [assign tg X.env] := by rfl) : DS X a W (.Assign [tg] e pos) (mAsgGM g m) := by
  obtain ⟨t, p, s, _⟩ := h
  obtain ⟨u, q, z⟩ := hg
  refine ⟨_, ps_asg (pe_lk p) q hs hw h1, fun B G0 G H σ δ D S k => ?_⟩
  refine s B G0 G H σ δ S _ ?_
  have k' : OOk (cn X a) W B G0 D (mAsgGM g m δ) := k
  unfold mAsgGM at k'
  cases r : m δ with
  | stuck => rw [r] at k'; exact k'.elim
  | exc x δ' => rw [r] at k'; exact fun cls d G' H' T ex => k' cls d σ G' H' T ex
  | ok sl δ' =>
    rw [r] at k'
    intro v G' H' R g'
    cases ev : sl.vl with
    | stuck => simp only [ev] at k'; exact k'.elim
    | exc x => exact (vl_noexc ev).elim
    | ok d =>
      simp only [ev] at k'
      unfold tgtO at k'
      refine R.vl ev fun G2 H2 S2 g2 rp => ?_
      cases e : g d δ' with
      | none => rw [e] at k'; exact k'.elim
      | some δ2 => rw [e] at k'; exact z B G0 G2 H2 σ δ' v d δ2 D.nx S2 rp e fun σ' T _ => k' σ' G2 H2 T
def mRetM (m : MM) : MS := fun δ => match m δ with
  | .ok s δ' => retS δ' s
  | .exc x δ' => .ex x δ'
  | .stuck => .stuck
theorem ds_retM {m : MM} (h : EDE X a W e m) : DS X a W (.Return (some e) pos) (mRetM m) := by
  obtain ⟨t, p, s, _⟩ := h
  refine ⟨_, ps_ret p, fun B G0 G H σ δ D S q => ?_⟩
  refine s B G0 G H σ δ S _ ?_
  have q' : OOk (cn X a) W B G0 D (mRetM m δ) := q
  unfold mRetM at q'
  cases r : m δ with
  | stuck => rw [r] at q'; exact q'.elim
  | exc x δ' => rw [r] at q'; exact fun cls d G' H' T ex => q' cls d σ G' H' T ex
  | ok sl δ' =>
    rw [r] at q'
    intro v G' H' R g'
    cases sl with
    | val d => exact q' v σ G' H' R
    | own d => exact q' v σ G' H' R
    | tr d => exact q' v σ G' H' R
    | bor d => exact q'.elim
    | bt d => exact q'.elim
    | exn d => exact q'.elim
def mDropM (m : MM) : MS := fun δ => match m δ with
  | .ok _ δ' => .nx δ'
  | .exc x δ' => .ex x δ'
  | .stuck => .stuck
theorem ds_exprM {m : MM} (h : EDE X a W e m) (hs : swapsWith e none pos.line X.env = pure false := by rfl) : DS X a W (.Expr e pos) (mDropM m) := by
  obtain ⟨t, p, s, _⟩ := h
  refine ⟨_, ps_expr p hs, fun B G0 G H σ δ D S q => ?_⟩
  refine s B G0 G H σ δ S _ ?_
  have q' : OOk (cn X a) W B G0 D (mDropM m δ) := q
  unfold mDropM at q'
  cases r : m δ with
  | stuck => rw [r] at q'; exact q'.elim
  | exc x δ' => rw [r] at q'; exact fun cls d G' H' T ex => q' cls d σ G' H' T ex
  | ok sl δ' => rw [r] at q'; exact fun v G' H' R g' => q' σ G' H' R.st
/-- l.append(e), e changes what is lent -/
def isL : Option (Option Slot) → Bool
  | some (some (.own (.list _))) => true
  | _ => false
def mAppM (i : Nat) (m : MM) : MS := fun δ => if isL δ[i]? = true then (match m δ with
  | .ok s δ' => match s.vl with
    | .ok d => match δ'[i]? with
      | some (some (.own (.list ds))) => if ds.length < sizeLine then .nx (δ'.set i (some (.own (.list (ds ++ [d]))))) else .stuck
      | _ => .stuck
    | _ => .stuck
  | .exc x δ' => .ex x δ'
  | .stuck => .stuck) else .stuck
theorem ds_appendM {i : Nat} {x : Str} {m : MM} {p1 p2 pos2 : Pos} (h : EDE X a W e m) (hst : starEach (e :: []) X.env = (false, eval e X.env) :: starEach [] X.env := by rfl)
    (hp : ∀ t, PA X [e] t → PE X (.Call (.Attribute (.Name x p1) "append" p2) [e] [] pos) (tBM X.K "list" rAppend (tVar i) t) := by exact fun _ ht => pe_bm PySem.F.plainAttrs_list PySem.F.slot_list_append PySem.F.type_list_append mt_append (pv _) ht)
    (hs : swapsWith (.Call (.Attribute (.Name x p1) "append" p2) [e] [] pos) none pos2.line X.env = pure false := by rfl) :
    DS X a W (.Expr (.Call (.Attribute (.Name x p1) "append" p2) [e] [] pos) pos2) (mAppM i m) := by
  obtain ⟨t, p, s, _⟩ := h
  refine ⟨_, ps_expr (hp _ (pa_cons (pe_lk p) pa_nil hst)) hs, ?_⟩
  intro B G0 G H σ δ D S q
  have q' : OOk (cn X a) W B G0 D (mAppM i m δ) := q
  unfold mAppM at q'
  split at q'
  · rename_i hL
    unfold isL at hL
    split at hL
    · rename_i ds0 ei
      obtain ⟨v, fp, ev, ⟨b, eb, ef, xs, hx, rx⟩, _⟩ := S.sl ei
      subst eb
      refine ⟨_, ev, .inl ⟨rfl, xs, .inl (.inl hx)⟩, ?_⟩
      refine s B G0 G H σ δ S _ ?_
      cases r : m δ with
      | stuck => rw [r] at q'; exact q'.elim
      | exc x δ' => rw [r] at q'; exact fun cls d G' H' T ex => q' cls d σ G' H' T ex
      | ok sl δ' =>
        rw [r] at q'
        intro y G' H' R g'
        cases el : sl.vl with
        | stuck => simp only [el] at q'; exact q'.elim
        | exc x => exact (vl_noexc el).elim
        | ok d =>
          simp only [el] at q'
          split at q'
          · rename_i ds ei2
            split at q'
            · rename_i hz
              refine R.vl el fun G2 H2 S2 g2 rp => ?_
              obtain ⟨v2, fp2, ev2, ⟨b2, eb2, ef2, xs2, hx2, rx2⟩, _⟩ := S2.sl ei2
              rw [ev] at ev2; cases ev2; cases eb2
              refine ⟨b, xs2, y, rfl, rfl, hx2, by rw [rx2.length]; exact hz, ?_⟩
              exact q' σ G2 _ (S2.write (d' := .list (ds ++ [d])) ei2 ev ⟨xs2 ++ [y], upd_same, rx2.snoc rp⟩)
            · exact q'.elim
          · exact q'.elim
    · cases hL
  · exact q'.elim
end
end DL
/-! DLo: comprehensions with effects -/
namespace DL
open PySem L2
section
variable {C : Cn} {B G0 G H : Hp} {σ : St} {δ δ' : DEnv}
/-- the same frame over another base -/
theorem EnR.reB {B1 B2 G1 H1 H2 : Hp} {fps : Nat → List Addr} (S0 : StR C B G0 G H σ δ) (k : Keep δ δ') (g : Same G G1) (E : EnR C B1 G1 H1 σ δ' fps) (b2 : Same B H2) (hB : ∀ b, B b ≠ none → B2 b ≠ none) (h2 : ∀ i a, a ∈ fps i → H2 a = H1 a ∧ B2 a = none) : EnR C B2 G1 H2 σ δ' fps := by
  have bb : ∀ b, B b ≠ none → H2 b = H b := fun b hb => by rw [same_at b2 hb, same_at S0.bh hb]
  refine ⟨fun j s e => ?_, E.no, E.nd, E.dj, fun i a ha => ⟨(h2 i a ha).2, (E.off i a ha).2⟩⟩
  obtain ⟨v, q, z⟩ := E.sl j s e
  refine ⟨v, q, ?_⟩
  cases s with
  | val d => exact z
  | own d =>
    obtain ⟨b, eb, ef, t⟩ := z
    exact ⟨b, eb, ef, t.mono' (Same.refl _) (h2 j b (by rw [ef]; exact List.mem_cons_self)).1⟩
  | tr t => exact Own.keep (Same.refl _) z fun b hb => (h2 j b hb).1
  | bor d =>
    obtain ⟨v0, fp0, q0, ⟨b, eb, ef, nb, t⟩, _⟩ := S0.sl (k.bor e rfl)
    rw [q] at q0; cases q0
    obtain ⟨_, _, ef1, _, _⟩ := z
    exact ⟨b, eb, ef1, hB b nb, t.mono' g (bb b nb)⟩
  | bt t =>
    obtain ⟨v0, fp0, q0, ⟨_, fq, o, hq⟩, _⟩ := S0.sl (k.bor e rfl)
    rw [q] at q0; cases q0
    exact ⟨z.1, fq, o.keep g fun b hb => bb b (hq b hb), fun a ha => hB a (hq a ha)⟩
  | exn x => exact z
/-- the cell set aside gets other contents -/
theorem StR.asideSet {D : Addr} {o o' : HO} {G1 H1 : Hp} (S0 : StR C B G0 G H σ δ) (k : Keep δ δ') (g : Same G G1) (nB : B D = none) (S : StR C (upd B D o) G0 G1 H1 σ δ') (nG : G1 D = none) : StR C (upd B D o') G0 G1 (upd H1 D o') σ δ' := by
  obtain ⟨fps, E⟩ := S.en
  have nD : ∀ i a, a ∈ fps i → a ≠ D := fun i a ha w => by
    have := (E.off i a ha).1
    rw [w, upd_same] at this
    cases this
  refine ⟨fun b u q => ?_, S.g0, fun b u q => ?_, fun x e z => ?_, S.len, S.rt, fps, E.reB S0 k g (fun b u q => ?_) (fun b hb => ?_) fun i a ha => ⟨upd_ne (nD i a ha), ?_⟩⟩
  · by_cases hb : b = D
    · subst hb; rw [upd_same] at q ⊢; exact q
    · rw [upd_ne hb] at q ⊢; exact S.bh b u (by rw [upd_ne hb]; exact q)
  · rw [upd_ne (ne_of_none q nG)]; exact S.gh _ _ q
  · by_cases hx : x = D
    · rw [hx]; exact nG
    · exact S.fr x e (by rw [upd_ne hx] at z ⊢; exact z)
  · have hb : b ≠ D := ne_of_none q nB
    rw [upd_ne hb]
    exact S.bh b u (by rw [upd_ne hb]; exact q)
  · by_cases hD : b = D
    · rw [hD, upd_same]; exact fun z => nomatch z
    · rw [upd_ne hD]; exact hb
  · have := (E.off i a ha).1
    rw [upd_ne (nD i a ha)] at this ⊢
    exact this
def clearAt (vs : List Nat) (δ : DEnv) : Prop := ∀ v ∈ vs, ∀ s, δ[v]? ≠ some (some s)
theorem EnR.unwipe {vs : List Nat} {fps : Nat → List Addr} (E : EnR C B G H (L2.wipe σ vs) δ fps) (hc : clearAt vs δ) : EnR C B G H σ δ fps := by
  refine ⟨fun j s e => ?_, E.no, E.nd, E.dj, E.off⟩
  obtain ⟨v, q, z⟩ := E.sl j s e
  exact ⟨v, by rw [← wipe_off (σ := σ) (vs := vs) fun hm => hc j hm s e]; exact q, z⟩
def allOff (vs : List Nat) (δ : DEnv) : Bool := vs.all fun v => match δ[v]? with
  | some none => true
  | _ => false
theorem allOff_at {vs : List Nat} {δ : DEnv} (h : allOff vs δ = true) {v : Nat} (hv : v ∈ vs) : δ[v]? = some none := by
  have := List.all_eq_true.mp h v hv
  split at this
  · assumption
  · cases this
theorem allOff_of {vs : List Nat} {δ : DEnv} (h : ∀ v ∈ vs, δ[v]? = some none) : allOff vs δ = true := by
  unfold allOff
  rw [List.all_eq_true]
  intro v hv
  rw [h v hv]
theorem wipeD_get {δ : DEnv} {j : Nat} : ∀ {vs : List Nat}, j ∉ vs → (wipeD δ vs)[j]? = δ[j]?
  | [], _ => rfl
  | v :: vs, h => by
    rw [List.mem_cons, not_or] at h
    show ((wipeD δ vs).set v none)[j]? = _
    rw [List.getElem?_set_ne (Ne.symm h.1)]
    exact wipeD_get h.2
theorem wipeD_len {δ : DEnv} : ∀ {vs : List Nat}, (wipeD δ vs).length = δ.length
  | [] => rfl
  | v :: vs => by
    show ((wipeD δ vs).set v none).length = _
    rw [List.length_set]
    exact wipeD_len
theorem wipeD_in {δ : DEnv} {j : Nat} : ∀ {vs : List Nat}, j ∈ vs → j < δ.length → (wipeD δ vs)[j]? = some none
  | v :: vs, h, hl => by
    show ((wipeD δ vs).set v none)[j]? = _
    by_cases hj : v = j
    · subst hj
      exact List.getElem?_set_self (by rw [wipeD_len]; exact hl)
    · rw [List.getElem?_set_ne hj]
      exact wipeD_in ((List.mem_cons.mp h).resolve_left (Ne.symm hj)) hl
theorem wipeD_id {δ : DEnv} {vs : List Nat} (h : allOff vs δ = true) : wipeD δ vs = δ := by
  refine List.ext_getElem? fun j => ?_
  by_cases hj : j ∈ vs
  · rw [wipeD_in hj (List.getElem?_eq_some_iff.mp (allOff_at h hj)).1, allOff_at h hj]
  · exact wipeD_get hj
theorem clear_of {δ : DEnv} {vs : List Nat} (h : allOff vs δ = true) : clearAt vs δ := fun v hv s e => by rw [allOff_at h hv] at e; cases e
def MGOff (g : MG) (us : List Nat) : Prop := ∀ d δ δ', g d δ = some δ' → δ'.length = δ.length ∧ ∀ j : Nat, j ∉ us → δ'[j]? = δ[j]?
theorem Keep.lt {δ δ' : DEnv} (h : Keep δ δ') {i : Nat} (hi : i < δ.length) : i < δ'.length := by
  rcases Nat.lt_or_ge i δ'.length with q | q
  · exact q
  · rcases h i with h | ⟨_, h⟩
    · rw [List.getElem?_eq_none q] at h
      have := List.getElem?_eq_none_iff.mp h.symm
      omega
    · rw [List.getElem?_eq_none q] at h; cases h
/-- what a turn leaves -/
theorem keep_turn {δ δ1 δ2 : DEnv} {vs us : List Nat} (ho : ∀ j : Nat, j ∉ us → δ1[j]? = δ[j]?) (hu : ∀ j ∈ us, j ∈ vs) (hv : allOff vs δ = true) (hlen : δ1.length = δ.length) (c : Keep δ1 δ2) : Keep δ (wipeD δ2 vs) ∧ allOff vs (wipeD δ2 vs) = true := by
  have lin : ∀ v ∈ vs, v < δ2.length := fun v hv' => c.lt (by rw [hlen]; exact (List.getElem?_eq_some_iff.mp (allOff_at hv hv')).1)
  refine ⟨fun j => ?_, allOff_of fun v hv' => wipeD_in hv' (lin v hv')⟩
  by_cases hj : j ∈ vs
  · exact .inl (by rw [allOff_at hv hj, wipeD_in hj (lin j hj)])
  · rw [wipeD_get hj, ← ho j fun z => hj (hu j z)]
    exact c j
def compM (g : MG) (m : MM) (vs : List Nat) : List PyData → DEnv → MLRes
  | [], δ => .ok [] δ
  | d :: ds, δ => match g d δ with
    | none => .stuck
    | some δ1 => match m δ1 with
      | .ok s δ2 => match s.vl with
        | .ok y => match compM g m vs ds (wipeD δ2 vs) with
          | .ok ys δ3 => .ok (y :: ys) δ3
          | _ => .stuck
        | _ => .stuck
      | _ => .stuck
def emComp (vs : List Nat) (g : MG) (it : ML) (m : MM) : MM := fun δ => match it δ with
  | .ok ds => if fits ds = true ∧ allOff vs δ = true then (match compM g m vs ds δ with | .ok ys δ' => .ok (.own (.list ys)) δ' | _ => .stuck) else .stuck
  | .exc x => .exc x δ
  | .stuck => .stuck
/-- one turn of it -/
theorem compM_cons {g : MG} {m : MM} {vs : List Nat} {d : PyData} {ds : List PyData} {δ δ' : DEnv} {ys : List PyData} (e : compM g m vs (d :: ds) δ = .ok ys δ') : ∃ δ1 s δ2 y zs, g d δ = some δ1 ∧ m δ1 = .ok s δ2 ∧ s.vl = .ok y ∧ compM g m vs ds (wipeD δ2 vs) = .ok zs δ' ∧ ys = y :: zs := by
  unfold compM at e
  cases eg : g d δ with
  | none => simp only [eg] at e; cases e
  | some δ1 =>
    simp only [eg] at e
    cases em : m δ1 with
    | stuck => simp only [em] at e; cases e
    | exc x δ2 => simp only [em] at e; cases e
    | ok s δ2 =>
      simp only [em] at e
      cases ev : s.vl with
      | stuck => simp only [ev] at e; cases e
      | exc x => simp only [ev] at e; cases e
      | ok y =>
        simp only [ev] at e
        cases ec : compM g m vs ds (wipeD δ2 vs) with
        | stuck => simp only [ec] at e; cases e
        | exc x δ3 => simp only [ec] at e; cases e
        | ok zs δ3 => simp only [ec] at e; cases e; exact ⟨δ1, s, δ2, y, zs, rfl, em, ev, ec, rfl⟩
theorem compM_keep {g : MG} {m : MM} {vs us : List Nat} (ho : MGOff g us) (hs : ∀ j ∈ us, j ∈ vs) (hm : Kp m) : ∀ {ds : List PyData} {δ δ' : DEnv} {ys : List PyData}, allOff vs δ = true → compM g m vs ds δ = .ok ys δ' → Keep δ δ' ∧ allOff vs δ' = true
  | [], δ, δ', ys, hv, e => by cases e; exact ⟨Keep.refl δ, hv⟩
  | d :: ds, δ, δ', ys, hv, e => by
    obtain ⟨δ1, s, δ2, y, zs, eg, em, ev, ec, _⟩ := compM_cons e
    have h1 := hm δ1
    rw [em] at h1
    obtain ⟨c1, a1⟩ := keep_turn (ho d δ δ1 eg).2 hs hv (ho d δ δ1 eg).1 h1
    obtain ⟨c2, a2⟩ := compM_keep ho hs hm a1 ec
    exact ⟨c1.trans c2, a2⟩
theorem kp_comp {g : MG} {it : ML} {m : MM} {vs us : List Nat} (ho : MGOff g us) (hs : ∀ j ∈ us, j ∈ vs) (hm : Kp m) : Kp (emComp vs g it m) := fun δ => by
  unfold emComp
  cases ri : it δ with
  | stuck => exact True.intro
  | exc x => exact Keep.refl δ
  | ok ds =>
    simp only
    split
    · rename_i hz
      cases rc : compM g m vs ds δ with
      | stuck => exact True.intro
      | exc x δ' => exact True.intro
      | ok ys δ' => exact (compM_keep ho hs hm hz.2 rc).1
    · exact True.intro
theorem snd_compM {C : Cn} {W : WX} {wi : TI} {g : TG} {tt : TT} {te : TE} {mg : MG} {it : ML} {m : MM} {vs us : List Nat} (hf : C.frees vs) (hi : SndI C W wi it) (hg : SndG C g mg us) (ho : MGOff mg us) (hs : ∀ j ∈ us, j ∈ vs) (ht : Snd C W0 relB tt mYes) (he : SndM C W0 te m) (hk : Kp m) :
    SndM C W (tLc wi g tt (tLk te) vs) (emComp vs mg it m) := by
  intro B G0 G H σ δ S Q hq
  refine hi B G0 G H σ δ S _ ?_
  unfold emComp at hq
  cases ri : it δ with
  | stuck => rw [ri] at hq; exact hq.elim
  | exc x => rw [ri] at hq; exact fun cls d G' H' st r => hq cls d G' H' (S.step st) r
  | ok ds =>
    rw [ri] at hq
    by_cases hz : fits ds = true ∧ allOff vs δ = true
    · simp only [if_pos hz] at hq
      intro J G1 H1 st1 gv D hD
      cases rc : compM mg m vs ds δ with
      | stuck => rw [rc] at hq; exact hq.elim
      | exc x δ' => rw [rc] at hq; exact hq.elim
      | ok ys δ' =>
        rw [rc] at hq
        have S1 := S.step st1
        have bD : B D = none := S1.bh.free hD
        have gD : G1 D = none := S1.gh.free hD
        have g0D : G0 D = none := S1.g0.free gD
        have hz' : ds.length ≤ sizeLine := of_decide_eq_true hz.1
        have Sw : StR C B G0 G1 H1 (L2.wipe σ vs) δ := by
          have := S1.wipe vs hf
          rw [wipeD_id hz.2] at this
          exact this
        have sB : ∀ o, Same B (upd B D o) := fun o b u q => by rw [upd_ne (ne_of_none q bD)]; exact q
        refine ⟨fun i k H' => k + i = ds.length ∧ ∃ G' δi acc accd rest, StR C (upd B D (.lst acc)) G0 G' H' (L2.wipe σ vs) δi ∧ Same G1 G' ∧ RepL C.K G' acc accd ∧ acc.length ≤ i ∧ allOff vs δi = true ∧ Keep δ δi ∧ compM mg m vs (ds.drop i) δi = .ok rest δ' ∧ accd ++ rest = ys,
          ⟨ds.length, by omega, G1, δ, [], [], ys, Sw.aside (o := .lst []) hD, Same.refl _, .nil, Nat.le_refl _, hz.2, Keep.refl δ, by simpa using rc, rfl⟩, ?_⟩
        rintro i k H' ⟨hkk, G', δi, acc, accd, rest, Si, g1, ra, hl, hv, hc, hr, hy⟩
        have nD : G' D = none := Si.fr D g0D (by rw [upd_same]; exact fun z => nomatch z)
        obtain ⟨go, stop⟩ := gv i G' H' g1 Si.gh ((sB _).trans Si.bh)
        by_cases hi : i < ds.length
        · have ed : ds[i]? = some ds[i] := List.getElem?_eq_getElem hi
          obtain ⟨go, yl⟩ := go _ ed
          rw [List.drop_eq_getElem_cons hi] at hr
          obtain ⟨δ1, s, δ2, y, zs, eg, em, ev, ec, er⟩ := compM_cons hr
          subst er
          have k1 := hk δ1
          rw [em] at k1
          obtain ⟨c1, a1⟩ := keep_turn (ho _ _ _ eg).2 hs hv (ho _ _ _ eg).1 k1
          refine .inr ⟨go, fun H' => ∃ G' δi acc accd rest, StR C (upd B D (.lst acc)) G0 G' H' (L2.wipe σ vs) δi ∧ Same G1 G' ∧ RepL C.K G' acc accd ∧ acc.length ≤ i + 1 ∧ allOff vs δi = true ∧ Keep δ δi ∧ compM mg m vs (ds.drop (i + 1)) δi = .ok rest δ' ∧ accd ++ rest = ys,
            fun H' n => ⟨k - 1, by omega, by omega, n⟩, fun x H2 yy => ?_⟩
          obtain ⟨G2, st3, r⟩ := yl x H2 yy
          refine hg _ G0 G2 H2 _ _ x ds[i] δ1 _ (Si.step st3) r eg fun σ3 S3 o3 => ⟨wipe_eq o3 hs, ?_⟩
          refine ht _ G0 G2 H2 σ3 δ1 S3 _ ?_
          intro b G3 H3 st4 eb
          cases eb
          show tLk te σ3 H3 _
          refine he _ G0 G3 H3 σ3 δ1 (S3.step st4) _ ?_
          rw [em]
          intro v G4 H4 R4 g4
          refine R4.vl ev fun G5 H5 S5 g5 rv => ?_
          have e4 : H5 D = some (.lst acc) := S5.bh D _ upd_same
          have n4 : G5 D = none := S5.fr D g0D (by rw [upd_same]; exact fun z => nomatch z)
          have gg : Same G' G5 := ((st3.g.trans st4.g).trans g4).trans g5
          refine ⟨acc, e4, by omega, G5, wipeD δ2 vs, acc ++ [v], accd ++ [y], zs, ?_, g1.trans gg, (RepL.mono gg ra).snoc rv, by simp; omega, a1, hc.trans c1, ec, by rw [← hy, List.append_assoc]; rfl⟩
          have S6 := S5.wipe vs hf
          rw [wipe_eq o3 hs] at S6
          exact StR.asideSet Sw (hc.trans c1) (g1.trans gg) bD S6 n4
        · have e : i = ds.length := by omega
          refine .inl ⟨stop (by omega) (by omega), ?_⟩
          rw [List.drop_of_length_le (by omega)] at hr
          cases hr
          rw [List.append_nil] at hy
          subst hy
          obtain ⟨fps, E⟩ := Si.en
          have hne : ∀ i a, a ∈ fps i → a ≠ D := fun i a ha w => by
            have := (E.off i a ha).1
            rw [w, upd_same] at this
            cases this
          have E2 := E.reB (B2 := B) (H2 := H') Sw hc g1 ((sB _).trans Si.bh) (fun b hb => hb) fun i a ha => ⟨rfl, (sB _).free (E.off i a ha).1⟩
          have E3 := E2.unwipe (clear_of hv)
          refine hq (.ref D) G' H' ⟨⟨(sB _).trans Si.bh, Si.g0, Si.gh, fun a e n => Si.fr a e (Same.ne (sB _) n), by rw [← Si.len, wipe_length], S.rt, fps, E3⟩, fps, [D], E3, ⟨D, rfl, rfl, acc, Si.bh D _ upd_same, ra⟩, by simp, fun a ha => ?_⟩ (st1.g.trans g1)
          rw [List.mem_singleton] at ha
          subst ha
          exact ⟨⟨bD, nD⟩, fun i w => hne i _ w rfl⟩
    · simp only [if_neg hz] at hq
      exact hq.elim
end
section
variable {X : Cx} {a : Ax} {W : WX} {e : Expr} {pos : Pos}
/-- a comprehension whose things change what is lent -/
theorem em_comp {elt tg iter : Expr} {ifs : List Expr} {scope : Scope} {own : List (Str × Nat)} {g : MG} {it : ML} {m : MM} {us : List Nat} (hfr : a.frees (own.map (·.2))) (hc : X.calm = true) (hN : X.N.Nodup) (hi : DI X a W tg iter it) (ok : BlkOk X.N X.env.scope scope own) (hu : ∀ j ∈ us, j ∈ own.map (·.2)) (ho : MGOff g us)
    (hg : ∀ (s : Shared) (H : Hp) (C : Addr) (cl : List (Str × Addr)) (fp : List Addr), DG (X.blk s H scope (compEnvC scope cl C X.env) fp) a tg g us) (ht : ∀ (s : Shared) (H : Hp) (C : Addr) (cl : List (Str × Addr)) (fp : List Addr), ∃ t, PTs (X.blk s H scope (compEnvC scope cl C X.env) fp) ifs t ∧ Snd (cn X a) W0 relB t mYes)
    (he : ∀ (s : Shared) (H : Hp) (C : Addr) (cl : List (Str × Addr)) (fp : List Addr), EDE (X.blk s H scope (compEnvC scope cl C X.env) fp) a W0 elt m) (hs : ∀ x, foldedSetIterable iter X.env x = pure x := by intro _; rfl) :
    EDE X a W (.ListComp elt [⟨tg, iter, ifs, 0⟩] scope pos) (emComp (own.map (·.2)) g it m) := by
  obtain ⟨wi, pi, si⟩ := hi
  have hm : Kp m := by
    obtain ⟨t, p, s, c⟩ := he ({} : Shared) (fun _ => none) 0 [] []
    exact c
  let tg' : TG := fun v σ H Q => ∀ s H₀ C cl fp, Classical.choose (hg s H₀ C cl fp) v σ H Q
  let tt' : TT := fun σ H Q => ∀ s H₀ C cl fp, Classical.choose (ht s H₀ C cl fp) σ H Q
  let te' : TE := fun σ H Q => ∀ s H₀ C cl fp, Classical.choose (he s H₀ C cl fp) σ H Q
  refine ⟨_, pe_lc (g := tg') (tt := tt') (te := tLk te') hc hN pi ok (fun s H C cl fp => ⟨fun pins s1 σ H1 v u Q I r q => (Classical.choose_spec (hg s H C cl fp)).1.run pins s1 σ H1 v u Q I r (q s H C cl fp)⟩)
    (fun s H C cl fp => ⟨fun pins s1 σ H1 Q I q => (Classical.choose_spec (ht s H C cl fp)).1.run pins s1 σ H1 Q I (q s H C cl fp)⟩) (fun s H C cl fp => pe_lk ⟨fun pins s1 σ H1 Q I q => (Classical.choose_spec (he s H C cl fp)).1.run pins s1 σ H1 Q I (q s H C cl fp)⟩) hs, ?_, kp_comp ho hu hm⟩
  exact snd_compM (C := cn X a) (us := us) hfr si (fun B G0 G H σ δ v d δ' Q S r e k s H₀ C cl fp => (Classical.choose_spec (hg s H₀ C cl fp)).2 B G0 G H σ δ v d δ' Q S r e k) ho hu
    (fun B G0 G H σ δ S Q q s H₀ C cl fp => (Classical.choose_spec (ht s H₀ C cl fp)).2 B G0 G H σ δ S Q q) (fun B G0 G H σ δ S Q q s H₀ C cl fp => (Classical.choose_spec (he s H₀ C cl fp)).2.1 B G0 G H σ δ S Q q) hm
theorem off_name {i : Nat} : MGOff (mgN i) [i] := fun d δ δ' e => by
  cases e
  refine ⟨by simp, fun j hj => ?_⟩
  rw [List.mem_singleton] at hj
  rw [List.getElem?_set_ne (Ne.symm hj)]
end
end DL
/-! DLr: more to walk: reversed(range(n)) -/
namespace DL
open PySem L2
/-- n - 1, .., 0 -/
def down (n : Nat) : List PyData := (List.range n).map fun (i : Nat) => PyData.int ((n : Int) - 1 - (i : Int))
theorem gives_down {C : Cn} {B G : Hp} {n : Nat} : Gives C B (Itc ((n : Int) - 1) (-1) n) G (down n) := by
  intro i G1 H1 g s _
  have hl : (down n).length = n := by simp [down]
  refine ⟨fun d e => ?_, fun h1 _ => by rw [hl] at h1; exact h1⟩
  have hi : i < n := by
    have := (List.getElem?_eq_some_iff.mp e).1
    rw [hl] at this; exact this
  refine ⟨hi, fun x H' y => ?_⟩
  obtain ⟨e1, e2⟩ := y
  subst e1 e2
  have ed : d = .int ((n : Int) - 1 + (i : Int) * (-1)) := by
    have h3 : (down n)[i]? = some (.int ((n : Int) - 1 - (i : Int))) := by simp [down, hi]
    rw [h3] at e; cases e
    congr 1
    omega
  subst ed
  exact ⟨G1, Stp.refl s, .int _⟩
noncomputable def dwn : PyData → Res (List PyData)
  | .int n => if small62 n = true then .ok (down n.toNat) else .stuck
  | _ => .stuck
noncomputable def mDwn (m : MD) : ML := fun δ => (m δ).bind dwn
section
variable {X : Cx} {a : Ax} {W : WX} {e tg : Expr} {pos pos2 p p2 : Pos}
theorem di_down {m : MD} (hg : Gl X "reversed") (hm : X.mg "reversed" = none) (hg2 : Gl X "range") (hm2 : X.mg "range" = none) (h : DV X a W e m) (na : starEach [e] X.env = (false, eval e X.env) :: starEach [] X.env := by rfl)
    (hs : starEach [.Call (.Name "range" p2) [e] [] pos2] X.env = (false, eval (.Call (.Name "range" p2) [e] [] pos2) X.env) :: starEach [] X.env := by rfl) : DI X a W tg (.Call (.Name "reversed" p) [.Call (.Name "range" p2) [e] [] pos2] [] pos) (mDwn m) := by
  obtain ⟨t, pt, s⟩ := h
  refine ⟨_, pi_revR hg hm (prg_1 hg2 hm2 pt na) hs, fun B G0 G H σ δ S R q => ?_⟩
  refine s B G0 G H σ δ S _ ?_
  have q' : ROk (cn X a) W σ G H (fun G' _ ds J => Gives (cn X a) B J G' ds) ((m δ).bind dwn) R := q
  generalize m δ = r at q'
  cases r with
  | stuck => exact q'.elim
  | exc x => exact q'
  | ok d =>
    intro v G' H' st rp
    cases d with
    | int n =>
      have q2 : ROk (cn X a) W σ G H (fun G' _ ds J => Gives (cn X a) B J G' ds) (if small62 n = true then .ok (down n.toNat) else .stuck) R := q'
      by_cases hz : small62 n = true
      · rw [if_pos hz] at q2
        have hb : -(2 ^ 62) ≤ n ∧ n < 2 ^ 62 := small62_iff.1 hz
        cases rp
        refine ⟨n, rfl, by decide, by decide, hb.1, hb.2, ?_⟩
        have e1 : (0 : Int) + (((n - 0).toNat : Nat) : Int) - 1 = ((n.toNat : Nat) : Int) - 1 := by rw [Int.sub_zero, Int.zero_add]
        have e2 : (n - 0).toNat = n.toNat := by rw [Int.sub_zero]
        rw [e1, e2]
        exact q2 _ G' H' st gives_down
      · rw [if_neg hz] at q2; exact q2.elim
    | none => exact q'.elim
    | bool _ => exact q'.elim
    | str _ => exact q'.elim
    | list _ => exact q'.elim
    | tuple _ => exact q'.elim
    | dict _ => exact q'.elim
end
@[simp] theorem mDwn_ap {m : MD} {δ : DEnv} : mDwn m δ = (m δ).bind dwn := (rfl)
theorem dwn_int {n : Int} (h : small62 n = true) : dwn (.int n) = .ok (down n.toNat) := if_pos h
theorem dwn_of {n : Nat} (h : n ≤ 1000000) : dwn (.int (n : Int)) = .ok (down n) := by
  rw [dwn_int (small_of (by omega) (by omega))]
  simp
/-! all, any, sum of a list -/
def boolsOf : List PyData → Option (List Bool)
  | [] => some []
  | .bool x :: r => (boolsOf r).map (x :: ·)
  | _ => none
theorem boolsOf_map : ∀ ys : List Bool, boolsOf (ys.map PyData.bool) = some ys
  | [] => rfl
  | y :: ys => by
    show (boolsOf (ys.map PyData.bool)).map (y :: ·) = _
    rw [boolsOf_map ys]
    rfl
theorem boolsOf_eq : ∀ {ds : List PyData} {ys : List Bool}, boolsOf ds = some ys → ds = ys.map PyData.bool
  | [], ys, e => by cases e; rfl
  | .bool x :: r, ys, e => by
    have e' : (boolsOf r).map (x :: ·) = some ys := e
    cases h : boolsOf r with
    | none => rw [h] at e'; cases e'
    | some zs => rw [h] at e'; cases e'; rw [boolsOf_eq h]; rfl
  | .none :: r, ys, e => by cases e
  | .str _ :: r, ys, e => by cases e
  | .int _ :: r, ys, e => by cases e
  | .list _ :: r, ys, e => by cases e
  | .tuple _ :: r, ys, e => by cases e
  | .dict _ :: r, ys, e => by cases e
theorem repL_bools {K : Kw} {G : Hp} : ∀ {ys : List Bool} {xs : List V}, RepL K G xs (ys.map PyData.bool) → xs = ys.map V.bl
  | [], _, .nil => rfl
  | y :: ys, _, .cons r rs => by
    cases r
    rw [repL_bools (ys := ys) rs]
    rfl
def intsOf : List PyData → Option (List Int)
  | [] => some []
  | .int x :: r => (intsOf r).map (x :: ·)
  | _ => none
theorem intsOf_map : ∀ ys : List Int, intsOf (ys.map PyData.int) = some ys
  | [] => rfl
  | y :: ys => by
    show (intsOf (ys.map PyData.int)).map (y :: ·) = _
    rw [intsOf_map ys]
    rfl
theorem intsOf_eq : ∀ {ds : List PyData} {ys : List Int}, intsOf ds = some ys → ds = ys.map PyData.int
  | [], ys, e => by cases e; rfl
  | .int x :: r, ys, e => by
    have e' : (intsOf r).map (x :: ·) = some ys := e
    cases h : intsOf r with
    | none => rw [h] at e'; cases e'
    | some zs => rw [h] at e'; cases e'; rw [intsOf_eq h]; rfl
  | .none :: r, ys, e => by cases e
  | .str _ :: r, ys, e => by cases e
  | .bool _ :: r, ys, e => by cases e
  | .list _ :: r, ys, e => by cases e
  | .tuple _ :: r, ys, e => by cases e
  | .dict _ :: r, ys, e => by cases e
theorem repL_ints {K : Kw} {G : Hp} : ∀ {ys : List Int} {xs : List V}, RepL K G xs (ys.map PyData.int) → xs = ys.map V.int
  | [], _, .nil => rfl
  | y :: ys, _, .cons r rs => by
    cases r
    rw [repL_ints (ys := ys) rs]
    rfl
def allF : List PyData → Res Slot
  | [.list ds] => match boolsOf ds with
    | some bs => okB (bs.all id)
    | none => .stuck
  | _ => .stuck
def anyF : List PyData → Res Slot
  | [.list ds] => match boolsOf ds with
    | some bs => okB (bs.any id)
    | none => .stuck
  | _ => .stuck
def sumF : List PyData → Res Slot
  | [.list ds] => match intsOf ds with
    | some ns => okI ns.sum
    | none => .stuck
  | _ => .stuck
theorem allF_ok {K : Kw} : CallS K (fun vs H Q => ∃ (a : Addr) (bs : List Bool), vs = [V.ref a] ∧ SqL K H a (bs.map V.bl) ∧ Q (.bl (bs.all id)) H) allF := by
  refine ⟨fun G H vs ds s Q g rd ef q => ?_, fun ds x => ?_⟩
  · unfold allF at ef
    split at ef
    · split at ef
      · rename_i bs hb
        cases ef
        obtain ⟨v, ev, r⟩ := rdl1 rd
        obtain ⟨b, xs, e1, q1, r1⟩ := rdr_list g r
        subst e1
        rw [boolsOf_eq hb] at r1
        rw [repL_bools r1] at q1
        exact ⟨b, bs, ev, q1, q _ G H (Stp.refl g) (Rep.bl _)⟩
      · cases ef
    · cases ef
  · unfold allF
    split <;> (try split) <;> (intro h; cases h)
theorem anyF_ok {K : Kw} : CallS K (fun vs H Q => ∃ (a : Addr) (bs : List Bool), vs = [V.ref a] ∧ SqL K H a (bs.map V.bl) ∧ Q (.bl (bs.any id)) H) anyF := by
  refine ⟨fun G H vs ds s Q g rd ef q => ?_, fun ds x => ?_⟩
  · unfold anyF at ef
    split at ef
    · split at ef
      · rename_i bs hb
        cases ef
        obtain ⟨v, ev, r⟩ := rdl1 rd
        obtain ⟨b, xs, e1, q1, r1⟩ := rdr_list g r
        subst e1
        rw [boolsOf_eq hb] at r1
        rw [repL_bools r1] at q1
        exact ⟨b, bs, ev, q1, q _ G H (Stp.refl g) (Rep.bl _)⟩
      · cases ef
    · cases ef
  · unfold anyF
    split <;> (try split) <;> (intro h; cases h)
theorem sumF_ok {K : Kw} : CallS K (fun vs H Q => ∃ (a : Addr) (ns : List Int), vs = [V.ref a] ∧ SqL K H a (ns.map V.int) ∧ Q (.int ns.sum) H) sumF := by
  refine ⟨fun G H vs ds s Q g rd ef q => ?_, fun ds x => ?_⟩
  · unfold sumF at ef
    split at ef
    · split at ef
      · rename_i ns hb
        cases ef
        obtain ⟨v, ev, r⟩ := rdl1 rd
        obtain ⟨b, xs, e1, q1, r1⟩ := rdr_list g r
        subst e1
        rw [intsOf_eq hb] at r1
        rw [repL_ints r1] at q1
        exact ⟨b, ns, ev, q1, q _ G H (Stp.refl g) (Rep.int _)⟩
      · cases ef
    · cases ef
  · unfold sumF
    split <;> (try split) <;> (intro h; cases h)
theorem allF_map (ys : List Bool) : allF [.list (ys.map PyData.bool)] = .ok (.val (.bool (ys.all id))) := by
  show (match boolsOf (ys.map PyData.bool) with
    | some bs => okB (bs.all id)
    | none => .stuck) = _
  rw [boolsOf_map]
  rfl
theorem anyF_map (ys : List Bool) : anyF [.list (ys.map PyData.bool)] = .ok (.val (.bool (ys.any id))) := by
  show (match boolsOf (ys.map PyData.bool) with
    | some bs => okB (bs.any id)
    | none => .stuck) = _
  rw [boolsOf_map]
  rfl
theorem sumF_map (ys : List Int) : sumF [.list (ys.map PyData.int)] = .ok (.val (.int ys.sum)) := by
  show (match intsOf (ys.map PyData.int) with
    | some ns => okI ns.sum
    | none => .stuck) = _
  rw [intsOf_map]
  rfl
/-! for simp -/
@[simp] theorem emP_ap {m : ME} {δ : DEnv} : emP m δ = (match m δ with
  | .ok (.val d) => .ok (.val d) δ
  | .ok (.own d) => .ok (.own d) δ
  | .ok (.tr t) => .ok (.tr t) δ
  | .exc x => .exc x δ
  | _ => .stuck) := (rfl)
@[simp] theorem emNil_ap {δ : DEnv} : emNil δ = .ok [] δ := (rfl)
@[simp] theorem emD_ap {m : MM} {δ : DEnv} {k : PyData → DEnv → MLRes} : emD m δ k = (match m δ with
  | .ok s δ' => (match s.vl with
    | .ok d => k d δ'
    | _ => .stuck)
  | .exc x δ' => .exc x δ'
  | .stuck => .stuck) := (rfl)
@[simp] theorem emCons_ap {m : MM} {n : MML} {δ : DEnv} : emCons m n δ = emD m δ fun d δ1 => (match n δ1 with
  | .ok ds δ2 => .ok (d :: ds) δ2
  | r => r) := (rfl)
@[simp] theorem emTup_ap {m : MML} {δ : DEnv} : emTup m δ = (match m δ with
  | .ok ds δ' => if fits ds = true then .ok (.val (.tuple ds)) δ' else .stuck
  | .exc x δ' => .exc x δ'
  | .stuck => .stuck) := (rfl)
@[simp] theorem emLst_ap {m : MML} {δ : DEnv} : emLst m δ = (match m δ with
  | .ok ds δ' => if fits ds = true then .ok (.own (.list ds)) δ' else .stuck
  | .exc x δ' => .exc x δ'
  | .stuck => .stuck) := (rfl)
@[simp] theorem emBi_ap {f : List PyData → Res Slot} {m : MML} {δ : DEnv} : emBi f m δ = (match m δ with
  | .ok ds δ' => emP (fun _ => f ds) δ'
  | .exc x δ' => .exc x δ'
  | .stuck => .stuck) := (rfl)
@[simp] theorem emB_ap {f : PyData → PyData → Res Slot} {m n : MM} {δ : DEnv} : emB f m n δ = (match emCons m (emCons n emNil) δ with
  | .ok [d, e] δ' => emP (fun _ => f d e) δ'
  | .exc x δ' => .exc x δ'
  | _ => .stuck) := (rfl)
@[simp] theorem emNot_ap {m : MM} {δ : DEnv} : emNot m δ = (match m δ with
  | .ok s δ' => (match s.bl with
    | .ok b => .ok (.val (.bool (!b))) δ'
    | _ => .stuck)
  | r => r) := (rfl)
@[simp] theorem emTest_ap {m : MM} {δ : DEnv} {y n : DEnv → Out} : emTest m δ y n = (match m δ with
  | .ok s δ' => (match s.bl with
    | .ok b => if b = true then y δ' else n δ'
    | _ => .stuck)
  | .exc x δ' => .ex x δ'
  | .stuck => .stuck) := (rfl)
@[simp] theorem mIfM_ap {c : MM} {m n : MS} {δ : DEnv} : mIfM c m n δ = emTest c δ m n := (rfl)
@[simp] theorem mRetM_ap {m : MM} {δ : DEnv} : mRetM m δ = (match m δ with
  | .ok s δ' => retS δ' s
  | .exc x δ' => .ex x δ'
  | .stuck => .stuck) := (rfl)
@[simp] theorem mAsgM_ap {i : Nat} {m : MM} {δ : DEnv} : mAsgM i m δ = (match m δ with
  | .ok s δ' => asgS i δ' s
  | .exc x δ' => .ex x δ'
  | .stuck => .stuck) := (rfl)
@[simp] theorem mAsgGM_ap {g : MG} {m : MM} {δ : DEnv} : mAsgGM g m δ = (match m δ with
  | .ok s δ' => (match s.vl with
    | .ok d => tgtO g δ' d
    | _ => .stuck)
  | .exc x δ' => .ex x δ'
  | .stuck => .stuck) := (rfl)
@[simp] theorem mDropM_ap {m : MM} {δ : DEnv} : mDropM m δ = (match m δ with
  | .ok _ δ' => .nx δ'
  | .exc x δ' => .ex x δ'
  | .stuck => .stuck) := (rfl)
@[simp] theorem isL_list {ds : List PyData} : isL (some (some (.own (.list ds)))) = true := (rfl)
@[simp] theorem mAppM_ap {i : Nat} {m : MM} {δ : DEnv} : mAppM i m δ = if isL δ[i]? = true then (match m δ with
  | .ok s δ' => (match s.vl with
    | .ok d => (match δ'[i]? with
      | some (some (.own (.list ds))) => if ds.length < sizeLine then .nx (δ'.set i (some (.own (.list (ds ++ [d]))))) else .stuck
      | _ => .stuck)
    | _ => .stuck)
  | .exc x δ' => .ex x δ'
  | .stuck => .stuck) else .stuck := (rfl)
@[simp] theorem amVal_ap {m : MD} {n : DEnv → Res (List Slot)} {δ : DEnv} : amVal m n δ = (m δ).bind fun d => (n δ).bind fun ss => .ok (.val d :: ss) := (rfl)
@[simp] theorem amLent_ap {i : Nat} {n : DEnv → Res (List Slot)} {δ : DEnv} : amLent i n δ = (match δ[i]? with
  | some (some (.own d)) => (n δ).bind fun ss => .ok (.own d :: ss)
  | some (some (.tr t)) => (n δ).bind fun ss => .ok (.tr t :: ss)
  | _ => .stuck) := (rfl)
@[simp] theorem isO_own {d : PyData} : isO (some (some (.own d))) = true := (rfl)
@[simp] theorem isO_tr {t : T} : isO (some (some (.tr t))) = true := (rfl)
@[simp] theorem okM_0o {d : PyData} {r : List Slot} : okM 0 (.own d :: r) = allVal r := (rfl)
@[simp] theorem okM_0t {t : T} {r : List Slot} : okM 0 (.tr t :: r) = allVal r := (rfl)
@[simp] theorem okM_s {n : Nat} {d : PyData} {r : List Slot} : okM (n + 1) (.val d :: r) = okM n r := (rfl)
@[simp] theorem allVal_nil : allVal [] = true := (rfl)
@[simp] theorem allVal_cons {d : PyData} {r : List Slot} : allVal (.val d :: r) = allVal r := (rfl)
@[simp] theorem callR_ok {i : Nat} {δ : DEnv} {s l : Slot} : callR i δ (.ok s l) = if isO (some (some l)) = true then .ok s (δ.set i (some l)) else .stuck := (rfl)
@[simp] theorem callR_exc {i : Nat} {δ : DEnv} {x : Exn} {l : Slot} : callR i δ (.exc x l) = if isO (some (some l)) = true then .exc x (δ.set i (some l)) else .stuck := (rfl)
@[simp] theorem emCall_ap {i k : Nat} {f : FM} {m : DEnv → Res (List Slot)} {δ : DEnv} : emCall i k f m δ = (match m δ with
  | .ok ss => if okM k ss = true ∧ isO δ[i]? = true then callR i δ (f ss) else .stuck
  | .exc x => .exc x δ
  | .stuck => .stuck) := (rfl)
theorem emComp_of {vs : List Nat} {g : MG} {it : ML} {m : MM} {δ δ' : DEnv} {ds ys : List PyData} (h1 : it δ = .ok ds) (h2 : fits ds = true) (h3 : allOff vs δ = true) (h4 : compM g m vs ds δ = .ok ys δ') : emComp vs g it m δ = .ok (.own (.list ys)) δ' := by
  unfold emComp
  rw [h1]
  simp only
  rw [if_pos ⟨h2, h3⟩, h4]
theorem compM_ok {g : MG} {m : MM} {vs : List Nat} {d y : PyData} {ds ys : List PyData} {δ δ1 δ2 δ3 : DEnv} {s : Slot} (h1 : g d δ = some δ1) (h2 : m δ1 = .ok s δ2) (h3 : s.vl = .ok y) (h4 : compM g m vs ds (wipeD δ2 vs) = .ok ys δ3) : compM g m vs (d :: ds) δ = .ok (y :: ys) δ3 := by
  unfold compM
  simp only [h1, h2, h3, h4]
@[simp] theorem backAt_ap {k : Nat} {δ : DEnv} {f : Slot → FRes} : backAt k δ f = (match δ[k]? with
  | some (some (.own d)) => f (.own d)
  | some (some (.tr t)) => f (.tr t)
  | _ => .stuck) := (rfl)
@[simp] theorem resM_rt {k : Nat} {s : Slot} {δ : DEnv} : (Out.rt s δ).resM k = backAt k δ fun l => .ok s l := (rfl)
@[simp] theorem resM_nx {k : Nat} {δ : DEnv} : (Out.nx δ).resM k = backAt k δ fun l => .ok (.val .none) l := (rfl)
@[simp] theorem resM_ex {k : Nat} {x : Exn} {δ : DEnv} : (Out.ex x δ).resM k = backAt k δ fun l => .exc x l := (rfl)
@[simp] theorem negF_int {i : Int} : negF (.int i) = .ok (.val (.int (-i))) := (rfl)
@[simp] theorem tupleF_list {ds : List PyData} : tupleF [.list ds] = .ok (.val (.tuple ds)) := (rfl)
@[simp] theorem tupleF_tup {ds : List PyData} : tupleF [.tuple ds] = .ok (.val (.tuple ds)) := (rfl)
@[simp] theorem at_2 {α : Type} {x y : α} : atI [x, y] (-1) = some y := rfl
@[simp] theorem at_3 {α : Type} {x y z : α} : atI [x, y, z] (-1) = some z := rfl
@[simp] theorem at_4 {α : Type} {x y z w : α} : atI [x, y, z, w] (-1) = some w := rfl
@[simp] theorem at_42 {α : Type} {x y z w : α} : atI [x, y, z, w] 2 = some z := rfl
@[simp] theorem at_32 {α : Type} {x y z : α} : atI [x, y, z] 2 = some z := rfl
end DL
/-! DLq: dicts in code: d[k], k in d, len(d), d.get, d[k] = v; walking keys, values, items -/
namespace DL
open PySem L2
section
variable {X : Cx} {pins : List (Addr × Obj)} {σ : St} {H G : Hp} {s : Shared} {a : Addr} {ds : List (PyData × PyData)}
theorem dd_raw (I : Inv X pins σ H s) (g : Same G H) (D : DcV X.kw G H a ds) : ∃ o es ep, s.heap.get? a = some o ∧ o.ExactDict ∧ o.data = .dict es ep ∧ (a == sysModules) = false := by
  rcases D with ⟨l, e, r⟩ | ⟨l, e, z, r⟩
  · obtain ⟨_, hd, vs, _, o, es, ep, ho, hc, hdat, _⟩ := dk_rd I.hok e
    exact ⟨o, es, ep, ho, hc, hdat, hd⟩
  · obtain ⟨hd, xs, o, es, ep, _, ho, hc, hdat, _⟩ := dn_of I.hok e
    exact ⟨o, es, ep, ho, hc, hdat, hd⟩
theorem dd_type (I : Inv X pins σ H s) (g : Same G H) (D : DcV X.kw G H a ds) : s.TypeIs (.ref a) "dict" ∧ ∀ b, Value.ref a = .ref b → ∃ ob, s.heap.get? b = some ob ∧ ob.dict = none := by
  obtain ⟨o, es, ep, ho, hc, _, _⟩ := dd_raw I g D
  refine ⟨⟨o, ho, hc.1⟩, fun b e => ?_⟩
  cases e
  exact ⟨o, ho, hc.2.1⟩
end
theorem rdr_dc {K : Kw} {G H : Hp} {v : V} {ds : List (PyData × PyData)} (g : Same G H) (h : RdR K G H v (.dict ds)) : ∃ a, v = .ref a ∧ DcV K G H a ds := rdr_dict g h
theorem ok_rep {K : Kw} {G H : Hp} {v : V} {d : PyData} (h : RdR K G H v d) (ok : okKey d = true) : Rep K G v d := by
  rcases h with h | ⟨a, e, t⟩
  · exact h
  · cases d with
    | list ds => cases ok
    | dict ds => cases ok
    | none => exact t.elim
    | bool _ => exact t.elim
    | int _ => exact t.elim
    | str _ => exact t.elim
    | tuple _ => exact t.elim
/-! ### 1. d[k] -/
def keyAt (ds : List (PyData × PyData)) (k : PyData) : Bool := okKey k && kindOk ds k
theorem keyAt_ok {ds : List (PyData × PyData)} {k : PyData} (h : keyAt ds k = true) : okKey k = true ∧ kindOk ds k = true := by simpa [keyAt] using h
def rDG (K : Kw) : R2 := fun x y H Q => ∃ G a ds kd d, x = .ref a ∧ Same G H ∧ DcV K G H a ds ∧ Rep K G y kd ∧ okKey kd = true ∧ kindOk ds kd = true ∧ dget ds kd = some d ∧ ∀ v, Rep K G v d → Q v H
theorem ix_dd {X : Cx} {k : Nat} (hr : Room k X.A) : IxR X (rDG X.kw) := by
  intro value slice pins s σ H x y v u Q I rx ry h hs
  obtain ⟨G, a, ds, kd, d, rfl, g, D, rk, ok, kk, hd, q⟩ := h
  obtain rfl : v = Value.ref a := rx
  exact PyProof.Rows.tail_any (dd_type I g D).1 PySem.F.slot_dict_getitem.lookup (dd_item (by have := hr.un; omega) I g D ok kk rk ry hd fun v w' s' I' rv rp => ⟨v, H, I', rv, q v rp⟩) hs
def gxF : PyData → PyData → Res Slot
  | .dict ds, k => if keyAt ds k = true then (match dget ds k with | some d => okV d | none => .stuck) else .stuck
  | d, k => ixF d k
def rGx (K : Kw) : R2 := fun x y H Q => rDG K x y H Q ∨ rIx K x y H Q
theorem gxF_ok {K : Kw} : OpS K (rGx K) gxF := by
  intro G H x y d e s Q g rx ry ef q
  cases d with
  | dict ds =>
    have ef : (if keyAt ds e = true then (match dget ds e with | some d => okV d | none => .stuck) else .stuck) = Res.ok s := ef
    split at ef
    · rename_i hk
      split at ef
      · rename_i v hv
        cases ef
        obtain ⟨a, rfl, D⟩ := rdr_dc g rx
        have hk' := keyAt_ok hk
        exact .inl ⟨G, a, ds, e, v, rfl, g, D, ok_rep ry hk'.1, hk'.1, hk'.2, hv, fun u r => q u G H (Stp.refl g) r⟩
      · cases ef
    · cases ef
  | none => exact .inr (ixF_ok G H x y _ e s Q g rx ry ef q)
  | bool _ => exact .inr (ixF_ok G H x y _ e s Q g rx ry ef q)
  | int _ => exact .inr (ixF_ok G H x y _ e s Q g rx ry ef q)
  | str _ => exact .inr (ixF_ok G H x y _ e s Q g rx ry ef q)
  | list _ => exact .inr (ixF_ok G H x y _ e s Q g rx ry ef q)
  | tuple _ => exact .inr (ixF_ok G H x y _ e s Q g rx ry ef q)
theorem gxF_ne : NoExc gxF := fun d e x => by
  unfold gxF
  split
  · split <;> (try split) <;> (intro h; cases h)
  · exact ixF_ne _ _ _
section
variable {X : Cx} {a : Ax} {W : WX} {e e1 e2 e3 tg : Expr} {es : List Expr} {pos : Pos}
theorem de_gx {ma mb : MD} {k : Nat} (hr : Room k X.A) (ha : DR X a W e1 ma) (hb : DR X a W e2 mb) (hs : PlainIx e2) : DE X a W (.Subscript e1 e2 pos) (mB gxF ma mb) :=
  let ⟨_, pa, sa⟩ := ha; let ⟨_, pb, sb⟩ := hb; ⟨_, pe_ix ((ix_dd hr).or ix_seq) pa pb hs, snd_op (C := cn X a) gxF_ok gxF_ne sa sb⟩
/-! ### 2. in -/
def rDIn (K : Kw) (neg : Bool) : R2 := fun x y H Q => ∃ G a ds kd, y = .ref a ∧ Same G H ∧ DcV K G H a ds ∧ Rep K G x kd ∧ okKey kd = true ∧ kindOk ds kd = true ∧ Q (.bl (neg != (dget ds kd).isSome)) H
theorem op_inDD {k : Nat} (hr : Room k X.A) : OpR X (compareOp .In) (rDIn X.kw false) := by
  intro pins s σ H x y v u Q I rx ry h
  obtain ⟨G, a, ds, kd, rfl, g, D, rk, ok, kk, q⟩ := h
  obtain rfl : u = Value.ref a := ry
  exact dd_in (by have := hr.un; omega) I g D ok kk rk rx fun s' I' => ⟨.bl _, H, I', rfl, by simpa using q⟩
theorem op_notInDD {k : Nat} (hr : Room k X.A) : OpR X (compareOp .NotIn) (rDIn X.kw true) := by
  intro pins s σ H x y v u Q I rx ry h
  obtain ⟨G, a, ds, kd, rfl, g, D, rk, ok, kk, q⟩ := h
  obtain rfl : u = Value.ref a := ry
  exact dd_notIn (by have := hr.un; omega) I g D ok kk rk rx fun s' I' => ⟨.bl _, H, I', rfl, by simpa using q⟩
def inG (neg : Bool) (d : PyData) : PyData → Res Slot
  | .dict ds => if keyAt ds d = true then okB (neg != (dget ds d).isSome) else .stuck
  | e => inF neg d e
def rInG (K : Kw) : R2 := fun x y H Q => rDIn K false x y H Q ∨ rInA K x y H Q
def rNotInG (K : Kw) : R2 := fun x y H Q => rDIn K true x y H Q ∨ rNotInA K x y H Q
theorem op_inG {k : Nat} (hr : Room k X.A) : OpR X (compareOp .In) (rInG X.kw) := (op_inDD hr).or (op_inA hr)
theorem op_notInG {k : Nat} (hr : Room k X.A) : OpR X (compareOp .NotIn) (rNotInG X.kw) := (op_notInDD hr).or (op_notInA hr)
theorem inG_ok {K : Kw} : OpS K (rInG K) (inG false) := by
  intro G H x y d e s Q g rx ry ef q
  unfold inG at ef
  split at ef
  · rename_i ds
    split at ef
    · rename_i hk
      cases ef
      obtain ⟨a, rfl, D⟩ := rdr_dc g ry
      have hk' := keyAt_ok hk
      exact .inl ⟨G, a, ds, d, rfl, g, D, ok_rep rx hk'.1, hk'.1, hk'.2, q _ G H (Stp.refl g) (Rep.bl _)⟩
    · cases ef
  · exact .inr (inF_ok G H x y d e s Q g rx ry ef q)
theorem notInG_ok {K : Kw} : OpS K (rNotInG K) (inG true) := by
  intro G H x y d e s Q g rx ry ef q
  unfold inG at ef
  split at ef
  · rename_i ds
    split at ef
    · rename_i hk
      cases ef
      obtain ⟨a, rfl, D⟩ := rdr_dc g ry
      have hk' := keyAt_ok hk
      exact .inl ⟨G, a, ds, d, rfl, g, D, ok_rep rx hk'.1, hk'.1, hk'.2, q _ G H (Stp.refl g) (Rep.bl _)⟩
    · cases ef
  · exact .inr (notInF_ok G H x y d e s Q g rx ry ef q)
theorem inG_ne {neg : Bool} : NoExc (inG neg) := fun d e x => by
  unfold inG
  split
  · split <;> (intro h; cases h)
  · exact inF_ne _ _ _
theorem notInG_ne : NoExc (inG true) := inG_ne
/-! ### 3. len -/
def rLenD (K : Kw) : List V → Hp → VK → Prop := fun xs H Q => ∃ G a ds, xs = [.ref a] ∧ Same G H ∧ DcV K G H a ds ∧ Q (.int (ds.length : Int)) H
theorem call_lenD : CallR X (.builtin "len") (rLenD X.kw) := by
  intro pins s σ H xs us Q I r h
  obtain ⟨G, b, ds, rfl, g, D, q⟩ := h
  cases r with
  | cons r rr =>
    cases rr
    cases (show _ = Value.ref b from r)
    rcases D with ⟨l, e, rk⟩ | ⟨l, e, z, rn⟩
    · have hl : l.length = ds.length := rk.length
      refine d_len I e fun t s' I' => ⟨.int (ds.length : Int), H, I', ⟨t, by rw [hl]⟩, q⟩
    · obtain ⟨xs, px, dd, hd, _⟩ := dn_heap I g e rn
      have hl : l.length = ds.length := rn.length
      have hx : l.length = xs.length := Paired.length px
      refine call_len_dictH hd dd (by rw [sizeLine_eq] at z; omega) ?_
      exact ⟨.int (ds.length : Int), H, I.tok _, ⟨_, by rw [← hx, hl]⟩, q⟩
def lenG : List PyData → Res Slot
  | [.dict ds] => okI (ds.length : Int)
  | ds => lenF ds
theorem lenG_ok {K : Kw} : CallS K (fun xs H Q => rLenD K xs H Q ∨ ∃ x n, xs = [x] ∧ LenV K x H n ∧ Q (.int (n : Int)) H) lenG := by
  refine ⟨fun G H vs ds s Q g rd ef q => ?_, fun ds x => ?_⟩
  · unfold lenG at ef
    split at ef
    · rename_i d
      cases ef
      obtain ⟨v, ev, r⟩ := rdl1 rd
      obtain ⟨b, rfl, D⟩ := rdr_dc g r
      exact .inl ⟨G, b, d, ev, g, D, q _ G H (Stp.refl g) (Rep.int _)⟩
    · exact .inr (lenF_ok.1 G H vs ds s Q g rd ef q)
  · unfold lenG
    split
    · intro h; cases h
    · exact (lenF_ok (K := K)).2 ds x
theorem call_lenG : CallR X (.builtin "len") (fun xs H Q => rLenD X.kw xs H Q ∨ ∃ x n, xs = [x] ∧ LenV X.K x H n ∧ Q (.int (n : Int)) H) := call_lenD.or call_len
/-! ### 4. methods of a dict -/
def isDc (K : Kw) (x : V) (H : Hp) : Prop := ∃ G a ds, x = .ref a ∧ Same G H ∧ DcV K G H a ds
def tBMD (K : Kw) (r : V → List V → Hp → VK → Prop) (to : TE) (t : TA) : TE := fun σ H Q => to σ H fun x H1 => isDc K x H1 ∧ t σ H1 fun xs H2 => r x xs H2 Q
theorem pe_bmD {o : Expr} {to : TE} {t : TA} {name : Str} {apos cpos : Pos} {id : String} {r : V → List V → Hp → VK → Prop} (pa : PlainAttrs "dict") (slot : PySem.Slot "dict" name id) (hty : typeOf (.builtin id) = pure (.type "method_descriptor")) (hm : MtR X id r) (ho : PE X o to) (ha : PA X (e :: es) t)
    (hbase : attributeBase o name X.env (eval o X.env) = eval o X.env := by rfl)
    (hfew : ((backTo cpos (starEach (e :: es) X.env)).all (fun x => !x.1) && (backToKw cpos (keywordEach [] X.env)).all (fun x => x.1.isSome)
      && decide ((e :: es).length + ([] : List Keyword).length + (if ([] : List Keyword).isEmpty then 0 else 1) < 30)) = true := by rfl)
    (hline : (apos.endLine == cpos.line) = true := by rfl) (hs : starEach (e :: es) X.env = (false, eval e X.env) :: starEach es X.env := by rfl) (hplain : (backTo cpos (starEach es X.env)).any (·.1) = false := by rfl) :
    PE X (.Call (.Attribute o name apos) (e :: es) [] cpos) (tBMD X.kw r to t) := by
  refine ⟨fun pins s σ H Q I h => ?_⟩
  refine wpAny_Call_method_late hbase hfew hline rfl (thn (ho.run pins s σ H _ I h) fun v s1 ⟨x, H1, I1, r1, ty, q1⟩ => ?_)
  obtain ⟨G, b, ds, rfl, g, D⟩ := ty
  obtain rfl : v = Value.ref b := r1
  obtain ⟨h1, h2⟩ := dd_type I1 g D
  refine ⟨"dict", id, pa, slot, hty, h1, h2, ?_⟩
  have hA := ha.run cpos pins s1 σ H1 _ I1 q1
  rw [hs] at hA ⊢
  refine Calls.callWith_builtin (by show (false || (backTo cpos (starEach es X.env)).any (·.1)) = false; rw [hplain] <;> rfl) (Calls.evalArgs_plain ?_)
  exact thn hA fun us s2 ⟨vs, H2, I2, r2, q2⟩ => hm pins s2 σ H2 (.ref b) vs (.ref b) us Q I2 rfl r2 q2
def rGet (K : Kw) : V → List V → Hp → VK → Prop := fun x xs H Q => ∃ G a ds, x = .ref a ∧ Same G H ∧ DcV K G H a ds ∧ ((∃ y kd, xs = [y] ∧ Rep K G y kd ∧ okKey kd = true ∧ kindOk ds kd = true ∧ ∀ v, Rep K G v ((dget ds kd).getD .none) → Q v H) ∨
  ∃ y z kd zd, xs = [y, z] ∧ Rep K G y kd ∧ Rep K G z zd ∧ okKey kd = true ∧ kindOk ds kd = true ∧ ∀ v, Rep K G v ((dget ds kd).getD zd) → Q v H)
theorem mt_getD {k : Nat} (hr : Room k X.A) : MtR X "dict.get" (rGet X.kw) := by
  intro pins s σ H x xs v us Q I rx rs h
  obtain ⟨G, b, ds, rfl, g, D, h⟩ := h
  obtain rfl : v = Value.ref b := rx
  rcases h with ⟨y, kd, rfl, rk, ok, kk, q⟩ | ⟨y, z, kd, zd, rfl, rk, rz, ok, kk, q⟩
  · cases rs with
    | cons r1 rr =>
      cases rr
      exact dd_get1 (by have := hr.un; omega) I g D ok kk rk r1 fun v w' s' I' rv rp => ⟨v, H, I', rv, q v rp⟩
  · cases rs with
    | cons r1 rr => cases rr with
      | cons r2 rr =>
        cases rr
        exact dd_get2 (by have := hr.un; omega) I g D ok kk rk r1 rz r2 fun v w' s' I' rv rp => ⟨v, H, I', rv, q v rp⟩
def getF (d : PyData) : List PyData → Res Slot
  | [k] => match d with
    | .dict ds => if keyAt ds k = true then okV ((dget ds k).getD .none) else .stuck
    | _ => .stuck
  | [k, z] => match d with
    | .dict ds => if keyAt ds k = true then okV ((dget ds k).getD z) else .stuck
    | _ => .stuck
  | _ => .stuck
def mGet (mo : MD) (ml : ML) : ME := fun δ => (mo δ).bind fun d => match d with
  | .dict ds => (ml δ).bind fun ks => getF (.dict ds) ks
  | _ => .stuck
theorem de_get {o : Expr} {mo : MD} {ml : ML} {apos : Pos} {k : Nat} (hr : Room k X.A) (ho : DR X a W o mo) (h : DA X a W (e :: es) ml) (hbase : attributeBase o "get" X.env (eval o X.env) = eval o X.env := by rfl)
    (hfew : ((backTo pos (starEach (e :: es) X.env)).all (fun x => !x.1) && (backToKw pos (keywordEach [] X.env)).all (fun x => x.1.isSome)
      && decide ((e :: es).length + ([] : List Keyword).length + (if ([] : List Keyword).isEmpty then 0 else 1) < 30)) = true := by rfl)
    (hline : (apos.endLine == pos.line) = true := by rfl) (hs : starEach (e :: es) X.env = (false, eval e X.env) :: starEach es X.env := by rfl) (hplain : (backTo pos (starEach es X.env)).any (·.1) = false := by rfl) : DE X a W (.Call (.Attribute o "get" apos) (e :: es) [] pos) (mGet mo ml) := by
  obtain ⟨t, p, s⟩ := ho
  obtain ⟨u, q, z⟩ := h
  refine ⟨_, pe_bmD PySem.F.plainAttrs_dict PySem.F.slot_dict_get PySem.F.type_dict_get (mt_getD hr) p q hbase hfew hline hs hplain, ?_⟩
  intro B G0 G H σ δ S Q hq
  refine s B G0 G H σ δ S _ ?_
  have hq' : ROk (cn X a) W σ G H (relE X.kw H) ((mo δ).bind fun d => match d with
    | .dict ds => (ml δ).bind fun ks => getF (.dict ds) ks
    | _ => .stuck) Q := hq
  generalize mo δ = r at hq'
  cases r with
  | stuck => exact hq'.elim
  | exc x => exact hq'
  | ok d =>
    intro x G1 H1 st1 rd
    rw [bind_ok] at hq'
    have S1 := S.step st1
    cases d with
    | dict ds =>
      simp only at hq'
      obtain ⟨b, rfl, D⟩ := rdr_dc st1.gh rd
      refine ⟨⟨G1, b, ds, rfl, st1.gh, D⟩, z B G0 G1 H1 σ δ S1 _ ?_⟩
      generalize ml δ = r2 at hq'
      cases r2 with
      | stuck => exact hq'.elim
      | exc x => exact fun cls d G2 H2 s2 r => hq' cls d G2 H2 (st1.trans s2) r
      | ok ks =>
        rw [bind_ok] at hq'
        intro vs G2 H2 st2 rl
        have st := st1.trans st2
        have D2 := D.mono st2.g st2.h
        have hq2 : ROk (cn X a) W σ G H (relE X.kw H) (getF (.dict ds) ks) Q := hq'
        unfold getF at hq2
        cases ks with
        | nil => exact hq2.elim
        | cons kd r => cases r with
          | nil =>
            by_cases hk : keyAt ds kd = true
            · simp only [hk, if_true] at hq2
              have hk' := keyAt_ok hk
              cases rl with
              | cons r1 rr =>
                cases rr
                exact ⟨G2, b, ds, rfl, st2.gh, D2, .inl ⟨_, kd, rfl, r1, hk'.1, hk'.2, fun v rp => hq2 v G2 H2 st rp⟩⟩
            · simp only [hk] at hq2; exact hq2.elim
          | cons zd r => cases r with
            | nil =>
              by_cases hk : keyAt ds kd = true
              · simp only [hk, if_true] at hq2
                have hk' := keyAt_ok hk
                cases rl with
                | cons r1 rr => cases rr with
                  | cons r2 rr =>
                    cases rr
                    exact ⟨G2, b, ds, rfl, st2.gh, D2, .inr ⟨_, _, kd, zd, rfl, r1, r2, hk'.1, hk'.2, fun v rp => hq2 v G2 H2 st rp⟩⟩
              · simp only [hk] at hq2; exact hq2.elim
            | cons _ _ => exact hq2.elim
    | none => exact hq'.elim
    | bool _ => exact hq'.elim
    | int _ => exact hq'.elim
    | str _ => exact hq'.elim
    | list _ => exact hq'.elim
    | tuple _ => exact hq'.elim
/-! ### 5. x[k] = v -/
def rPutD (K : Kw) : TSet := fun o i v H Q => ∃ G a ds kd d, o = .ref a ∧ Same G H ∧ Top K G H a (.dict ds) ∧ ds.length < sizeLine ∧ Rep K G i kd ∧ okKey kd = true ∧ kindOk ds kd = true ∧ Rep K G v d ∧ ∀ ob, Top K G (upd H a ob) a (.dict (dput ds kd d)) → Q (upd H a ob)
theorem set_dd {k : Nat} (hr : Room k X.A) : PSet X (rPutD X.kw) := by
  intro pins s σ H o i v ov iv u Q I ro ri rv h
  obtain ⟨G, b, ds, kd, d, rfl, g, t, hz, rk, ok, kk, rd, q⟩ := h
  cases (show ov = Value.ref b from ro)
  exact dd_set (by have := hr.un; omega) I g t hz ok kk rk ri rd rv fun ob s' I' t' => ⟨_, I', q ob t'⟩
def rSetA (K : Kw) : TSet := fun o i v H Q => rPutD K o i v H Q ∨ rSetL o i v H Q
theorem set_any {k : Nat} (hr : Room k X.A) : PSet X (rSetA X.kw) := by
  intro pins s σ H o i v ov iv u Q I ro ri rv h
  rcases h with h | h
  · exact set_dd hr pins s σ H o i v ov iv u Q I ro ri rv h
  · exact set_list pins s σ H o i v ov iv u Q I ro ri rv h
def setI (i : Nat) (δ : DEnv) (k v : PyData) : Out := match δ[i]? with
  | some (some (.own (.list ds))) => match k with
    | .int j => match ixN ds.length j with
      | some n => .nx (δ.set i (some (.own (.list (ds.set n v)))))
      | none => .stuck
    | _ => .stuck
  | some (some (.own (.dict ds))) => if keyAt ds k = true ∧ ds.length < sizeLine then .nx (δ.set i (some (.own (.dict (dput ds k v))))) else .stuck
  | _ => .stuck
theorem setI_ok {C : Cn} {W : WX} {B G0 G H : Hp} {σ : St} {δ : DEnv} {D : Ends} {i : Nat} {kd vd : PyData} {y v : V} (S : StR C B G0 G H σ δ) (rk : RdR C.K G H y kd) (rv : Rep C.K G v vd) (k : OOk C W B G0 D (setI i δ kd vd)) : ∃ o, σ[i]? = some (some o) ∧ rSetA C.K o y v H fun H' => D.nx σ H' := by
  unfold setI at k
  split at k
  · rename_i ds ei
    obtain ⟨o, fp, eo, ⟨b, rfl, ef, xs, hx, rx⟩, _⟩ := S.sl ei
    split at k
    · split at k
      · rename_i n hn
        have e1 := rdr_int rk
        subst e1
        refine ⟨_, eo, .inr ⟨b, xs, _, n, rfl, rfl, hx, by rw [rx.length]; exact hn, ?_⟩⟩
        exact k σ G _ (S.write (d' := .list (ds.set n vd)) ei eo ⟨xs.set n v, upd_same, rx.set n rv⟩)
      · exact k.elim
    · exact k.elim
  · rename_i ds ei
    obtain ⟨o, fp, eo, ⟨b, rfl, ef, t⟩, _⟩ := S.sl ei
    split at k
    · rename_i hz
      have hk := keyAt_ok hz.1
      exact ⟨_, eo, .inl ⟨G, b, ds, kd, vd, rfl, S.gh, t, hz.2, ok_rep rk hk.1, hk.1, hk.2, rv, fun ob t' => k σ G _ (S.write ei eo t')⟩⟩
    · exact k.elim
  · exact k.elim
def mSetI (i : Nat) (mk mv : MD) : MS := fun δ => (mv δ).out δ fun v => if isO δ[i]? = true then (mk δ).out δ fun k => setI i δ k v else .stuck
theorem isO_at {o : Option (Option Slot)} (h : isO o = true) : ∃ s, o = some (some s) := by
  unfold isO at h
  split at h
  · exact ⟨_, rfl⟩
  · exact ⟨_, rfl⟩
  · cases h
theorem ds_setI {i k : Nat} {x : Str} {ke : Expr} {p1 p2 : Pos} {mk mv : MD} (hr : Room k X.A) (hv : DV X a W e mv) (hk : DR X a W ke mk) (hN : X.N[i]? = some x := by rfl) (hvi : Vis X.env.scope x := by first | exact Or.inl rfl | exact Or.inr (Or.inl rfl) | exact Or.inr (Or.inr rfl)) (hd : (x == ("__debug__" : Str)) = false := by decide)
    (hcd : (x == ("__classdict__" : Str)) = false := by decide) (hs : swapsWithSole [.Subscript (.Name x p1) ke p2] e pos.line X.env = pure false := by rfl) (hw : swappedStores [.Subscript (.Name x p1) ke p2] e X.env = pure none := by rfl)
    (h1 : (assignEach [.Subscript (.Name x p1) ke p2] X.env).map (·.2) = [assign (.Subscript (.Name x p1) ke p2) X.env] := by rfl)
    (ha : ∀ v, assign (.Subscript (.Name x p1) ke p2) X.env v = (do
      let ov ← holding [v] (eval (.Name x p1) X.env)
      let iv ← holding [v, ov] (eval ke X.env)
      standAt p2
      holding [v, ov, iv] (setItem ov iv v)
      release [v, ov, iv] []) := by intro _; rfl) : DS X a W (.Assign [.Subscript (.Name x p1) ke p2] e pos) (mSetI i mk mv) := by
  obtain ⟨t, p, s⟩ := hv
  obtain ⟨u, q, z⟩ := hk
  refine ⟨_, ps_asg p (pg_sub (pe_var (i := i) hN hvi hd hcd) q (set_any hr) ha) hs hw h1, fun B G0 G H σ δ D S k => ?_⟩
  refine snd_out s S (R := fun v H1 => gSub (tVar i) u (rSetA X.kw) v σ H1 D.nx) (f := fun v => if isO δ[i]? = true then (mk δ).out δ fun k => setI i δ k v else .stuck) k fun vd v G1 H1 _ st1 rv k => ?_
  have S1 := S.step st1
  split at k
  · rename_i ho
    obtain ⟨sl, ei⟩ := isO_at ho
    obtain ⟨o, fp, eo, _⟩ := S.sl ei
    refine ⟨o, eo, ?_⟩
    refine snd_out z S1 (R := fun y H2 => rSetA X.kw o y v H2 fun H3 => D.nx σ H3) (f := fun k => setI i δ k vd) k fun kd y G2 H2 ek st2 ry k2 => ?_
    obtain ⟨o2, eo2, r⟩ := setI_ok (S1.step st2) ry (rv.mono st2.g) k2
    rw [eo] at eo2; cases eo2
    exact r
  · exact k.elim
end
/-! ### 6. walking a dict -/
section
variable {X : Cx} {pins : List (Addr × Obj)} {σ : St} {H : Hp} {s : Shared} {d : Addr} {o : Obj}
theorem frzN {l : List (NestedKey × Addr × V)} (I : Inv X pins σ H s) (h : H d = some (.frz o (dnO X.w d l))) : (d == sysModules) = false ∧ s.heap.get? d = some o ∧ o.ExactDict ∧ ∃ (es : Array DictEntry) (ep : Nat), o.data = .dict es ep ∧ es.size = l.length ∧
    ∀ (i : Nat) (k : NestedKey) (b : Addr) (v : V), l[i]? = some (k, b, v) → ∃ (en : DictEntry), es[i]? = some en ∧ en.key = .ref b ∧ RelV v en.val := by
  obtain ⟨hd, hx⟩ := (show ObjOk X.prog X.w H s.heap d (.frz o (dnO X.w d l)) from I.hok d _ h)
  obtain ⟨hs, xs, o', es, ep, px, ho, hc, hdat, hes, _⟩ := (show dnOk X.w d l s.heap from hx.1)
  rw [hd] at ho; cases ho
  have l1 : es.size = xs.length := by rw [← Array.length_toList, hes, List.length_map]
  have l2 : l.length = xs.length := Paired.length px
  refine ⟨hs, hd, hc, es, ep, hdat, by omega, fun i k b v e => ?_⟩
  obtain ⟨q, hq, e1, e2, e3⟩ := paired_at px e
  have e4 : es[i]? = some ⟨q.1.hash X.w, .ref q.2.1, q.2.2⟩ := by
    rw [← Array.getElem?_toList, hes, List.getElem?_map, hq]; rfl
  exact ⟨_, e4, by rw [← e2], e3⟩
/-- the keys of the locked dict at d, tuples, in their order; the values; the pairs -/
def ItkN (w : World) (d : Addr) (o : Obj) (l : List (NestedKey × Addr × V)) : It :=
  ⟨fun i H => H d = some (.frz o (dnO w d l)) ∧ i < l.length, fun i H x H' => H' = H ∧ ∃ k b v, l[i]? = some (k, b, v) ∧ x = .ref b, fun i H => H d = some (.frz o (dnO w d l)) ∧ l.length ≤ i⟩
def ItdN (w : World) (d : Addr) (o : Obj) (l : List (NestedKey × Addr × V)) : It :=
  ⟨fun i H => H d = some (.frz o (dnO w d l)) ∧ i < l.length, fun i H x H' => H' = H ∧ ∃ k b, l[i]? = some (k, b, x), fun i H => H d = some (.frz o (dnO w d l)) ∧ l.length ≤ i⟩
def ItiN (w : World) (d : Addr) (o : Obj) (l : List (NestedKey × Addr × V)) : It :=
  ⟨fun i H => H d = some (.frz o (dnO w d l)) ∧ i < l.length, fun i H x H' => ∃ T k b v, l[i]? = some (k, b, v) ∧ x = .ref T ∧ H T = none ∧ H' = upd H T (.tup [.ref b, v]), fun i H => H d = some (.frz o (dnO w d l)) ∧ l.length ≤ i⟩
end
section
variable {P : Program} {w : World} {K : PySem.W.Frag} {tg : Expr} {d : Addr} {o : Obj} {es : Array DictEntry} {ep : Nat}
theorem turn_keysN {l : List (NestedKey × Addr × V)} (it : Addr) (hod : o.data = .dict es ep) : Turn P w K tg (ItkN w d o l) [it] it (fun i h => h.IsKeyIter it d i l.length ep) where
  mem := by simp
  obj := fun i h st b hb => by
    have e : b = it := by simpa using hb
    subst e
    obtain ⟨oi, e, c, dd⟩ := st
    exact ⟨oi, e, fun v z => by rw [dd] at z; cases z⟩
  keep := fun i h h' st k => st.at fun oi e => k it (by simp) oi e
  item := by
    intro X hP hw hK hc i pins s σ H E I hf st hg
    subst hP hw hK
    obtain ⟨hd, hi⟩ := hg
    obtain ⟨f0, f1, f2, f3, f4, f5⟩ := hf it (by simp)
    obtain ⟨hs, hgd, hx, es', ep', hdt, hsz, ent⟩ := frzN I hd
    obtain ⟨rfl, rfl⟩ := dict_ep hod hdt
    obtain ⟨⟨k, b, v⟩, hkv⟩ : ∃ p, l[i]? = some p := ⟨l[i], List.getElem?_eq_getElem hi⟩
    obtain ⟨en, hen, hkey, _⟩ := ent i k b v hkv
    refine next_key_item st hgd hdt hsz hen fun h' st' sb => ?_
    have I1 : Inv X pins σ H { s with heap := h' } := I.turned (t' := s.toks) (fun b ob hb e => (sb.2 b hb).trans e) f0 f1 f3 f4 f5
    obtain ⟨oi, e, c, dd⟩ := id st'
    exact ⟨en.key, rfl, go_of (s := { s with heap := h' }) e c dd (by decide) ⟨.ref b, H, I1, hkey, ⟨rfl, k, b, v, hkv, rfl⟩, st', fun b hb => (hf b hb).1⟩⟩
  done := by
    intro X hP hw hK hc i pins s σ H E I hf st hg
    subst hP hw hK
    obtain ⟨hd, hi⟩ := hg
    obtain ⟨f0, f1, f2, f3, f4, f5⟩ := hf it (by simp)
    obtain ⟨hs, hgd, hx, es', ep', hdt, hsz, ent⟩ := frzN I hd
    obtain ⟨rfl, rfl⟩ := dict_ep hod hdt
    exact next_key_end (I.ok.hd hc) st hgd hdt hsz hi fun h' eb => ⟨rfl, I.turned (t' := s.toks) (fun b ob hb e => eb b ob hb e) f0 f1 f3 f4 f5⟩
  self := fun A i s Q E st h => by
    refine wpAny_pyIter_slot st.typeIs F.slot_dict_keyiterator_iter (wpAny_call_entry F.slot_dict_keyiterator_iter st.typeIs F.entry_dict_keyiterator_iter ?_ (F.args_dict_keyiterator_iter_1 _))
    show wpAny _ _ (ret (.ref it)) _ _ s
    exact wpAny_pure ⟨_, rfl, "dict_keyiterator", _, st.typeIs, F.slot_dict_keyiterator_next.lookup, h⟩
theorem turn_valsN {l : List (NestedKey × Addr × V)} (it : Addr) (hod : o.data = .dict es ep) : Turn P w K tg (ItdN w d o l) [it] it (fun i h => h.IsValIter it d i l.length ep) where
  mem := by simp
  obj := fun i h st b hb => by
    have e : b = it := by simpa using hb
    subst e
    obtain ⟨oi, e, c, dd⟩ := st
    exact ⟨oi, e, fun v z => by rw [dd] at z; cases z⟩
  keep := fun i h h' st k => st.at fun oi e => k it (by simp) oi e
  item := by
    intro X hP hw hK hc i pins s σ H E I hf st hg
    subst hP hw hK
    obtain ⟨hd, hi⟩ := hg
    obtain ⟨f0, f1, f2, f3, f4, f5⟩ := hf it (by simp)
    obtain ⟨hs, hgd, hx, es', ep', hdt, hsz, ent⟩ := frzN I hd
    obtain ⟨rfl, rfl⟩ := dict_ep hod hdt
    obtain ⟨⟨k, b, v⟩, hkv⟩ : ∃ p, l[i]? = some p := ⟨l[i], List.getElem?_eq_getElem hi⟩
    obtain ⟨en, hen, hkey, hval⟩ := ent i k b v hkv
    have hlt : i < es'.size := by omega
    have een : es'[i] = en := by
      have := Array.getElem?_eq_getElem hlt
      rw [hen] at this; exact (Option.some.inj this).symm
    have st' : s.heap.IsValIter it d i es'.size ep' := by rw [hsz]; exact st
    refine wpAny_pyNext_values_item_raw st' ⟨o, hgd, hx, hdt⟩ hlt fun h' st2 sb => ?_
    have I1 : Inv X pins σ H { s with heap := h' } := I.turned (t' := s.toks) (fun b ob hb e => (sb.2 b hb).trans e) f0 f1 f3 f4 f5
    obtain ⟨oi, e, c, dd⟩ := id st2
    refine ⟨_, rfl, go_of (s := { s with heap := h' }) e c dd (by decide) ⟨v, H, I1, by rw [een]; exact hval, ⟨rfl, k, b, hkv⟩, ?_, fun b hb => (hf b hb).1⟩⟩
    rw [hsz] at st2
    exact st2
  done := by
    intro X hP hw hK hc i pins s σ H E I hf st hg
    subst hP hw hK
    obtain ⟨hd, hi⟩ := hg
    obtain ⟨f0, f1, f2, f3, f4, f5⟩ := hf it (by simp)
    obtain ⟨hs, hgd, hx, es', ep', hdt, hsz, ent⟩ := frzN I hd
    obtain ⟨rfl, rfl⟩ := dict_ep hod hdt
    have st' : s.heap.IsValIter it d i es'.size ep' := by rw [hsz]; exact st
    exact wpAny_pyNext_values_end_raw (I.ok.hd hc) st' ⟨o, hgd, hx, hdt⟩ (by omega) fun h' eb => ⟨rfl, I.turned (t' := s.toks) (fun b ob hb e => eb b ob hb e) f0 f1 f3 f4 f5⟩
  self := fun A i s Q E st h => wpAny_pyIter_valiter st h
theorem turn_itemsN {l : List (NestedKey × Addr × V)} {elts : List Expr} {kk : Nat} {tpos : Pos} (it : Addr) (hod : o.data = .dict es ep) :
    Turn P w K (.Tuple elts kk tpos) (ItiN w d o l) [it] it (fun i h => ∃ ok ov, IsItemIter h it d i l.length ep ok ov) where
  mem := by simp
  obj := fun i h st b hb => by
    have e : b = it := by simpa using hb
    subst e
    obtain ⟨ok, ov, e⟩ := st
    exact ⟨_, e, fun v z => nomatch z⟩
  keep := fun i h h' st k => let ⟨ok, ov, e⟩ := st; ⟨ok, ov, k it (by simp) _ e⟩
  item := by
    intro X hP hw hK hc i pins s σ H E I hf st hg
    subst hP hw hK
    obtain ⟨hd, hi⟩ := hg
    obtain ⟨hs, hgd, hx, es', ep', hdt, hsz, ent⟩ := frzN I hd
    obtain ⟨rfl, rfl⟩ := dict_ep hod hdt
    obtain ⟨⟨k, b, v⟩, hkv⟩ : ∃ p, l[i]? = some p := ⟨l[i], List.getElem?_eq_getElem hi⟩
    obtain ⟨en, hen, hkey, hval⟩ := ent i k b v hkv
    have hlt' : i < es'.size := by omega
    have een : es'[i] = en := by
      have := Array.getElem?_eq_getElem hlt'
      rw [hen] at this; exact (Option.some.inj this).symm
    obtain ⟨ok, ov, he⟩ := st
    rw [← hsz] at he
    have hlt : it < s.heap.objs.size := Heap.lt_size he
    refine wpAny_pyNext_items_item_raw he ⟨o, hgd, hx, hdt⟩ hlt' fun h' ho hT hz hk => ?_
    refine ⟨_, rfl, wpAny_letOwnedTupleGo_items (s := { s with heap := h' }) ho fun h'' he' sb => ?_⟩
    have hT2 : h''.get? s.heap.objs.size = some { cls := .type "tuple", data := .seq #[es'[i].key, es'[i].val] } := (sb.2 _ (Nat.ne_of_gt hlt)).trans hT
    have new : ObjOk X.prog X.w (upd H s.heap.objs.size (.tup [.ref b, v])) h'' s.heap.objs.size (.tup [.ref b, v]) :=
      ⟨by show 2 ≤ sizeLine; decide, [es'[i].key, es'[i].val], .cons (by rw [een]; exact hkey) (.cons (by rw [een]; exact hval) .nil), ⟨_, hT2, rfl, _, rfl⟩⟩
    have I1 : Inv X pins σ (upd H s.heap.objs.size (.tup [.ref b, v])) { s with heap := h'' } :=
      I.turnedNew (t' := s.toks) (ch := [it]) (fun b ob hb e => (sb.2 b (by simpa using hb)).trans (hk b ob (by simpa using hb) e)) hf (Nat.le_refl _) new
    refine ⟨.ref s.heap.objs.size, _, I1, rfl, ⟨_, k, b, v, hkv, rfl, I.hok.fresh (Nat.le_refl _), rfl⟩, ⟨es'[i].key, es'[i].val, ?_⟩, fun c hc' => ?_⟩
    · rw [hsz] at he'; exact he'
    · have e : c = it := by simpa using hc'
      rw [e, upd_ne (Nat.ne_of_lt hlt)]
      exact (hf it (by simp)).1
  done := by
    intro X hP hw hK hc i pins s σ H E I hf st hg
    subst hP hw hK
    obtain ⟨hd, hi⟩ := hg
    obtain ⟨f0, f1, f2, f3, f4, f5⟩ := hf it (by simp)
    obtain ⟨hs, hgd, hx, es', ep', hdt, hsz, ent⟩ := frzN I hd
    obtain ⟨rfl, rfl⟩ := dict_ep hod hdt
    obtain ⟨ok, ov, he⟩ := st
    rw [← hsz] at he
    exact wpAny_pyNext_items_end_raw (I.ok.hd hc) he ⟨o, hgd, hx, hdt⟩ (by omega) fun h' eb => ⟨rfl, I.turned (t' := s.toks) (fun b ob hb e => eb b ob hb e) f0 f1 f3 f4 f5⟩
  self := fun A i s Q E st h => let ⟨_, _, e⟩ := st; PySem.W.kcp_self e h
end
section
variable {X : Cx} {tg e : Expr} {td : TE} {apos cpos : Pos}
/-- the dict is locked -/
def iKeysD (w : World) (td : TE) : TI := fun σ H R => td σ H fun x H1 => ∃ d o, x = .ref d ∧ ((∃ kvs, H1 d = some (.frz o (.dK kvs)) ∧ R (Itk d o kvs) H1) ∨ ∃ l, H1 d = some (.frz o (dnO w d l)) ∧ R (ItkN w d o l) H1)
def iValsD (w : World) (td : TE) : TI := fun σ H R => td σ H fun x H1 => ∃ d o, x = .ref d ∧ ((∃ kvs, H1 d = some (.frz o (.dK kvs)) ∧ R (Itd d o kvs) H1) ∨ ∃ l, H1 d = some (.frz o (dnO w d l)) ∧ R (ItdN w d o l) H1)
def iItemsD (w : World) (td : TE) : TI := fun σ H R => td σ H fun x H1 => ∃ d o, x = .ref d ∧ ((∃ kvs, H1 d = some (.frz o (.dK kvs)) ∧ R (Iti d o kvs) H1) ∨ ∃ l, H1 d = some (.frz o (dnO w d l)) ∧ R (ItiN w d o l) H1)
theorem pi_keysD (he : PE X e td) : PI X tg e (iKeysD X.w td) := by
  refine ⟨fun pins s σ H R I h => ?_⟩
  refine thn (he.run pins s σ H _ I h) fun u s1 ⟨x, H1, I1, rx, d, o, ex, q⟩ => ?_
  subst ex
  obtain rfl : u = Value.ref d := rx
  rcases q with ⟨kvs, hd, q⟩ | ⟨l, hd, q⟩
  · obtain ⟨hs, hgd, hx, es, ep, vs, hdt, hsz, kv, hm⟩ := I1.frzK hd
    refine iter_keys hs hgd hx hdt (pi_one (tk := s1.toks) I1 _ (turn_keys _ hdt) ⟨_, Heap.get?_push_size _ rfl, rfl, ?_⟩ q)
    rw [hsz] <;> rfl
  · obtain ⟨hs, hgd, hx, es, ep, hdt, hsz, ent⟩ := frzN I1 hd
    refine iter_keys hs hgd hx hdt (pi_one (tk := s1.toks) I1 _ (turn_keysN _ hdt) ⟨_, Heap.get?_push_size _ rfl, rfl, ?_⟩ q)
    rw [hsz] <;> rfl
theorem pi_itemsD {elts : List Expr} {kk : Nat} {tpos : Pos} (he : PE X e td) (hbase : attributeBase e "items" X.env (eval e X.env) = eval e X.env := by rfl) (hline : (apos.endLine == cpos.line) = true := by rfl) :
    PI X (.Tuple elts kk tpos) (.Call (.Attribute e "items" apos) [] [] cpos) (iItemsD X.w td) := by
  refine ⟨fun pins s σ H R I h => ?_⟩
  refine wpAny_Call_method (T := "dict") (id := "dict.items") hbase rfl hline F.plainAttrs_dict F.slot_dict_items F.type_dict_items (thn (he.run pins s σ H _ I h) fun u s1 ⟨x, H1, I1, rx, d, o, ex, q⟩ => ?_)
  subst ex
  obtain rfl : u = Value.ref d := rx
  have raw : ∃ es ep, (d == sysModules) = false ∧ s1.heap.get? d = some o ∧ o.ExactDict ∧ o.data = .dict es ep := by
    rcases q with ⟨kvs, hd, q⟩ | ⟨l, hd, q⟩
    · obtain ⟨hs, hgd, hx, es, ep, vs, hdt, _⟩ := I1.frzK hd; exact ⟨es, ep, hs, hgd, hx, hdt⟩
    · obtain ⟨hs, hgd, hx, es, ep, hdt, _⟩ := frzN I1 hd; exact ⟨es, ep, hs, hgd, hx, hdt⟩
  obtain ⟨es, ep, hs, hgd, hx, hdt⟩ := raw
  refine ⟨⟨o, hgd, hx.1⟩, fun b eb => by cases eb; exact ⟨o, hgd, hx.2.1⟩, ?_⟩
  have I2 : Inv X pins σ H1 { s1 with heap := s1.heap.push { cls := .type "dict_items", data := .fields #[.ref d] } } := I1.kept (t' := s1.toks) fun b ob q => Heap.get?_push_of_some _ q
  have fin : wpAny (model X.prog X.w) X.A (pyIter (.ref s1.heap.objs.size)) (PIE X pins σ (.Tuple elts kk tpos) R) X.xe { s1 with heap := s1.heap.push { cls := .type "dict_items", data := .fields #[.ref d] } } := by
    refine wpAny_pyIter_items_raw (d := d) ⟨_, Heap.get?_push_size _ rfl, rfl, rfl⟩ ⟨o, Heap.get?_push_of_some _ hgd, hx, hdt⟩ ?_
    rcases q with ⟨kvs, hd, q⟩ | ⟨l, hd, q⟩
    · obtain ⟨_, _, _, es', ep', vs, hdt', hsz, kv, hm⟩ := I1.frzK hd
      obtain ⟨rfl, rfl⟩ := dict_ep hdt hdt'
      refine pi_one (tk := s1.toks) I2 _ (turn_items _ hdt) ⟨.none, .none, ?_⟩ q
      rw [← hsz]
      exact Heap.get?_push_size _ rfl
    · obtain ⟨_, _, _, es', ep', hdt', hsz, ent⟩ := frzN I1 hd
      obtain ⟨rfl, rfl⟩ := dict_ep hdt hdt'
      refine pi_one (tk := s1.toks) I2 _ (turn_itemsN _ hdt) ⟨.none, .none, ?_⟩ q
      rw [← hsz]
      exact Heap.get?_push_size _ rfl
  show wpAny _ _ (callWith cpos (.builtin "dict.items") [.ref d] [] []) _ X.xe s1
  exact method_meetsIn F.slot_dict_items F.entry_dict_items rfl (PySem.evalArgs_none ⟨rfl, ⟨o, hgd, hx.1⟩, F.args_dict_items_1 _, _, meets_dict_items_raw d hs, ⟨es, ep, o, hgd, hx, hdt⟩, fin⟩)
theorem pi_valuesD (he : PE X e td) (hbase : attributeBase e "values" X.env (eval e X.env) = eval e X.env := by rfl) (hline : (apos.endLine == cpos.line) = true := by rfl) :
    PI X tg (.Call (.Attribute e "values" apos) [] [] cpos) (iValsD X.w td) := by
  refine ⟨fun pins s σ H R I h => ?_⟩
  refine wpAny_Call_method (T := "dict") (id := "dict.values") hbase rfl hline F.plainAttrs_dict F.slot_dict_values F.type_dict_values (thn (he.run pins s σ H _ I h) fun u s1 ⟨x, H1, I1, rx, d, o, ex, q⟩ => ?_)
  subst ex
  obtain rfl : u = Value.ref d := rx
  have raw : ∃ es ep, (d == sysModules) = false ∧ s1.heap.get? d = some o ∧ o.ExactDict ∧ o.data = .dict es ep := by
    rcases q with ⟨kvs, hd, q⟩ | ⟨l, hd, q⟩
    · obtain ⟨hs, hgd, hx, es, ep, vs, hdt, _⟩ := I1.frzK hd; exact ⟨es, ep, hs, hgd, hx, hdt⟩
    · obtain ⟨hs, hgd, hx, es, ep, hdt, _⟩ := frzN I1 hd; exact ⟨es, ep, hs, hgd, hx, hdt⟩
  obtain ⟨es, ep, hs, hgd, hx, hdt⟩ := raw
  refine ⟨⟨o, hgd, hx.1⟩, fun b eb => by cases eb; exact ⟨o, hgd, hx.2.1⟩, ?_⟩
  have I2 : Inv X pins σ H1 { s1 with heap := s1.heap.push { cls := .type "dict_values", data := .fields #[.ref d] } } := I1.kept (t' := s1.toks) fun b ob q => Heap.get?_push_of_some _ q
  have fin : wpAny (model X.prog X.w) X.A (pyIter (.ref s1.heap.objs.size)) (PIE X pins σ tg R) X.xe { s1 with heap := s1.heap.push { cls := .type "dict_values", data := .fields #[.ref d] } } := by
    refine wpAny_pyIter_values_raw (d := d) ⟨_, Heap.get?_push_size _ rfl, rfl, rfl⟩ ⟨o, Heap.get?_push_of_some _ hgd, hx, hdt⟩ ?_
    rcases q with ⟨kvs, hd, q⟩ | ⟨l, hd, q⟩
    · obtain ⟨_, _, _, es', ep', vs, hdt', hsz, kv, hm⟩ := I1.frzK hd
      obtain ⟨rfl, rfl⟩ := dict_ep hdt hdt'
      refine pi_one (tk := s1.toks) I2 _ (turn_vals _ hdt) ⟨_, Heap.get?_push_size _ rfl, rfl, ?_⟩ q
      rw [hsz] <;> rfl
    · obtain ⟨_, _, _, es', ep', hdt', hsz, ent⟩ := frzN I1 hd
      obtain ⟨rfl, rfl⟩ := dict_ep hdt hdt'
      refine pi_one (tk := s1.toks) I2 _ (turn_valsN _ hdt) ⟨_, Heap.get?_push_size _ rfl, rfl, ?_⟩ q
      rw [hsz] <;> rfl
  show wpAny _ _ (callWith cpos (.builtin "dict.values") [.ref d] [] []) _ X.xe s1
  exact method_meetsIn F.slot_dict_values F.entry_dict_values rfl (PySem.evalArgs_none ⟨rfl, ⟨o, hgd, hx.1⟩, F.args_dict_values_1 _, _, meets_dict_values_raw d hs, ⟨es, ep, o, hgd, hx, hdt⟩, fin⟩)
end
/-! what they give -/
theorem RepK.at {K : Kw} {G : Hp} : ∀ {l : List (Key × V)} {ds : List (PyData × PyData)}, RepK K G l ds → ∀ {i : Nat} {p : PyData × PyData}, ds[i]? = some p → ∃ k v, l[i]? = some (k, v) ∧ p.1 = keyD k ∧ Rep K G v p.2
  | _, _, .nil, i, _, e => by simp at e
  | _, _, .cons r t, 0, _, e => by simp at e; subst e; exact ⟨_, _, rfl, rfl, r⟩
  | _, _, .cons _ t, i + 1, _, e => by
    obtain ⟨k, v, h1, h2, h3⟩ := RepK.at t (i := i) (by simpa using e)
    exact ⟨k, v, by simpa using h1, h2, h3⟩
theorem RepN.at {K : Kw} {G : Hp} : ∀ {l : List (NestedKey × Addr × V)} {ds : List (PyData × PyData)}, RepN K G l ds → ∀ {i : Nat} {p : PyData × PyData}, ds[i]? = some p → ∃ k b v, l[i]? = some (k, b, v) ∧ Rep K G (.ref b) p.1 ∧ Rep K G v p.2
  | _, _, .nil, i, _, e => by simp at e
  | _, _, .cons ek rk r t, 0, _, e => by simp at e; subst e; exact ⟨_, _, _, rfl, rk, r⟩
  | _, _, .cons _ _ _ t, i + 1, _, e => by
    obtain ⟨k, b, v, h1, h2, h3⟩ := RepN.at t (i := i) (by simpa using e)
    exact ⟨k, b, v, by simpa using h1, h2, h3⟩
theorem rep_kV {K : Kw} {G : Hp} (k : Key) : Rep K G (kV k) (keyD k) := by
  cases k
  · exact .int _
  · exact .str _
section
variable {C : Cn} {B G : Hp} {d : Addr} {o : Obj} {ds : List (PyData × PyData)}
theorem gives_keys {l : List (Key × V)} (h : G d = some (.frz o (.dK l))) (r : RepK C.K G l ds) : Gives C B (Itk d o l) G (ds.map (·.1)) := by
  intro i G1 H1 g s _
  have hl : l.length = ds.length := r.length
  refine ⟨fun dd e => ?_, fun h1 h2 => ⟨s _ _ (g _ _ h), by simp at h1; omega⟩⟩
  rw [List.getElem?_map] at e
  cases ep : ds[i]? with
  | none => rw [ep] at e; cases e
  | some p =>
    rw [ep] at e; cases e
    obtain ⟨k, v, h1, h2, h3⟩ := r.at ep
    refine ⟨⟨s _ _ (g _ _ h), (List.getElem?_eq_some_iff.mp h1).1⟩, fun x H' y => ?_⟩
    obtain ⟨e1, k', v', e2, e3⟩ := y
    rw [h1] at e2; cases e2
    subst e1 e3
    exact ⟨G1, Stp.refl s, by show Rep C.K G1 (kV k) p.1; rw [h2]; exact rep_kV k⟩
theorem gives_keysN {l : List (NestedKey × Addr × V)} (h : G d = some (.frz o (dnO C.K.w d l))) (r : RepN C.K G l ds) : Gives C B (ItkN C.K.w d o l) G (ds.map (·.1)) := by
  intro i G1 H1 g s _
  have hl : l.length = ds.length := r.length
  refine ⟨fun dd e => ?_, fun h1 h2 => ⟨s _ _ (g _ _ h), by simp at h1; omega⟩⟩
  rw [List.getElem?_map] at e
  cases ep : ds[i]? with
  | none => rw [ep] at e; cases e
  | some p =>
    rw [ep] at e; cases e
    obtain ⟨k, b, v, h1, h2, h3⟩ := r.at ep
    refine ⟨⟨s _ _ (g _ _ h), (List.getElem?_eq_some_iff.mp h1).1⟩, fun x H' y => ?_⟩
    obtain ⟨e1, k', b', v', e2, e3⟩ := y
    rw [h1] at e2; cases e2
    subst e1 e3
    exact ⟨G1, Stp.refl s, h2.mono g⟩
theorem gives_vals {l : List (Key × V)} (h : G d = some (.frz o (.dK l))) (r : RepK C.K G l ds) : Gives C B (Itd d o l) G (ds.map (·.2)) := by
  intro i G1 H1 g s _
  have hl : l.length = ds.length := r.length
  refine ⟨fun dd e => ?_, fun h1 h2 => ⟨s _ _ (g _ _ h), by simp at h1; omega⟩⟩
  rw [List.getElem?_map] at e
  cases ep : ds[i]? with
  | none => rw [ep] at e; cases e
  | some p =>
    rw [ep] at e; cases e
    obtain ⟨k, v, h1, h2, h3⟩ := r.at ep
    refine ⟨⟨s _ _ (g _ _ h), (List.getElem?_eq_some_iff.mp h1).1⟩, fun x H' y => ?_⟩
    obtain ⟨e1, k', e2⟩ := y
    rw [h1] at e2; cases e2
    subst e1
    exact ⟨G1, Stp.refl s, h3.mono g⟩
theorem gives_valsN {l : List (NestedKey × Addr × V)} (h : G d = some (.frz o (dnO C.K.w d l))) (r : RepN C.K G l ds) : Gives C B (ItdN C.K.w d o l) G (ds.map (·.2)) := by
  intro i G1 H1 g s _
  have hl : l.length = ds.length := r.length
  refine ⟨fun dd e => ?_, fun h1 h2 => ⟨s _ _ (g _ _ h), by simp at h1; omega⟩⟩
  rw [List.getElem?_map] at e
  cases ep : ds[i]? with
  | none => rw [ep] at e; cases e
  | some p =>
    rw [ep] at e; cases e
    obtain ⟨k, b, v, h1, h2, h3⟩ := r.at ep
    refine ⟨⟨s _ _ (g _ _ h), (List.getElem?_eq_some_iff.mp h1).1⟩, fun x H' y => ?_⟩
    obtain ⟨e1, k', b', e2⟩ := y
    rw [h1] at e2; cases e2
    subst e1
    exact ⟨G1, Stp.refl s, h3.mono g⟩
def pairD (p : PyData × PyData) : PyData := .tuple [p.1, p.2]
theorem gives_items {l : List (Key × V)} (h : G d = some (.frz o (.dK l))) (r : RepK C.K G l ds) : Gives C B (Iti d o l) G (ds.map pairD) := by
  intro i G1 H1 g s _
  have hl : l.length = ds.length := r.length
  refine ⟨fun dd e => ?_, fun h1 h2 => ⟨s _ _ (g _ _ h), by simp at h1; omega⟩⟩
  rw [List.getElem?_map] at e
  cases ep : ds[i]? with
  | none => rw [ep] at e; cases e
  | some p =>
    rw [ep] at e; cases e
    obtain ⟨k, v, h1, h2, h3⟩ := r.at ep
    refine ⟨⟨s _ _ (g _ _ h), (List.getElem?_eq_some_iff.mp h1).1⟩, fun x H' y => ?_⟩
    obtain ⟨T, k', v', e2, e3, e4, e5⟩ := y
    rw [h1] at e2; cases e2
    subst e3 e5
    have st := Stp.new (o := .tup [kV k, v]) s e4
    exact ⟨_, st, .tup (.inl (.inl upd_same)) (.cons (by rw [h2]; exact rep_kV k) (.cons ((h3.mono g).mono st.g) .nil))⟩
theorem gives_itemsN {l : List (NestedKey × Addr × V)} (h : G d = some (.frz o (dnO C.K.w d l))) (r : RepN C.K G l ds) : Gives C B (ItiN C.K.w d o l) G (ds.map pairD) := by
  intro i G1 H1 g s _
  have hl : l.length = ds.length := r.length
  refine ⟨fun dd e => ?_, fun h1 h2 => ⟨s _ _ (g _ _ h), by simp at h1; omega⟩⟩
  rw [List.getElem?_map] at e
  cases ep : ds[i]? with
  | none => rw [ep] at e; cases e
  | some p =>
    rw [ep] at e; cases e
    obtain ⟨k, b, v, h1, h2, h3⟩ := r.at ep
    refine ⟨⟨s _ _ (g _ _ h), (List.getElem?_eq_some_iff.mp h1).1⟩, fun x H' y => ?_⟩
    obtain ⟨T, k', b', v', e2, e3, e4, e5⟩ := y
    rw [h1] at e2; cases e2
    subst e3 e5
    have st := Stp.new (o := .tup [.ref b, v]) s e4
    exact ⟨_, st, .tup (.inl (.inl upd_same)) (.cons ((h2.mono g).mono st.g) (.cons ((h3.mono g).mono st.g) .nil))⟩
end
section
variable {X : Cx} {a : Ax} {W : WX} {e tg : Expr} {apos pos : Pos}
def asDict (f : PyData × PyData → PyData) : PyData → Res (List PyData)
  | .dict ds => .ok (ds.map f)
  | _ => .stuck
def miD (f : PyData × PyData → PyData) (m : MD) : ML := fun δ => (m δ).bind (asDict f)
theorem di_keysD {m : MD} (h : DV X a W e m) : DI X a W tg e (miD (·.1) m) := by
  obtain ⟨t, p, s⟩ := h
  refine ⟨_, pi_keysD p, fun B G0 G H σ δ S R q => ?_⟩
  refine s B G0 G H σ δ S _ ?_
  have q' : ROk (cn X a) W σ G H (fun G' _ ds J => Gives (cn X a) B J G' ds) ((m δ).bind (asDict (·.1))) R := q
  generalize m δ = r at q'
  cases r with
  | stuck => exact q'.elim
  | exc x => exact q'
  | ok d =>
    intro v G' H' st rp
    cases rp with
    | dk h r => exact ⟨_, _, rfl, .inl ⟨_, st.gh _ _ h, q' _ G' H' st (gives_keys (C := cn X a) h r)⟩⟩
    | dn h _ r => exact ⟨_, _, rfl, .inr ⟨_, st.gh _ _ h, q' _ G' H' st (gives_keysN (C := cn X a) h r)⟩⟩
    | lst _ _ => exact q'.elim
    | tup _ _ => exact q'.elim
    | non => exact q'.elim
    | bl _ => exact q'.elim
    | int _ => exact q'.elim
    | str _ => exact q'.elim
theorem di_valuesD {m : MD} (h : DV X a W e m) (hbase : attributeBase e "values" X.env (eval e X.env) = eval e X.env := by rfl) (hline : (apos.endLine == pos.line) = true := by rfl) : DI X a W tg (.Call (.Attribute e "values" apos) [] [] pos) (miD (·.2) m) := by
  obtain ⟨t, p, s⟩ := h
  refine ⟨_, pi_valuesD p hbase hline, fun B G0 G H σ δ S R q => ?_⟩
  refine s B G0 G H σ δ S _ ?_
  have q' : ROk (cn X a) W σ G H (fun G' _ ds J => Gives (cn X a) B J G' ds) ((m δ).bind (asDict (·.2))) R := q
  generalize m δ = r at q'
  cases r with
  | stuck => exact q'.elim
  | exc x => exact q'
  | ok d =>
    intro v G' H' st rp
    cases rp with
    | dk h r => exact ⟨_, _, rfl, .inl ⟨_, st.gh _ _ h, q' _ G' H' st (gives_vals (C := cn X a) h r)⟩⟩
    | dn h _ r => exact ⟨_, _, rfl, .inr ⟨_, st.gh _ _ h, q' _ G' H' st (gives_valsN (C := cn X a) h r)⟩⟩
    | lst _ _ => exact q'.elim
    | tup _ _ => exact q'.elim
    | non => exact q'.elim
    | bl _ => exact q'.elim
    | int _ => exact q'.elim
    | str _ => exact q'.elim
theorem di_itemsD {m : MD} {elts : List Expr} {kk : Nat} {tpos : Pos} (h : DV X a W e m) (hbase : attributeBase e "items" X.env (eval e X.env) = eval e X.env := by rfl) (hline : (apos.endLine == pos.line) = true := by rfl) : DI X a W (.Tuple elts kk tpos) (.Call (.Attribute e "items" apos) [] [] pos) (miD pairD m) := by
  obtain ⟨t, p, s⟩ := h
  refine ⟨_, pi_itemsD p hbase hline, fun B G0 G H σ δ S R q => ?_⟩
  refine s B G0 G H σ δ S _ ?_
  have q' : ROk (cn X a) W σ G H (fun G' _ ds J => Gives (cn X a) B J G' ds) ((m δ).bind (asDict pairD)) R := q
  generalize m δ = r at q'
  cases r with
  | stuck => exact q'.elim
  | exc x => exact q'
  | ok d =>
    intro v G' H' st rp
    cases rp with
    | dk h r => exact ⟨_, _, rfl, .inl ⟨_, st.gh _ _ h, q' _ G' H' st (gives_items (C := cn X a) h r)⟩⟩
    | dn h _ r => exact ⟨_, _, rfl, .inr ⟨_, st.gh _ _ h, q' _ G' H' st (gives_itemsN (C := cn X a) h r)⟩⟩
    | lst _ _ => exact q'.elim
    | tup _ _ => exact q'.elim
    | non => exact q'.elim
    | bl _ => exact q'.elim
    | int _ => exact q'.elim
    | str _ => exact q'.elim
end
end DL
/-! DLu: the order of tuples of ints; rows for simp -/
namespace DL
open PySem L2
def rLtG (K : PySem.W.Frag) : R2 := fun x y H Q => rI0 (fun i j => .bl (decide (i < j))) x y H Q ∨ rLtT K x y H Q
theorem op_ltG {X : Cx} {k : Nat} (hr : Room k X.A) : OpR X (compareOp .Lt) (rLtG X.K) := op_lt.or (op_ltT hr.units0)
def ltG : PyData → PyData → Res Slot
  | .int i, .int j => okB (decide (i < j))
  | .tuple x, .tuple y => match intsOf x with
    | some ns => match intsOf y with
      | some ms => okB (HT.lexLt ns ms)
      | none => .stuck
    | none => .stuck
  | _, _ => .stuck
theorem ltG_ok {K : Kw} : OpS K (rLtG K) ltG := by
  intro G H x y d e s Q g rx ry ef q
  unfold ltG at ef
  split at ef
  · cases ef
    cases rdr_int rx; cases rdr_int ry
    exact .inl ⟨_, _, rfl, rfl, q _ G H (Stp.refl g) (Rep.bl _)⟩
  · split at ef
    · rename_i ns hn
      split at ef
      · rename_i ms hm
        cases ef
        obtain ⟨a, xs, e1, q1, r1⟩ := rdr_tup g rx
        obtain ⟨b, ys, e2, q2, r2⟩ := rdr_tup g ry
        rw [intsOf_eq hn] at r1
        rw [intsOf_eq hm] at r2
        rw [repL_ints r1] at q1
        rw [repL_ints r2] at q2
        exact .inr ⟨a, b, ns, ms, e1, e2, q1, q2, q _ G H (Stp.refl g) (Rep.bl _)⟩
      · cases ef
    · cases ef
  · cases ef
theorem ltG_ne : NoExc ltG := fun d e x => by
  unfold ltG
  split <;> (try split) <;> (try split) <;> (intro h; cases h)
/-! rows -/
section
variable {δ : DEnv} {ma mb mk mv : MD} {ml : ML} {ds : List (PyData × PyData)} {i : Nat}
@[simp] theorem ltG_int {a b : Int} : ltG (.int a) (.int b) = .ok (.val (.bool (decide (a < b)))) := (rfl)
theorem ltG_tup {a b : List Int} : ltG (.tuple (a.map PyData.int)) (.tuple (b.map PyData.int)) = .ok (.val (.bool (HT.lexLt a b))) := by
  show (match intsOf (a.map PyData.int) with
    | some ns => match intsOf (b.map PyData.int) with
      | some ms => okB (HT.lexLt ns ms)
      | none => .stuck
    | none => .stuck) = _
  rw [intsOf_map, intsOf_map]
  rfl
@[simp] theorem gxF_dict {k : PyData} : gxF (.dict ds) k = if keyAt ds k = true then (match dget ds k with | some d => .ok (.val d) | none => .stuck) else .stuck := (rfl)
@[simp] theorem gxF_list {xs : List PyData} {k : PyData} : gxF (.list xs) k = ixF (.list xs) k := (rfl)
@[simp] theorem gxF_tup {xs : List PyData} {k : PyData} : gxF (.tuple xs) k = ixF (.tuple xs) k := (rfl)
@[simp] theorem gxF_str {x : Str} {k : PyData} : gxF (.str x) k = ixF (.str x) k := (rfl)
@[simp] theorem inG_dict {neg : Bool} {k : PyData} : inG neg k (.dict ds) = if keyAt ds k = true then .ok (.val (.bool (neg != (dget ds k).isSome))) else .stuck := (rfl)
@[simp] theorem lenG_dict : lenG [.dict ds] = .ok (.val (.int (ds.length : Int))) := (rfl)
@[simp] theorem lenG_list {xs : List PyData} : lenG [.list xs] = .ok (.val (.int (xs.length : Int))) := (rfl)
@[simp] theorem lenG_tup {xs : List PyData} : lenG [.tuple xs] = .ok (.val (.int (xs.length : Int))) := (rfl)
@[simp] theorem mGet_ap : mGet ma ml δ = (ma δ).bind fun d => (match d with
  | .dict ds => (ml δ).bind fun ks => getF (.dict ds) ks
  | _ => .stuck) := (rfl)
@[simp] theorem getF_1 {k : PyData} : getF (.dict ds) [k] = if keyAt ds k = true then .ok (.val ((dget ds k).getD .none)) else .stuck := (rfl)
@[simp] theorem getF_2 {k z : PyData} : getF (.dict ds) [k, z] = if keyAt ds k = true then .ok (.val ((dget ds k).getD z)) else .stuck := (rfl)
@[simp] theorem mSetI_ap : mSetI i mk mv δ = (mv δ).out δ fun v => if isO δ[i]? = true then (mk δ).out δ fun k => setI i δ k v else .stuck := (rfl)
@[simp] theorem setI_ap {k v : PyData} : setI i δ k v = (match δ[i]? with
  | some (some (.own (.list ds))) => (match k with
    | .int j => (match ixN ds.length j with
      | some n => .nx (δ.set i (some (.own (.list (ds.set n v)))))
      | none => .stuck)
    | _ => .stuck)
  | some (some (.own (.dict ds))) => if keyAt ds k = true ∧ ds.length < sizeLine then .nx (δ.set i (some (.own (.dict (dput ds k v))))) else .stuck
  | _ => .stuck) := (rfl)
@[simp] theorem miD_ap {f : PyData × PyData → PyData} : miD f ma δ = (ma δ).bind (asDict f) := (rfl)
@[simp] theorem asDict_dict {f : PyData × PyData → PyData} : asDict f (.dict ds) = .ok (ds.map f) := (rfl)
@[simp] theorem frz_own {d : PyData} (e : δ[i]? = some (some (.own d))) : frz i δ = δ.set i (some (.val d)) := by
  unfold frz; rw [e]
theorem ixN_of {n j : Nat} (h : j < n) : ixN n (j : Int) = some j := by
  unfold ixN
  rw [if_pos (by omega)]
  simp [h]
end
end DL
/-! DLv: list(d) of a dict -/
namespace DL
open PySem L2
section
variable {X : Cx}
def rListDD (K : Kw) : List V → Hp → VK → Prop := fun xs H Q => ∃ G a ds, xs = [.ref a] ∧ Same G H ∧ DcV K G H a ds ∧ ∀ vs l, RepL K G vs (ds.map (·.1)) → H l = none → Q (.ref l) (upd H l (.lst vs))
theorem repK_keys {K : Kw} {G : Hp} : ∀ {l : List (Key × V)} {ds : List (PyData × PyData)}, RepK K G l ds → RepL K G (l.map fun kv => kV kv.1) (ds.map (·.1))
  | _, _, .nil => .nil
  | _, _, .cons _ t => .cons (rep_kV _) (repK_keys t)
theorem repN_keys {K : Kw} {G : Hp} : ∀ {l : List (NestedKey × Addr × V)} {ds : List (PyData × PyData)}, RepN K G l ds → RepL K G (l.map fun p => V.ref p.2.1) (ds.map (·.1))
  | _, _, .nil => .nil
  | _, _, .cons _ r _ t => .cons r (repN_keys t)
theorem call_listDD (hc : X.calm = true) : CallR X (.type "list") (rListDD X.kw) := by
  intro pins s σ H xs us Q I r h
  obtain ⟨G, p, ds, e, g, D, q⟩ := h
  subst e
  obtain ⟨u, eu, rx⟩ := vals1 r
  subst eu
  obtain rfl : u = Value.ref p := rx
  rcases D with ⟨l, hl, rk⟩ | ⟨l, hl, z, rn⟩
  · obtain ⟨z, lo, vs, rv, hd⟩ := dk_rd I.hok hl
    obtain ⟨ep, hat⟩ := hd.dictAt
    have hl2 : l.length = vs.length := Paired.length rv
    refine PySem.W.kdl_call (PySem.W.kdl_dict (knd := mixKind X.prog X.w) (kvs := vs) (ep := ep) lo) (I.ok.hd hc) hat (by rw [← hl2]; exact z) fun h' tk acc' c' hkeep hS hacc => ?_
    refine ⟨.ref s.heap.objs.size, upd H s.heap.objs.size (.lst (l.map fun kv => kV kv.1)), I.laid hkeep (Nat.le_refl _) (show ObjOk X.prog X.w _ _ _ (.lst (l.map fun kv => kV kv.1)) from ⟨?_, acc'.toList, c', ?_, ?_⟩), rfl, q _ _ (repK_keys rk) (I.hok.fresh (Nat.le_refl _))⟩
    · rw [List.length_map]; exact z
    · have el : acc'.toList.length = acc'.size := by simp
      refine vals_of_at (by rw [List.length_map, el, hacc.1, hl2]) fun j x w h1 h2 => ?_
      obtain ⟨k, y, hky, hi⟩ := hacc.2 j w (by rw [← Array.getElem?_toList]; exact h2)
      have e1 : (l.map (·.1))[j]? = some k := by
        rw [KV.keys rv, List.getElem?_map, hky] <;> rfl
      have e2 : (l.map fun kv => kV kv.1)[j]? = some (kV k) := by
        have e3 : (l.map fun kv => kV kv.1) = (l.map (·.1)).map kV := by rw [List.map_map] <;> rfl
        rw [e3, List.getElem?_map, e1] <;> rfl
      rw [e2] at h1
      cases h1
      exact keyIs_rel hi
    · rw [Array.toArray_toList]; exact hS
  · obtain ⟨lo, xs, o, es, ep, px, ho, hx, hdat, hes, _⟩ := dn_of I.hok hl
    have l1 : es.size = xs.length := by rw [← Array.length_toList, hes, List.length_map]
    have l2 : l.length = xs.length := Paired.length px
    refine PySem.W.kdl_call (kdl_raw lo hx hdat) (I.ok.hd hc) ho (by rw [l1, ← l2]; exact z) fun h' tk acc' c' hkeep hS hacc => ?_
    refine ⟨.ref s.heap.objs.size, upd H s.heap.objs.size (.lst (l.map fun p => V.ref p.2.1)), I.laid hkeep (Nat.le_refl _) (show ObjOk X.prog X.w _ _ _ (.lst (l.map fun p => V.ref p.2.1)) from ⟨?_, acc'.toList, c', ?_, ?_⟩), rfl, q _ _ (repN_keys rn) (I.hok.fresh (Nat.le_refl _))⟩
    · rw [List.length_map]; exact z
    · have el : acc'.toList.length = acc'.size := by simp
      refine vals_of_at (by rw [List.length_map, el, hacc.1, l1, l2]) fun j x w h1 h2 => ?_
      obtain ⟨en, hen, hw⟩ := hacc.2 j w (by rw [← Array.getElem?_toList]; exact h2)
      rw [List.getElem?_map] at h1
      cases ej : l[j]? with
      | none => rw [ej] at h1; cases h1
      | some kbv =>
        obtain ⟨k, b, v⟩ := kbv
        rw [ej] at h1
        cases h1
        obtain ⟨q', hq, e1, e2, e3⟩ := paired_at px ej
        have e4 : es[j]? = some ⟨q'.1.hash X.w, .ref q'.2.1, q'.2.2⟩ := by
          rw [← Array.getElem?_toList, hes, List.getElem?_map, hq]; rfl
        rw [e4] at hen
        cases hen
        subst hw
        show RelV (V.ref b) (Value.ref q'.2.1)
        rw [← e2]
        rfl
    · rw [Array.toArray_toList]; exact hS
def listG : List PyData → Res Slot
  | [.dict ds] => .ok (.own (.list (ds.map (·.1))))
  | ds => listF ds
theorem listG_ok {K : Kw} : CallS K (fun xs H Q => rListDD K xs H Q ∨ ∃ p ys, xs = [.ref p] ∧ (SqL K H p ys ∨ SqT K H p ys) ∧ ∀ l, H l = none → Q (.ref l) (upd H l (.lst ys))) listG := by
  refine ⟨fun G H vs ds s Q g rd ef q => ?_, fun ds x => ?_⟩
  · unfold listG at ef
    split at ef
    · rename_i d
      cases ef
      obtain ⟨v, ev, r⟩ := rdl1 rd
      obtain ⟨b, rfl, D⟩ := rdr_dc g r
      refine .inl ⟨G, b, d, ev, g, D, fun vs l rv hl => ?_⟩
      exact new_list g rv q l hl
    · exact .inr (listF_ok.1 G H vs ds s Q g rd ef q)
  · unfold listG
    split
    · intro h; cases h
    · exact (listF_ok (K := K)).2 ds x
theorem call_listG (hc : X.calm = true) : CallR X (.type "list") (fun xs H Q => rListDD X.kw xs H Q ∨ ∃ p ys, xs = [.ref p] ∧ (SqL X.K H p ys ∨ SqT X.K H p ys) ∧ ∀ l, H l = none → Q (.ref l) (upd H l (.lst ys))) := (call_listDD hc).or call_list_of
@[simp] theorem listG_dict {ds : List (PyData × PyData)} : listG [.dict ds] = .ok (.own (.list (ds.map (·.1)))) := (rfl)
end
end DL
namespace DL
open PySem L2
section
variable {X : Cx} {a : Ax} {W : WX} {pos : Pos}
/-- a, b = x, y stored from the right, without the pair -/
def parS (i j : Nat) (δ : DEnv) (ds : List PyData) : Out := match ds with
  | [d, e] => .nx ((δ.set i (some (.val d))).set j (some (.val e)))
  | _ => .stuck
def mPar (i j : Nat) (m : ML) : MS := fun δ => (m δ).out δ (parS i j δ)
theorem ds_par {i j : Nat} {x y : Str} {e1 e2 : Expr} {px py pt : Pos} {kt k2 pt2} {m : ML} (hc : X.calm = true) (hf : a.free i) (hf2 : a.free j) (hN : X.N.Nodup) (hi : X.N[i]? = some x) (hj : X.N[j]? = some y) (hij : i ≠ j)
    (hx : X.env.scope.names.lookup x = some .local) (hy : X.env.scope.names.lookup y = some .local) (h : DA X a W [e1, e2] m)
    (hw : swappedStores [.Tuple [.Name x px, .Name y py] kt pt] (.Tuple [e1, e2] k2 pt2) X.env = pure (some [x, y]) := by rfl)
    (hs : swapsWithSole [.Tuple [.Name x px, .Name y py] kt pt] (.Tuple [e1, e2] k2 pt2) pos.line X.env = pure false := by rfl) :
    DS X a W (.Assign [.Tuple [.Name x px, .Name y py] kt pt] (.Tuple [e1, e2] k2 pt2) pos) (mPar i j m) := by
  obtain ⟨t, p, s⟩ := h
  refine ⟨_, ps_par hc hN hi hj hij hx hy p hw hs, fun B G0 G H σ δ D S k => ?_⟩
  refine snd_out s S (R := fun vs H1 => ∃ v w, vs = [v, w] ∧ D.nx ((σ.set i (some v)).set j (some w)) H1) (f := parS i j δ) k fun ds vs G' H' _ st r k => ?_
  have k' : OOk (cn X a) W B G0 D (parS i j δ ds) := k
  unfold parS at k'
  split at k'
  · cases r with
    | cons r1 r =>
      cases r with
      | cons r2 r =>
        cases r
        exact ⟨_, _, rfl, k' _ _ _ (((S.step st).setVal (C := cn X a) hf r1).setVal (C := cn X a) hf2 r2)⟩
  · exact k'.elim
@[simp] theorem mPar_ap {i j : Nat} {m : ML} {δ : DEnv} : mPar i j m δ = (m δ).out δ (parS i j δ) := (rfl)
@[simp] theorem parS_ap {i j : Nat} {δ : DEnv} {d e : PyData} : parS i j δ [d, e] = .nx ((δ.set i (some (.val d))).set j (some (.val e))) := (rfl)
end
end DL
/-! DLw: how many unlike texts a list has -/
namespace DL
/-- unlike ones among the first i -/
def unl (xs : List PySem.Str) : Nat → Nat
  | 0 => 0
  | i + 1 => if xs.getD i PySem.Str.empty ∈ xs.take i then unl xs i else unl xs i + 1
theorem unl_succ (xs : List PySem.Str) (i : Nat) : unl xs (i + 1) = if xs.getD i PySem.Str.empty ∈ xs.take i then unl xs i else unl xs i + 1 := rfl
theorem unl_le (xs : List PySem.Str) : ∀ i, unl xs i ≤ i
  | 0 => Nat.le_refl 0
  | i + 1 => by
    have := unl_le xs i
    unfold unl
    split <;> omega
theorem unl_all {xs : List PySem.Str} : ∀ i, i ≤ xs.length → (unl xs i = i ↔ (xs.take i).Nodup)
  | 0, _ => by simp [unl]
  | i + 1, h => by
    have ih := unl_all (xs := xs) i (by omega)
    have hl := unl_le xs i
    have hi : i < xs.length := by omega
    have e : xs.take (i + 1) = xs.take i ++ [xs[i]] := by rw [List.take_add_one, List.getElem?_eq_getElem hi]; rfl
    have e2 : xs.getD i PySem.Str.empty = xs[i] := by rw [List.getD_eq_getElem?_getD, List.getElem?_eq_getElem hi]; rfl
    rw [unl_succ, e, e2, List.nodup_append]
    by_cases m : xs[i] ∈ xs.take i
    · rw [if_pos m]
      refine ⟨fun q => by omega, fun q => absurd rfl (q.2.2 _ m _ (by simp))⟩
    · rw [if_neg m]
      refine ⟨fun q => ⟨ih.1 (by omega), by simp, fun a ha b hb z => ?_⟩, fun q => by rw [ih.2 q.1]⟩
      rw [List.mem_singleton] at hb
      subst hb z
      exact m ha
theorem unl_nodup {xs : List PySem.Str} : unl xs xs.length = xs.length ↔ xs.Nodup := by
  have := unl_all (xs := xs) xs.length (Nat.le_refl _)
  rwa [List.take_length] at this
end DL
namespace DL
open PySem PySem.Spec PyProof.Rows
section
variable {prog : Program} {w : World} {A : Around} {R : Result → Shared → Prop} {I : Addr} {fp wr : List Addr} {G : Array GenState → Array GenState → Prop} {n : Nat} {P : Nat → Value → Prop} {St : Nat → Shared → Prop}
abbrev SetT (prog : Program) (w : World) (h : Heap) (S : Addr) (xs : List Str) (i : Nat) : Prop := h.SetOf (PySem.strKind prog w) S (fun k => decide (k ∈ xs.take i)) (unl xs i)
theorem SetT.to {h h' : Heap} {S : Addr} {xs : List Str} {i : Nat} (q : SetT prog w h S xs i) (k : ∀ o, h.get? S = some o → h'.get? S = some o) : SetT prog w h' S xs i := by
  obtain ⟨o, es, ep, t, ho, rest⟩ := q
  exact ⟨o, es, ep, t, k o ho, rest⟩
/-- what update does with a list of texts -/
theorem upd_texts (W : WalksS prog w A.in1 I fp wr G n P St) (S : Addr) (hSf : S ∉ fp) (xs : List Str) (hsz : xs.length = n) (hb : n + 1 < scanBound) (hval : ∀ i v, P i v → ∃ t, v = .str (xs.getD i Str.empty) t) :
    ∀ (k i : Nat) (s : Shared), n - i = k → i ≤ n → St i s → SetT prog w s.heap S xs i →
      (∀ s', Moved (S :: wr) G s s' → SetT prog w s'.heap S xs n → R (.ok (.ret .none)) s') →
      codeAny (model prog w) A (.builtin "set.update.loop" ⟨[.ref S, .ref I], []⟩) R s := by
  have out : S ∉ wr := fun h => hSf (W.sub _ h)
  have more : ∀ b ∈ wr, b ∈ S :: wr := fun b hb => List.mem_cons_of_mem _ hb
  intro k
  induction k with
  | zero =>
    intro i s hk hi hst hS hR
    obtain rfl : i = n := by omega
    refine codeAny_builtin PyProof.Rows.F.entry_set_update_loop ?_
    rw [Around.under_plainId PyProof.Rows.F.plain_set_update_loop _]
    show wpAny _ A.in1 (pyNext (.ref I) >>= _) _ _ s
    exact wpAny_bind (W.done s _ _ hst fun s' hm => wpAny_pure (hR s' (hm.mono more) (hS.to fun o e => hm.heap S _ out e)))
  | succ k ih =>
    intro i s hk hi hst hS hR
    have hlt : i < n := by omega
    refine codeAny_builtin PyProof.Rows.F.entry_set_update_loop ?_
    rw [Around.under_plainId PyProof.Rows.F.plain_set_update_loop _]
    show wpAny _ A.in1 (pyNext (.ref I) >>= _) _ _ s
    refine wpAny_bind (W.item i s _ _ hlt hst fun v s' hP hst' hm => ?_)
    obtain ⟨t, rfl⟩ := hval i v hP
    have hS' : SetT prog w s'.heap S xs i := hS.to fun o e => hm.heap S _ out e
    show wpAny _ A.in1 (holding [Value.str (xs.getD i Str.empty) t] (setAdd S (.str (xs.getD i Str.empty) t)) >>= _) _ _ s'
    refine wpAny_bind (wpAny_holding ?_)
    unfold setAdd
    refine wpAny_holding (wpAny_bind ((PySem.strKind prog w).pyHash (k := xs.getD i Str.empty) (strKind_is _ _ _ _) ?_))
    refine wpAny_setAddHashed_of (knd := PySem.strKind prog w) (s := { s' with toks := s'.toks + 1 }) (strKind_is _ _ _ _) rfl hS' (by have := unl_le xs i; omega) fun h' hsb hS2 => ?_
    have hnext : SetT prog w h' S xs (i + 1) := by
      have hi2 : i < xs.length := by omega
      have e : xs.take (i + 1) = xs.take i ++ [xs.getD i Str.empty] := by rw [List.take_add_one, List.getElem?_eq_getElem hi2, List.getD_eq_getElem?_getD, List.getElem?_eq_getElem hi2]; rfl
      refine SetOf_congr hS2 (fun k' => ?_) (by rw [unl_succ]; by_cases m : xs.getD i Str.empty ∈ xs.take i <;> simp only [m, decide_true, decide_false, if_true, if_false, Bool.false_eq_true])
      rw [e]
      by_cases m1 : k' ∈ xs.take i <;> by_cases m2 : k' = xs.getD i Str.empty <;> simp [m1, m2]
    refine wpAny_pure ⟨plainId_quiet PyProof.Rows.F.plain_set_update_loop _, ih (i + 1) _ (by omega) hlt (W.frame _ s' _ _ hst' (Nat.le_succ _) fun b hb o e => (hsb.2 b (fun h : b = S => hSf (by rw [← h]; exact hb))).trans e) hnext fun s'' hm'' hS'' => ?_⟩
    exact hR s'' (Moved.trans W.gtrans ((hm.mono more).then_heap (Nat.le_succ _) fun b o hb e => (hsb.2 b (fun h : b = S => hb (by rw [h]; exact List.mem_cons_self))).trans e) hm'') hS''
end
section
variable {prog : Program} {w : World} {A : Around} {E : Value → Shared → Prop} {s : Shared}
set_option maxHeartbeats 3200000 in
/-- set(xs), of a list of texts -/
theorem call_set_texts {l : Addr} {items : Array Value} {xs : List Str} {Q : Value → Shared → Prop} (hh : A.handled = none) (hl : s.heap.IsList l items) (hi : PyProof.Rows.StrsAre items.toList xs) (hb : xs.length + 1 < scanBound)
    (h : ∀ (h' : Heap) (tk : Nat), SetT prog w h' s.heap.objs.size xs xs.length → (∀ b o, b < s.heap.objs.size → s.heap.get? b = some o → h'.get? b = some o) → Q (.ref s.heap.objs.size) { s with heap := h', toks := tk }) :
    wpAny (model prog w) A (call (.type "set") [.ref l]) Q E s := by
  have hsz : xs.length = items.size := by rw [← StrsAre.len_eq hi, Array.length_toList]
  obtain ⟨c, tl, hmro⟩ := PySem.F.called_set.mro
  have hmade := PySem.F.called_set.made
  have hsub := PySem.F.called_set.sub
  refine wpAny_call (codeAny_of_tree ?_)
  show wpAny _ _ (callAny (.type "set") _) _ _ _
  refine wpAny_pure ⟨Code.quiet_builtin _ (by decide +kernel), codeAny_builtin PySem.F.entry_type_call ?_⟩
  rw [Around.under_plain (weight_type_call_type "set" [.ref l] []) rfl]
  have h1 := PySem.F.called_set.notType
  have h2 := PySem.F.called_set.canCreate
  have hct := PySem.F.typeCall_set_1 (.ref l)
  repeat (any_goals (first | assumption | wp_step))
  refine codeAny_mono (code_set_new_1 (.ref l) (E := E) (Q₁ := fun obj s₁ => ∃ led : Bool, obj = .ref s.heap.objs.size ∧ s₁ = { s with heap := s.heap.push { cls := .type "set", dict := none, data := .set #[] 0 (.fresh 0 0 led) } }) fun led => ⟨led, rfl, rfl⟩) fun r s₁ hr => ?_
  cases r with
  | error e => exact hr
  | ok fl =>
    cases fl with
    | ret obj =>
      obtain ⟨led, rfl, rfl⟩ := hr
      have hS : (s.heap.push { cls := .type "set", dict := none, data := .set #[] 0 (.fresh 0 0 led) }).get? s.heap.objs.size = some { cls := .type "set", dict := none, data := .set #[] 0 (.fresh 0 0 led) } := Heap.get?_push_size _ rfl
      have hT : Shared.TypeIs { s with heap := s.heap.push { cls := .type "set", dict := none, data := .set #[] 0 (.fresh 0 0 led) } } (.ref s.heap.objs.size) "set" := ⟨_, hS, rfl⟩
      have hli := PySem.F.called_set.init.lookup
      have hbi := PySem.F.called_set.init.bind (.ref s.heap.objs.size)
      repeat (any_goals (first | assumption | wp_step))
      refine codeAny_mono (codeAny_call_builtin (R := wants (fun r s₂ => r = .none ∧ ∃ h' tk, s₂ = { s with heap := h', toks := tk } ∧ SetT prog w h' s.heap.objs.size xs xs.length ∧ (∀ b o, b < s.heap.objs.size → s.heap.get? b = some o → h'.get? b = some o)) E) PySem.F.called_set.init.plain PySem.F.entry_set_init (check_set_init_1 hT ?_)) fun r₂ s₂ hr₂ => ?_
      · obtain ⟨⟨ocls, odict, odata, oslots⟩, hol, hcl, nl, hdl⟩ := hl
        simp only at hcl hdl
        subst hcl; subst hdl
        have hol' : (s.heap.push { cls := .type "set", dict := none, data := .set #[] 0 (.fresh 0 0 led) }).get? l = some { cls := .type "list", dict := odict, data := .seq items nl, slots := oslots } := Heap.get?_push_of_some _ hol
        have hsls := PySem.F.sub_list_set
        have hslf := PySem.F.sub_list_frozenset
        have hne : (Value.type "list" == Value.type "dict") = false := by decide
        have hl1 : (s.heap.push { cls := .type "set", dict := none, data := .set #[] 0 (.fresh 0 0 led) }).IsList l items := ⟨_, hol', rfl, nl, rfl⟩
        unfold Builtin.«set.__init__» noKeywords Builtin.Frozenset.updateFrom
        generalize hPI : pyIter = PI
        wp_walk
        subst hPI
        refine wpAny_pyIter_list hl1 (wpAny_bind (wpAny_runValue ?_))
        have hlS : l < s.heap.objs.size := Heap.lt_size hol
        have hneI : l ≠ (s.heap.push { cls := .type "set", dict := none, data := .set #[] 0 (.fresh 0 0 led) }).objs.size := by
          rw [Heap.size_push]; exact Nat.ne_of_lt (Nat.lt_succ_of_lt hlS)
        have hSf : s.heap.objs.size ∉ [(s.heap.push { cls := .type "set", dict := none, data := .set #[] 0 (.fresh 0 0 led) }).objs.size, l] := by
          rw [Heap.size_push]; simp only [List.mem_cons, List.not_mem_nil, or_false, not_or]
          exact ⟨Nat.ne_of_lt (Nat.lt_succ_self _), Nat.ne_of_gt hlS⟩
        refine upd_texts ((Walks.list (by simp [hh]) _ l hneI items).toS) s.heap.objs.size hSf xs hsz (by rw [← hsz]; exact hb) (fun i v hv => SS.strs_at hi i v (by rw [Array.getElem?_toList]; exact hv)) (items.size - 0) 0 _ (by omega) (Nat.zero_le _)
          ⟨⟨_, Heap.get?_push_size _ rfl, rfl, rfl⟩, (hl1.push _)⟩ ?hS0 ?hR
        case hS0 =>
          exact PyProof.Rows.SetOf_congr ((PyProof.Rows.setObjOf_fresh (knd := PySem.strKind prog w) led).setOf (Heap.get?_push_of_some _ hS) (by unfold scanBound; omega)) (fun _ => by simp) rfl
        case hR =>
          rintro ⟨h', g', d', tk', os'⟩ hm hS'
          obtain rfl : g' = s.gens := hm.gens
          obtain rfl : d' = s.drawn := hm.drawn
          obtain rfl : os' = s.os := hm.os
          show wpAny _ _ _ _ _ _
          refine wpAny_pure ?_
          show wpAny _ _ (ret Value.none) _ _ _
          refine wpAny_pure ⟨rfl, h', tk', rfl, by rw [hsz]; exact hS', fun b o hb e => hm.heap b o ?_ (Heap.get?_push_of_some _ (Heap.get?_push_of_some _ e))⟩
          simp only [List.mem_cons, List.not_mem_nil, or_false, not_or]
          exact ⟨Nat.ne_of_lt hb, by rw [Heap.size_push]; exact Nat.ne_of_lt (Nat.lt_succ_of_lt hb)⟩
      · cases r₂ with
        | error e => exact hr₂
        | ok fl₂ =>
          cases fl₂ with
          | ret r =>
            obtain ⟨rfl, h', tk, rfl, hS', hk'⟩ := hr₂
            repeat (any_goals (first | assumption | wp_step))
            exact h _ _ hS' hk'
          | _ => exact hr₂.elim
    | _ => exact hr.elim
end
end DL
namespace DL
open PySem PySem.Spec PyProof.Rows L2
section
variable {X : Cx}
def tLenSetT (K : PySem.W.Frag) (ta : TE) : TE := fun σ H Q => ta σ H fun x H1 => ∃ l, ∃ xs : List Str, x = .ref l ∧ SqL K H1 l (xs.map V.str) ∧ xs.length ≤ 1000 ∧ Q (.int (unl xs xs.length : Nat)) H1
theorem pe_lenSetT {a : Expr} {ta : TE} {p p2 q pos : Pos} (hc : X.calm = true) (hg : Gl X "len") (hm : X.mg "len" = none) (hg2 : Gl X "set") (hm2 : X.mg "set" = none) (ha : PE X a ta)
    (na : starEach [a] X.env = (false, eval a X.env) :: starEach [] X.env := by rfl) : PE X (.Call (.Name "len" p) [.Call (.Name "set" p2) [a] [] q] [] pos) (tLenSetT X.K ta) := by
  refine ⟨fun pins s σ H Q I h => ?_⟩
  refine Call_ (ld_blt I hg hm boot_len ?_)
  refine PyProof.Rows.callWith_builtin1 (PyProof.Rows.args_cons ?_ rfl) rfl rfl
  refine Call_ (ld_blt I hg2 hm2 boot_set ?_)
  refine PyProof.Rows.callWith_type1 (PyProof.Rows.args_cons (thn (ha.run pins s σ H _ I h) fun v s1 ⟨x, H1, I1, r1, q1⟩ => PyProof.Rows.args_nil ?_) na) na rfl
  obtain ⟨l, xs, rfl, hq, h1, q1⟩ := q1
  cases r1
  obtain ⟨its, r, pl, hz⟩ := I1.list hq
  refine call_set_texts (I1.ok.hd hc) pl.isList (by simpa using strsAre_of r) (by unfold scanBound; omega) fun h' tk hS hk => PyProof.Rows.args_nil ?_
  have hu := unl_le xs xs.length
  obtain ⟨o, es, ep, t, ho, hex, hd, _, _, _, hf, hn⟩ := hS
  have I2 : Inv X pins σ H1 { s1 with heap := h', toks := tk } := I1.kept fun b o e => hk b o (Heap.lt_size e) e
  exact call_len_set ho hex hd hf (by rw [hn]; omega) ⟨.int (unl xs xs.length : Nat), H1, I2.tok _, ⟨_, by rw [hn]⟩, q1⟩
variable {a : Ax} {W : WX} {e : Expr} {p p2 q pos : Pos}
def lenSetF (d : PyData) : Res Slot := match d with
  | .list ds => match strsOf ds with
    | some ys => if ys.length ≤ 1000 then okI (unl ys ys.length : Nat) else .stuck
    | none => .stuck
  | _ => .stuck
theorem de_lenSet {m : MD} (hc : X.calm = true) (hg : Gl X "len") (hm : X.mg "len" = none) (hg2 : Gl X "set") (hm2 : X.mg "set" = none) (h : DR X a W e m)
    (na : starEach [e] X.env = (false, eval e X.env) :: starEach [] X.env := by rfl) : DE X a W (.Call (.Name "len" p) [.Call (.Name "set" p2) [e] [] q] [] pos) (mU lenSetF m) := by
  obtain ⟨t, pt, s⟩ := h
  refine ⟨_, pe_lenSetT hc hg hm hg2 hm2 pt na, ?_⟩
  refine snd_bind (rel1 := relD X.kw) (rel2 := relE X.kw) downE s (t2 := fun x _ H1 Q => ∃ l, ∃ xs : List Str, x = .ref l ∧ SqL X.K H1 l (xs.map V.str) ∧ xs.length ≤ 1000 ∧ Q (.int (unl xs xs.length : Nat)) H1) (m2 := fun d _ => lenSetF d) ?_
  intro d x B G0 G H σ δ H0 S rd Q hq
  unfold lenSetF at hq
  split at hq
  · split at hq
    · rename_i ys hy
      split at hq
      · rename_i hz
        obtain ⟨b, xs, e1, q1, r1⟩ := rdr_list S.gh rd
        subst e1
        rw [strsOf_eq hy] at r1
        rw [repL_strs_eq r1] at q1
        exact ⟨b, ys, rfl, q1, hz, hq _ G H (Stp.refl S.gh) (Rep.int _)⟩
      · exact hq.elim
    · exact hq.elim
  · exact hq.elim
theorem lenSetF_map {ys : List Str} (h : ys.length ≤ 1000) : lenSetF (.list (ys.map PyData.str)) = .ok (.val (.int (unl ys ys.length : Nat))) := by
  unfold lenSetF
  simp only [strsOf_map]
  rw [if_pos h]
  rfl
end
end DL
/-! DLx: min of two, a text or a list so many times -/
namespace DL
open PySem L2
section
variable {X : Cx} {a : Ax} {W : WX} {e e1 e2 : Expr} {pos p : Pos}
def min2F : List PyData → Res Slot
  | [.int i, .int j] => okI (if j < i then j else i)
  | _ => .stuck
theorem min2F_ok {K : Kw} : CallS K (fun xs H Q => ∃ i j, xs = [.int i, .int j] ∧ Q (.int (if j < i then j else i)) H) min2F := by
  refine ⟨fun G H vs ds s Q g rd ef q => ?_, fun ds x => ?_⟩
  · unfold min2F at ef
    split at ef
    · cases ef
      cases rd with
      | cons r1 r =>
        cases r with
        | cons r2 r =>
          cases r
          cases rdr_int r1
          cases rdr_int r2
          exact ⟨_, _, rfl, q _ G H (Stp.refl g) (Rep.int _)⟩
    · cases ef
  · unfold min2F
    split <;> (intro h; cases h)
@[simp] theorem min2F_int {i j : Int} : min2F [.int i, .int j] = .ok (.val (.int (if j < i then j else i))) := (rfl)
/-- a text k times -/
def rMulS : R2 := fun x y H Q => ∃ z k, x = .str z ∧ y = .int k ∧ 1 ≤ k ∧ k ≤ 100 ∧ z.length ≤ 10000 ∧ Q (.str (Txt.mul z k)) H
theorem op_mulS : OpR X (binaryOp .Mult) rMulS := by
  intro pins s σ H x y v u Q I rx ry h
  obtain ⟨z, k, rfl, rfl, h1, h2, hz, q⟩ := h
  obtain ⟨t, rfl⟩ := rx
  obtain ⟨t2, rfl⟩ := ry
  refine SB.mul (n := k) ⟨?_, fun _ _ => ?_, fun _ _ => ?_⟩ fun t' tk => ⟨.str (Txt.mul z k), H, I.tok _, ⟨t', rfl⟩, q⟩
  · rw [Bool.or_eq_false_iff]
    exact ⟨decide_eq_false (by omega), decide_eq_false (by omega)⟩
  · intro w
    have : (2 ^ 63 - 1) / 100 ≤ (2 ^ 63 - 1) / k := by
      refine (Int.le_ediv_iff_mul_le (by omega)).mpr ?_
      have : ((2 ^ 63 - 1) / 100 : Int) * k ≤ ((2 ^ 63 - 1) / 100) * 100 := Int.mul_le_mul_of_nonneg_left h2 (by decide)
      exact Int.le_trans this (by decide)
    have : (10000 : Int) ≤ (2 ^ 63 - 1) / 100 := by decide
    omega
  · have : z.length * k.toNat ≤ 10000 * 100 := Nat.mul_le_mul hz (by omega)
    have h3 : (1000000 : Nat) ≤ sizeLine := by decide
    exact decide_eq_false (by omega)
def mulG : PyData → PyData → Res Slot
  | .str z, .int k => if 1 ≤ k ∧ k ≤ 100 ∧ z.length ≤ 10000 then okV (.str (Txt.mul z k)) else .stuck
  | x, y => mulF x y
def rMulG : R2 := fun x y H Q => rMulS x y H Q ∨ rI IntMulOk (fun i j => .int (i * j)) x y H Q
theorem op_mulG : OpR X (binaryOp .Mult) rMulG := op_mulS.or op_mulA
theorem mulG_ok {K : Kw} : OpS K rMulG mulG := by
  intro G H x y d e s Q g rx ry ef q
  unfold mulG at ef
  split at ef
  · split at ef
    · rename_i hz
      cases ef
      cases rdr_str rx; cases rdr_int ry
      exact .inl ⟨_, _, rfl, rfl, hz.1, hz.2.1, hz.2.2, q _ G H (Stp.refl g) (Rep.str _)⟩
    · cases ef
  · exact .inr (mulF_ok G H x y d e s Q g rx ry ef q)
theorem mulG_ne : NoExc mulG := fun d e x => by
  unfold mulG
  split
  · split <;> (intro h; cases h)
  · exact mulF_ne d e x
theorem mulG_str {z : Str} {k : Int} (h1 : 1 ≤ k) (h2 : k ≤ 100) (hz : z.length ≤ 10000) : mulG (.str z) (.int k) = .ok (.val (.str (Txt.mul z k))) := if_pos ⟨h1, h2, hz⟩
/-- a new list k times -/
def mRep (m : ME) (n : MD) : ME := fun δ => (m δ).bind fun s => match s with
  | .own (.list ds) => (n δ).bind fun e => match e with
    | .int k => if 0 ≤ k ∧ k ≤ 1000 ∧ ds.length ≤ 1000 then .ok (.own (.list (List.replicate k.toNat ds).flatten)) else .stuck
    | _ => .stuck
  | _ => .stuck
theorem repL_app {K : Kw} {G : Hp} : ∀ {vs us : List V} {ds es : List PyData}, RepL K G vs ds → RepL K G us es → RepL K G (vs ++ us) (ds ++ es)
  | _, _, _, _, .nil, r => r
  | _, _, _, _, .cons h t, r => .cons h (repL_app t r)
theorem repL_rep {K : Kw} {G : Hp} {vs : List V} {ds : List PyData} (r : RepL K G vs ds) : ∀ n, RepL K G (List.replicate n vs).flatten (List.replicate n ds).flatten
  | 0 => .nil
  | n + 1 => by
    rw [List.replicate_succ, List.replicate_succ, List.flatten_cons, List.flatten_cons]
    exact repL_app r (repL_rep r n)
theorem de_rep {m : ME} {n : MD} (h : DE X a W e1 m) (k : DR X a W e2 n) : DE X a W (.BinOp e1 .Mult e2 pos) (mRep m n) := by
  obtain ⟨t, p, s⟩ := h
  obtain ⟨u, q, z⟩ := k
  refine ⟨_, pe_op op_rep p q, fun B G0 G H σ δ S Q hq => ?_⟩
  refine s B G0 G H σ δ S _ ?_
  have hq' : ROk (cn X a) W σ G H (relE X.kw H) ((m δ).bind fun s => match s with
    | .own (.list ds) => (n δ).bind fun e => match e with
      | .int k => if 0 ≤ k ∧ k ≤ 1000 ∧ ds.length ≤ 1000 then .ok (.own (.list (List.replicate k.toNat ds).flatten)) else .stuck
      | _ => .stuck
    | _ => .stuck) Q := hq
  generalize m δ = r at hq'
  cases r with
  | stuck => exact hq'.elim
  | exc x => exact hq'
  | ok sl =>
    cases sl with
    | val d => exact hq'.elim
    | bor d => exact hq'.elim
    | tr d => exact hq'.elim
    | bt d => exact hq'.elim
    | exn d => exact hq'.elim
    | own d =>
      cases d with
      | none => exact hq'.elim
      | bool _ => exact hq'.elim
      | int _ => exact hq'.elim
      | str _ => exact hq'.elim
      | tuple _ => exact hq'.elim
      | dict _ => exact hq'.elim
      | list ds =>
        intro v G1 H1 st1 ⟨ad, ev, na, n0, tp⟩
        subst ev
        refine z B G0 G1 H1 σ δ (S.step st1) _ ?_
        have hq2 : ROk (cn X a) W σ G H (relE X.kw H) ((n δ).bind fun e => match e with
          | .int k => if 0 ≤ k ∧ k ≤ 1000 ∧ ds.length ≤ 1000 then .ok (.own (.list (List.replicate k.toNat ds).flatten)) else .stuck
          | _ => .stuck) Q := hq'
        generalize n δ = rn at hq2
        cases rn with
        | stuck => exact hq2.elim
        | exc x => exact fun cls d G3 H3 s3 r => hq2 cls d G3 H3 (st1.trans s3) r
        | ok d =>
          intro y G2 H2 st2 ry
          cases d with
          | none => exact (show False from hq2).elim
          | bool _ => exact (show False from hq2).elim
          | str _ => exact (show False from hq2).elim
          | list _ => exact (show False from hq2).elim
          | tuple _ => exact (show False from hq2).elim
          | dict _ => exact (show False from hq2).elim
          | int k =>
            have hq3 : ROk (cn X a) W σ G H (relE X.kw H) (if 0 ≤ k ∧ k ≤ 1000 ∧ ds.length ≤ 1000 then .ok (.own (.list (List.replicate k.toNat ds).flatten)) else .stuck) Q := hq2
            split at hq3
            · rename_i hz
              cases rdr_int ry
              obtain ⟨vs, hvs, rv⟩ := (tp.mono st2.g st2.h : Top X.kw G2 H2 ad (.list ds))
              have hlen : vs.length ≤ 1000 := by rw [rv.length]; exact hz.2.2
              refine ⟨ad, k, vs, rfl, rfl, hvs, by omega, by omega, ?_, fun p hp => ?_⟩
              · have : vs.length * k.toNat ≤ 1000 * 1000 := Nat.mul_le_mul hlen (by omega)
                exact Nat.le_trans this (by decide)
              · exact new_list st2.gh (repL_rep rv k.toNat) (fun v G3 H3 s3 r3 => hq3 v G3 H3 ((st1.trans st2).trans s3) (r3.mono0 ((st1.trans st2).h))) p hp
            · exact hq3.elim
@[simp] theorem mRep_ap {m : ME} {n : MD} {δ : DEnv} : mRep m n δ = (m δ).bind fun s => match s with
  | .own (.list ds) => (n δ).bind fun e => match e with
    | .int k => if 0 ≤ k ∧ k ≤ 1000 ∧ ds.length ≤ 1000 then .ok (.own (.list (List.replicate k.toNat ds).flatten)) else .stuck
    | _ => .stuck
  | _ => .stuck := (rfl)
end
end DL
namespace DL
open PySem L2
section
variable {X : Cx}
/-- lists of unlike lengths are unlike, whatever is in them -/
def rNeLen (K : PySem.W.Frag) : R2 := fun x y H Q => ∃ a b xs ys, x = .ref a ∧ y = .ref b ∧ SqL K H a xs ∧ SqL K H b ys ∧ xs.length ≠ ys.length ∧ Q (.bl true) H
theorem op_neLen {k : Nat} (hr : Room k X.A) : OpR X (compareOp .NotEq) (rNeLen X.K) := by
  intro pins s σ H x y v u Q I rx ry h
  obtain ⟨a, b, xs, ys, rfl, rfl, qa, qb, hl, q⟩ := h
  cases rx
  cases ry
  obtain ⟨its, r, pl, _⟩ := I.list qa
  obtain ⟨its2, r2, pl2, _⟩ := I.list qb
  refine SeqAt.RcNeAt.lists_lengths pl.isList pl2.isList (bne_iff_ne.mpr ?_) (by have := hr.units; omega) _ _ _ _ ⟨.bl true, H, I, rfl, q⟩
  rw [List.size_toArray, List.size_toArray, ← r.length, ← r2.length]
  exact hl
def rNeG (K : Kw) : R2 := fun x y H Q => rNeLen K.K x y H Q ∨ rNeD K.K x y H Q
theorem op_neG {k : Nat} (hr : Room k X.A) : OpR X (compareOp .NotEq) (rNeG X.kw) := (op_neLen hr).or (op_neD hr.units)
def neG (d e : PyData) : Res Slot := match d, e with
  | .list ds, .list es => if ds.length ≠ es.length then okB true else neF (.list ds) (.list es)
  | d, e => neF d e
theorem neG_ok {K : Kw} : OpS K (rNeG K) neG := by
  intro G H x y d e s Q g rx ry ef q
  unfold neG at ef
  split at ef
  · split at ef
    · rename_i hl
      cases ef
      obtain ⟨a, xs, e1, q1, r1⟩ := rdr_list g rx
      obtain ⟨b, ys, e2, q2, r2⟩ := rdr_list g ry
      exact .inl ⟨a, b, xs, ys, e1, e2, q1, q2, by rw [r1.length, r2.length]; exact hl, q _ G H (Stp.refl g) (Rep.bl _)⟩
    · exact .inr (neF_ok G H x y _ _ s Q g rx ry ef q)
  · exact .inr (neF_ok G H x y d e s Q g rx ry ef q)
theorem neG_ne : NoExc neG := fun d e x => by
  unfold neG
  split
  · split
    · intro h; cases h
    · exact neF_ne _ _ x
  · exact neF_ne d e x
theorem neG_nil {ds : List PyData} : neG (.list ds) (.list []) = .ok (.val (.bool (!ds.isEmpty))) := by
  cases ds with
  | nil =>
    have sn : SeqAt.shaped (.list []) = true := by simp [SeqAt.shaped, PyData.canLay0, PyData.canLayAll0, PyData.depth, PyData.depthAll]
    show neF (.list []) (.list []) = _
    rw [neF_self sn]
    rfl
  | cons x xs => rfl
end
end DL
/-! DLy: setdefault -/
namespace DL
open PySem L2
section
variable {X : Cx} {pins : List (Addr × Obj)} {σ : St} {H G : Hp} {s : Shared} {a : Addr} {ds : List (PyData × PyData)} {kd : PyData} {y : V} {u : Value} {A : Around} {E : Value → Shared → Prop}
theorem dd_setd {v : V} {d : PyData} {r : Value} {Q : Value → Shared → Prop} (hu : A.units + 9 < cLine) (I : Inv X pins σ H s) (g : Same G H) (t : Top X.kw G H a (.dict ds)) (hz : ds.length < sizeLine) (ok : okKey kd = true) (kk : kindOk ds kd = true) (ry : Rep X.kw G y kd) (ru : RelV y u) (rv : Rep X.kw G v d) (rr : RelV v r)
    (h1 : ∀ v' e w' s', dget ds kd = some e → Rep X.kw G v' e → Inv X pins σ H s' → RelV v' w' → Q w' s')
    (h2 : ∀ ob s', dget ds kd = none → Inv X pins σ (upd H a ob) s' → Top X.kw G (upd H a ob) a (.dict (dput ds kd d)) → Q r s') : wpAny (model X.prog X.w) A (call (.builtin "dict.setdefault") [.ref a, u, r]) Q E s := by
  refine dd_ask I g t.dv ok kk ry ru (fun j l vs ek ey rk kv dd hd rel => ?_) fun k b l xs ek ey eu is rn px dd hd rel => ?_
  · subst ey
    have hl0 : l.length = ds.length := rk.length
    have hz' : vs.length ≤ sizeLine := by rw [← kv.length, hl0]; omega
    have hl : (L2.putK l j v).length ≤ sizeLine := by have := length_putK l j v; omega
    have hkn : kN kd = kK j := by rw [ek]; exact kN_keyD j
    refine call_meetsIn PySem.F.slot_dict_setdefault dd.typeIs PySem.F.entry_dict_setdefault (PySem.F.args_dict_setdefault_3 _ _ _) (kt_meets_setdefault (mixKind X.prog X.w) a (kV_is ru) hd r) ⟨vs, dd, hz', fun w hw => ?_, fun hn h' dd' hs => ?_⟩
    · rw [hw] at rel
      rcases rk.val j with ⟨e1, e2⟩ | ⟨d', v', e1, e2, e3⟩
      · rw [e2] at rel; exact rel.elim
      · rw [e2] at rel
        exact h1 v' d' _ _ (by show dgetN ds (kN kd) = _; rw [hkn]; exact e1) e3 (I.tok _) rel
    · rw [hn] at rel
      rcases rk.val j with ⟨e1, e2⟩ | ⟨d', v', e1, e2, e3⟩
      · have he : ∃ q, h'.get? a = some q := let ⟨q, _, _, hq, _⟩ := dd'; ⟨q, hq⟩
        refine h2 (.dK (L2.putK l j v)) _ (by show dgetN ds (kN kd) = _; rw [hkn]; exact e1) (d_write I t.mut hs he (dk_new hl hd (kv.put j rr) dd')) ?_
        rw [ek]
        exact .inl ⟨_, upd_same, rk.putK rv⟩
      · rw [e2] at rel; exact rel.elim
  · subst eu
    have hl0 : l.length = ds.length := rn.length
    have hxs : l.length = xs.length := Paired.length px
    have hkd : kd = k.data := by
      rcases ok_kind ok with ⟨⟨j, rfl⟩, _⟩ | ⟨ks, e1, e2, _⟩
      · subst ey
        have := rep_keyD ry
        cases j <;> cases this
      · rw [e2] at ek; rw [e1, ← ek]
    refine call_setdefault_heap (hsz := by omega) (show A.in1.units + 8 < cLine from by show A.units + 1 + 8 < cLine; omega) is hd dd (fun p hp => ?_) fun hn h' dd' hs => ?_
    · rw [hp] at rel
      rcases rn.val k with ⟨e1, e2⟩ | ⟨d', v', e1, e2, e3⟩
      · rw [e2] at rel; exact rel.elim
      · rw [e2] at rel
        exact h1 v' d' _ _ (by show dgetN ds (kN kd) = _; rw [ek]; exact e1) e3 (I.tok _) rel
    · rw [hn] at rel
      rcases rn.val k with ⟨e1, e2⟩ | ⟨d', v', e1, e2, e3⟩
      · have he : ∃ q, h'.get? a = some q := let ⟨q, _, _, hq, _⟩ := dd'; ⟨q, hq⟩
        refine h2 (dnO X.w a (lput l k b v)) _ (by show dgetN ds (kN kd) = _; rw [ek]; exact e1) (d_write I t.mut hs he (dn_new hd (px.put k b rr) dd')) ?_
        exact .inr ⟨_, upd_same, by have := lput_length l k b v; omega, rn.putN hkd (ey ▸ ry) rv⟩
      · rw [e2] at rel; exact rel.elim
end
section
variable {X : Cx} {a : Ax} {W : WX} {e1 e2 : Expr} {pos p1 apos : Pos}
def rSetd (K : Kw) : V → List V → Hp → VK → Prop := fun x xs H Q => ∃ G a ds y z kd d, x = .ref a ∧ xs = [y, z] ∧ Same G H ∧ Top K G H a (.dict ds) ∧ ds.length < sizeLine ∧ Rep K G y kd ∧ okKey kd = true ∧ kindOk ds kd = true ∧ Rep K G z d ∧
  (∀ v e, dget ds kd = some e → Rep K G v e → Q v H) ∧ (dget ds kd = none → ∀ ob, Top K G (upd H a ob) a (.dict (dput ds kd d)) → Q z (upd H a ob))
theorem mt_setD {k : Nat} (hr : Room k X.A) : MtR X "dict.setdefault" (rSetd X.kw) := by
  intro pins s σ H x xs v us Q I rx rxs h
  obtain ⟨G, b, ds, y, z, kd, d, rfl, rfl, g, t, hz, ry, ok, kk, rz, q1, q2⟩ := h
  cases (show v = Value.ref b from rx)
  obtain ⟨u1, u2, rfl, r1, r2⟩ := vals2 rxs
  exact dd_setd (by have := hr.un; omega) I g t hz ok kk ry r1 rz r2 (fun v' e w' s' hd rp I' rw' => ⟨v', H, I', rw', q1 v' e hd rp⟩) fun ob s' hn I' t' => ⟨z, _, I', r2, q2 hn ob t'⟩
def setdI (i : Nat) (ds : List (PyData × PyData)) (δ : DEnv) (k v : PyData) : MRes := if keyAt ds k = true ∧ ds.length < sizeLine then (match dget ds k with
    | some e => .ok (.val e) δ
    | none => .ok (.val v) (δ.set i (some (.own (.dict (dput ds k v)))))) else .stuck
/-- d.setdefault(k, v) of one's own dict -/
def emSetd (i : Nat) (ml : ML) : MM := fun δ => match δ[i]? with
  | some (some (.own (.dict ds))) => (match ml δ with
    | .ok [k, v] => setdI i ds δ k v
    | .exc x => .exc x δ
    | _ => .stuck)
  | _ => .stuck
theorem kp_setd {i : Nat} {ml : ML} : Kp (emSetd i ml) := fun δ => by
  unfold emSetd
  split
  · rename_i ds ei
    split
    · unfold setdI
      split
      · split
        · exact Keep.refl δ
        · exact Keep.set (by rw [ei]; rfl) rfl
      · exact True.intro
    · exact Keep.refl δ
    · exact True.intro
  · exact True.intro
theorem em_setd {i k : Nat} {x : Str} {ml : ML} (hr : Room k X.A) (h : DA X a W [e1, e2] ml) (hN : X.N[i]? = some x := by rfl) (hvi : Vis X.env.scope x := by first | exact Or.inl rfl | exact Or.inr (Or.inl rfl) | exact Or.inr (Or.inr rfl)) (hd : (x == ("__debug__" : Str)) = false := by decide)
    (hcd : (x == ("__classdict__" : Str)) = false := by decide)
    (hbase : attributeBase (.Name x p1) "setdefault" X.env (eval (.Name x p1) X.env) = eval (.Name x p1) X.env := by rfl)
    (hfew : ((backTo pos (starEach [e1, e2] X.env)).all (fun x => !x.1) && (backToKw pos (keywordEach [] X.env)).all (fun x => x.1.isSome)
      && decide (([e1, e2] : List Expr).length + ([] : List Keyword).length + (if ([] : List Keyword).isEmpty then 0 else 1) < 30)) = true := by rfl)
    (hline : (apos.endLine == pos.line) = true := by rfl) (hs : starEach [e1, e2] X.env = (false, eval e1 X.env) :: starEach [e2] X.env := by rfl) (hplain : (backTo pos (starEach [e2] X.env)).any (·.1) = false := by rfl) :
    EDE X a W (.Call (.Attribute (.Name x p1) "setdefault" apos) [e1, e2] [] pos) (emSetd i ml) := by
  obtain ⟨t, p, s⟩ := h
  refine ⟨_, pe_bmD F.plainAttrs_dict F.slot_dict_setdefault F.type_dict_setdefault (mt_setD hr) (pe_var (i := i) hN hvi hd hcd) p hbase hfew hline hs hplain, fun B G0 G H σ δ S Q hq => ?_, kp_setd⟩
  unfold emSetd at hq
  split at hq
  · rename_i ds ei
    obtain ⟨o, fp, eo, ⟨b, rfl, ef, t0⟩, _⟩ := S.sl ei
    refine ⟨.ref b, eo, ⟨G, b, ds, rfl, S.gh, t0.dv⟩, ?_⟩
    refine s B G0 G H σ δ S _ ?_
    cases rm : ml δ with
    | stuck => rw [rm] at hq; exact hq.elim
    | exc x => rw [rm] at hq; exact fun cls d G' H' st ex => hq cls d G' H' (S.step st) ex
    | ok l =>
      rw [rm] at hq
      intro vs G2 H2 st rl
      match l, hq, rl with
      | [kd, vd], hq, rl =>
        cases rl with
        | cons r1 rl =>
          cases rl with
          | cons r2 rl =>
            cases rl
            have S2 := S.step st
            obtain ⟨o2, fp2, eo2, ⟨b2, e2, ef2, t2⟩, _⟩ := S2.sl ei
            subst e2
            rw [eo] at eo2
            cases eo2
            have hq' : MOk (cn X a) W B G0 σ G (setdI i ds δ kd vd) Q := hq
            unfold setdI at hq'
            split at hq'
            · rename_i hz
              have hk := keyAt_ok hz.1
              refine ⟨G2, b, ds, _, _, kd, vd, rfl, rfl, st.gh, t2, hz.2, r1, hk.1, hk.2, r2, fun v e he rp => ?_, fun hn ob t' => ?_⟩
              · rw [he] at hq'
                exact hq' v G2 H2 (ret_new S2 (Stp.refl st.gh) (s := .val e) rp (.inl ⟨_, rfl⟩)) st.g
              · rw [hn] at hq'
                exact hq' _ G2 _ (ret_new (S2.write ei eo t') (Stp.refl (S2.write ei eo t').gh) (s := .val vd) r2 (.inl ⟨_, rfl⟩)) st.g
            · exact hq'.elim
      | [], hq, _ => exact (show False from hq).elim
      | [_], hq, _ => exact (show False from hq).elim
      | _ :: _ :: _ :: _, hq, _ => exact (show False from hq).elim
  · exact hq.elim
@[simp] theorem emSetd_ap {i : Nat} {ml : ML} {δ : DEnv} : emSetd i ml δ = (match δ[i]? with
  | some (some (.own (.dict ds))) => (match ml δ with
    | .ok [k, v] => setdI i ds δ k v
    | .exc x => .exc x δ
    | _ => .stuck)
  | _ => .stuck) := (rfl)
@[simp] theorem setdI_ap {i : Nat} {ds : List (PyData × PyData)} {δ : DEnv} {k v : PyData} : setdI i ds δ k v = if keyAt ds k = true ∧ ds.length < sizeLine then (match dget ds k with
    | some e => .ok (.val e) δ
    | none => .ok (.val v) (δ.set i (some (.own (.dict (dput ds k v)))))) else .stuck := (rfl)
end
end DL
/-! DLz: a list walked backwards; dicts compared -/
namespace DL
open PySem L2
section
variable {X : Cx} {a : Ax} {W : WX} {e : Expr} {pos p : Pos}
def miRev (m : MD) : ML := fun δ => (m δ).bind fun d => match d with
  | .list ds => .ok ds.reverse
  | _ => .stuck
theorem gives_rev {C : Cn} {B G : Hp} {p : Addr} {xs : List V} {ds : List PyData} (h : SqL C.K G p xs) (r : RepL C.K G xs ds) : Gives C B (Itv C.K p xs.length) G ds.reverse := by
  intro i G1 H1 g s _
  have q : SqL C.K H1 p xs := sqL_mono (g.trans s) h
  have hl := r.length
  refine ⟨fun d e => ?_, fun h1 h2 => by
    show xs.length ≤ i
    rw [hl]; simpa using h1⟩
  have hi : i < ds.length := by
    have := (List.getElem?_eq_some_iff.mp e).1
    simpa using this
  rw [List.getElem?_reverse hi, ← hl] at e
  obtain ⟨v, ev, rv⟩ := r.get e
  refine ⟨⟨by omega, xs, v, q, ev⟩, fun x H' y => ?_⟩
  obtain ⟨e1, y⟩ := y
  subst e1
  have e2 := y xs q
  rw [ev] at e2; cases e2
  exact ⟨G1, Stp.refl s, rv.mono g⟩
theorem di_rev {tg : Expr} {m : MD} (hg : Gl X "reversed") (hm : X.mg "reversed" = none) (h : DV X a W e m) (hs : starEach [e] X.env = [(false, eval e X.env)] := by rfl) : DI X a W tg (.Call (.Name "reversed" p) [e] [] pos) (miRev m) := by
  obtain ⟨t, pt, s⟩ := h
  refine ⟨_, pi_reversed hg hm (pa_cons pt pa_nil hs) hs, fun B G0 G H σ δ S R q => ?_⟩
  refine s B G0 G H σ δ S _ ?_
  have q' : ROk (cn X a) W σ G H (fun G' _ ds J => Gives (cn X a) B J G' ds) ((m δ).bind fun d => match d with
    | .list ds => .ok ds.reverse
    | _ => .stuck) R := q
  generalize m δ = r at q'
  cases r with
  | stuck => exact q'.elim
  | exc x => exact q'
  | ok d =>
    intro v G' H' st rp
    cases rp with
    | lst h r => exact ⟨_, _, rfl, sqL_mono st.gh h, q' _ G' H' st (gives_rev (C := cn X a) h r)⟩
    | tup _ _ => exact (show False from q').elim
    | dk _ _ => exact (show False from q').elim
    | dn _ _ _ => exact (show False from q').elim
    | non => exact (show False from q').elim
    | bl _ => exact (show False from q').elim
    | int _ => exact (show False from q').elim
    | str _ => exact (show False from q').elim
@[simp] theorem miRev_ap {m : MD} {δ : DEnv} : miRev m δ = (m δ).bind fun d => match d with
  | .list ds => .ok ds.reverse
  | _ => .stuck := (rfl)
end
/-! dicts of flat keys -/
def dictCan (ds : List (PyData × PyData)) : Bool := ds.all fun p => !isTup p.1 && SeqAt.shaped p.2
def dictHas (es : List (PyData × PyData)) (p : PyData × PyData) : Bool := match dget es p.1 with
  | some e => PyData.eqv p.2 e
  | none => false
def dictEqB (ds es : List (PyData × PyData)) : Bool := ds.length == es.length && ds.all (dictHas es)
theorem dictCan_at {ds : List (PyData × PyData)} (h : dictCan ds = true) {p : PyData × PyData} (hp : p ∈ ds) : isTup p.1 = false ∧ SeqAt.shaped p.2 = true := by
  have := List.all_eq_true.mp h p hp
  simpa using this
section
variable {X : Cx} {pins : List (Addr × Obj)} {σ : St} {H G : Hp} {s : Shared}
theorem hits_of {A : Around} (hu : A.in1.units + 64 < cLine) (I : Inv X pins σ H s) (g : Same G H) {es : List (PyData × PyData)} {lb : List (Key × V)} {vb : List (Key × Value)} (rb : RepK X.kw G lb es) (kb : KV lb vb) (hb : dictCan es = true) :
    ∀ {l : List (Key × V)} {ds : List (PyData × PyData)} {vs : List (Key × Value)}, RepK X.kw G l ds → KV l vs → dictCan ds = true → PySem.W.KeqHits A.in1 s vb vs (ds.all (dictHas es))
  | _, _, _, .nil, k, _ => by
    cases k
    exact .nil
  | _, _, _, .cons (k := k) (v := v) (d := d) r t, kv, hc => by
    cases kv with
    | @cons _ y _ vs hk ht =>
      obtain ⟨k', u⟩ := y
      obtain ⟨e1, rel⟩ := hk
      simp only at e1 rel
      subst e1
      simp only [dictCan, List.all_cons, Bool.and_eq_true] at hc
      have ih := hits_of hu I g rb kb hb t ht hc.2
      have hkv := kb.val k
      have hdg : dget es (keyD k) = dgetN es (kK k) := by show dgetN es (kN (keyD k)) = _; rw [kN_keyD]
      rw [List.all_cons]
      rcases rb.val k with ⟨q1, q2⟩ | ⟨d', v', q1, q2, q3⟩
      · have hf : dictHas es (keyD k, d) = false := by simp only [dictHas, hdg, q1]
        rw [hf, Bool.false_and]
        rw [q2] at hkv
        refine .miss ?_
        cases hv : valueAt vb k with
        | none => rfl
        | some y => rw [hv] at hkv; exact hkv.elim
      · have hf : dictHas es (keyD k, d) = PyData.eqv d d' := by simp only [dictHas, hdg, q1]
        rw [hf]
        rw [q2] at hkv
        cases hv : valueAt vb k with
        | none => rw [hv] at hkv; exact hkv.elim
        | some y =>
          rw [hv] at hkv
          have sd : SeqAt.shaped d = true := hc.1.2
          have sd' : SeqAt.shaped d' = true := by
            unfold dgetN at q1
            obtain ⟨p, hp, e⟩ := Option.map_eq_some_iff.mp q1
            rw [← e]
            exact (dictCan_at hb (List.mem_of_find?_eq_some hp)).2
          obtain ⟨as, r1⟩ := Dp.reads I d v u (rep_dp g (SeqAt.canLay_of_shaped sd) r) rel
          obtain ⟨bs, r2⟩ := Dp.reads I d' v' y (rep_dp g (SeqAt.canLay_of_shaped sd') q3) hkv
          exact .hit hv (PySem.W.keq_at r1 r2 sd sd' hu) ih
def rCmpDict (K : Kw) (neg : Bool) : R2 := fun x y H Q => ∃ G a b ds es, x = .ref a ∧ y = .ref b ∧ Same G H ∧ DcV K G H a ds ∧ DcV K G H b es ∧ dictCan ds = true ∧ dictCan es = true ∧ Q (.bl (neg != dictEqB ds es)) H
theorem op_eqDict {k : Nat} (hr : Room k X.A) : OpR X (compareOp .Eq) (rCmpDict X.kw false) := by
  intro pins s σ H x y v u Q I rx ry h
  obtain ⟨G, a, b, ds, es, rfl, rfl, g, D, E, hd, he, q⟩ := h
  cases (show v = Value.ref a from rx)
  cases (show u = Value.ref b from ry)
  obtain ⟨l, vs, rk, kv, dd, hs, _⟩ := dv_flat I g D fun p hp => (dictCan_at hd hp).1
  obtain ⟨l2, vs2, rk2, kv2, dd2, hs2, _⟩ := dv_flat I g E fun p hp => (dictCan_at he hp).1
  have hu := hr.units
  refine PySem.W.keq_eq (knd := mixKind X.prog X.w) (r := ds.all (dictHas es)) hs hs2 dd dd2 (by omega) (fun _ => hits_of (by show X.A.units + 1 + 64 < cLine; have := hr.un; omega) I g rk2 kv2 he rk kv hd) ⟨.bl _, H, I, ?_, q⟩
  have e1 : vs.length = ds.length := by rw [← Paired.length kv, rk.length]
  have e2 : vs2.length = es.length := by rw [← Paired.length kv2, rk2.length]
  show _ = _
  rw [e1, e2]
  simp [dictEqB]
theorem op_neDict {k : Nat} (hr : Room k X.A) : OpR X (compareOp .NotEq) (rCmpDict X.kw true) := by
  intro pins s σ H x y v u Q I rx ry h
  obtain ⟨G, a, b, ds, es, rfl, rfl, g, D, E, hd, he, q⟩ := h
  cases (show v = Value.ref a from rx)
  cases (show u = Value.ref b from ry)
  obtain ⟨l, vs, rk, kv, dd, hs, _⟩ := dv_flat I g D fun p hp => (dictCan_at hd hp).1
  obtain ⟨l2, vs2, rk2, kv2, dd2, hs2, _⟩ := dv_flat I g E fun p hp => (dictCan_at he hp).1
  have hu := hr.units
  refine PySem.W.keq_ne (knd := mixKind X.prog X.w) (r := ds.all (dictHas es)) hs hs2 dd dd2 (by omega) (fun _ => hits_of (by show X.A.units + 1 + 64 < cLine; have := hr.un; omega) I g rk2 kv2 he rk kv hd) ⟨.bl _, H, I, ?_, q⟩
  have e1 : vs.length = ds.length := by rw [← Paired.length kv, rk.length]
  have e2 : vs2.length = es.length := by rw [← Paired.length kv2, rk2.length]
  show _ = _
  rw [e1, e2]
  simp [dictEqB]
end
def cmpD (neg : Bool) (d e : PyData) : Res Slot := match d, e with
  | .dict ds, .dict es => if dictCan ds = true ∧ dictCan es = true then okB (neg != dictEqB ds es) else .stuck
  | _, _ => .stuck
theorem cmpD_ok {K : Kw} {neg : Bool} : OpS K (rCmpDict K neg) (cmpD neg) := by
  intro G H x y d e s Q g rx ry ef q
  unfold cmpD at ef
  split at ef
  · split at ef
    · rename_i hz
      cases ef
      obtain ⟨a, rfl, D⟩ := rdr_dc g rx
      obtain ⟨b, rfl, E⟩ := rdr_dc g ry
      exact ⟨G, a, b, _, _, rfl, rfl, g, D, E, hz.1, hz.2, q _ G H (Stp.refl g) (Rep.bl _)⟩
    · cases ef
  · cases ef
theorem cmpD_ne {neg : Bool} : NoExc (cmpD neg) := fun d e x => by
  unfold cmpD
  split <;> (try split) <;> (intro h; cases h)
theorem eqD_ok {K : Kw} : OpS K (rCmpDict K false) (cmpD false) := cmpD_ok
theorem neD_ok {K : Kw} : OpS K (rCmpDict K true) (cmpD true) := cmpD_ok
theorem eqD_ne : NoExc (cmpD false) := cmpD_ne
theorem neD_ne : NoExc (cmpD true) := cmpD_ne
theorem cmpD_of {neg : Bool} {ds es : List (PyData × PyData)} (h1 : dictCan ds = true) (h2 : dictCan es = true) : cmpD neg (.dict ds) (.dict es) = .ok (.val (.bool (neg != dictEqB ds es))) := if_pos ⟨h1, h2⟩
end DL
/-! DLza: dict displays -/
namespace DL
open PySem L2
section
variable {X : Cx} {a : Ax} {W : WX} {k v : Expr} {pos : Pos} {ks : List (Option Expr)} {vs : List Expr}
abbrev Prs := List (PyData × PyData)
def RepP (K : Kw) (G : Hp) : Prs → List (V × V) → Prop := fun ps qs => Paired (fun (p : PyData × PyData) (q : V × V) => Rep K G q.1 p.1 ∧ Rep K G q.2 p.2) ps qs
theorem RepP.mono {K : Kw} {G G' : Hp} (g : Same G G') {ps : Prs} {qs : List (V × V)} (r : RepP K G ps qs) : RepP K G' ps qs := by
  unfold RepP at *
  induction r with
  | nil => exact .nil
  | cons h t ih => exact .cons ⟨h.1.mono g, h.2.mono g⟩ ih
def DPs (X : Cx) (a : Ax) (W : WX) (pos : Pos) (ks : List (Option Expr)) (vs : List Expr) (m : DEnv → Res Prs) : Prop :=
  ∃ trs, PPs X pos ks vs trs ∧ ∀ B G0 G H σ δ, StR (cn X a) B G0 G H σ δ → ∀ Q, ROk (cn X a) W σ G H (fun G' _ ps qs => RepP X.kw G' ps qs) (m δ) Q → tPairs trs σ H Q
def mpNil : DEnv → Res Prs := fun _ => .ok []
def mpCons (mk mv : MD) (m : DEnv → Res Prs) : DEnv → Res Prs := fun δ => (mk δ).bind fun k => (mv δ).bind fun v => (m δ).bind fun ps => .ok ((k, v) :: ps)
theorem dps_nil : DPs X a W pos [] [] mpNil := ⟨[], pps_nil, fun B G0 G H σ δ S Q q => q [] G H (Stp.refl S.gh) .nil⟩
theorem dps_cons {mk mv : MD} {m : DEnv → Res Prs} (hk : DV X a W k mk) (hv : DV X a W v mv) (h : DPs X a W pos ks vs m) : DPs X a W pos (some k :: ks) (v :: vs) (mpCons mk mv m) := by
  obtain ⟨tk, pk, sk⟩ := hk
  obtain ⟨tv, pv, sv⟩ := hv
  obtain ⟨trs, pp, s⟩ := h
  refine ⟨_, pps_cons pk pv pp, fun B G0 G H σ δ S Q q => ?_⟩
  refine sk B G0 G H σ δ S _ ?_
  have q1 : ROk (cn X a) W σ G H (fun G' _ ps qs => RepP X.kw G' ps qs) ((mk δ).bind fun k => (mv δ).bind fun v => (m δ).bind fun ps => .ok ((k, v) :: ps)) Q := q
  generalize mk δ = r1 at q1
  cases r1 with
  | stuck => exact q1.elim
  | exc x => exact q1
  | ok kd =>
    intro x G1 H1 st1 rk
    refine sv B G0 G1 H1 σ δ (S.step st1) _ ?_
    have q2 : ROk (cn X a) W σ G H (fun G' _ ps qs => RepP X.kw G' ps qs) ((mv δ).bind fun v => (m δ).bind fun ps => .ok ((kd, v) :: ps)) Q := q1
    generalize mv δ = r2 at q2
    cases r2 with
    | stuck => exact q2.elim
    | exc x => exact fun cls d G3 H3 s3 r => q2 cls d G3 H3 (st1.trans s3) r
    | ok vd =>
      intro y G2 H2 st2 rv
      refine s B G0 G2 H2 σ δ ((S.step st1).step st2) _ ?_
      have q3 : ROk (cn X a) W σ G H (fun G' _ ps qs => RepP X.kw G' ps qs) ((m δ).bind fun ps => .ok ((kd, vd) :: ps)) Q := q2
      generalize m δ = r3 at q3
      cases r3 with
      | stuck => exact q3.elim
      | exc x => exact fun cls d G3 H3 s3 r => q3 cls d G3 H3 ((st1.trans st2).trans s3) r
      | ok ps =>
        intro qs G3 H3 st3 rp
        exact q3 _ G3 H3 ((st1.trans st2).trans st3) (.cons ⟨(rk.mono st2.g).mono st3.g, rv.mono st3.g⟩ rp)
def putAll (ps : Prs) : Prs := ps.foldl (fun acc p => dput acc p.1 p.2) []
def flatP (ps : Prs) : Bool := ps.all fun p => flatKey p.1
def mDisp (m : DEnv → Res Prs) : ME := fun δ => (m δ).bind fun ps => if flatP ps = true ∧ ps.length ≤ 15 then .ok (.own (.dict (putAll ps))) else .stuck
theorem flat_pairs {K : Kw} {G : Hp} : ∀ {ps : Prs} {qs : List (V × V)}, RepP K G ps qs → flatP ps = true → ∃ kvs : List (Key × V), qs = kvs.map (fun kv => (kV kv.1, kv.2)) ∧ kvs.length = ps.length ∧ ∀ {l : List (Key × V)} {ds : Prs}, RepK K G l ds → RepK K G (mergeK l kvs) (ps.foldl (fun acc p => dput acc p.1 p.2) ds)
  | [], _, .nil, _ => ⟨[], rfl, rfl, fun r => r⟩
  | (k, v) :: ps, (y1, y2) :: qs, .cons h t, hf => by
    simp only [flatP, List.all_cons, Bool.and_eq_true] at hf
    obtain ⟨kvs, e, el, r⟩ := flat_pairs t hf.2
    obtain ⟨j, hj⟩ := flat_key hf.1
    simp only at hj h
    subst hj
    have ey := rep_keyD h.1
    subst ey
    refine ⟨(j, y2) :: kvs, by rw [e]; rfl, by simp [el], fun {l ds} rk => ?_⟩
    exact r (rk.putK h.2)
theorem de_disp {m : DEnv → Res Prs} (h : DPs X a W pos ks vs m) (hall : ks.all (·.isSome) = true := by rfl) (hl : ks.length = vs.length := by rfl) (h0 : ks ≠ [] := by exact fun z => nomatch z) (h15 : ks.length ≤ 15 := by decide) : DE X a W (.Dict ks vs pos) (mDisp m) := by
  obtain ⟨trs, pp, s⟩ := h
  refine ⟨_, pe_disp pp hall hl h0 h15, fun B G0 G H σ δ S Q q p hp => ?_⟩
  have st0 : Stp G H G (upd H p (.dK [])) := Stp.newH S.gh hp
  have gp : G p = none := S.gh.free hp
  refine s B G0 G (upd H p (.dK [])) σ δ (S.step st0) _ ?_
  have q1 : ROk (cn X a) W σ G H (relE X.kw H) ((m δ).bind fun ps => if flatP ps = true ∧ ps.length ≤ 15 then .ok (.own (.dict (putAll ps))) else .stuck) Q := q
  generalize m δ = r1 at q1
  cases r1 with
  | stuck => exact q1.elim
  | exc x => exact fun cls d G3 H3 s3 r => q1 cls d G3 H3 (st0.trans s3) r
  | ok ps =>
    intro qs G2 H2 st rp
    have e2 : H2 p = some (.dK []) := st.h p _ upd_same
    refine ⟨e2, ?_⟩
    have q2 : ROk (cn X a) W σ G H (relE X.kw H) (if flatP ps = true ∧ ps.length ≤ 15 then .ok (.own (.dict (putAll ps))) else .stuck) Q := q1
    split at q2
    · rename_i hz
      obtain ⟨kvs, eq, el, r⟩ := flat_pairs rp hz.1
      refine ⟨kvs, eq, by omega, ?_⟩
      have gp2 : G2 p = none := st.fr p gp (by rw [upd_same]; exact fun z => nomatch z)
      refine q2 _ G2 (upd H2 p (.dK (mergeK [] kvs))) ?_ ⟨p, rfl, gp2, hp, .inl ⟨_, upd_same, r .nil⟩⟩
      refine ⟨st.g, fun b o e => ?_, fun b o e => ?_, fun b e n => st.fr b e ?_⟩
      · have hb : b ≠ p := fun z => by rw [z, hp] at e; cases e
        rw [upd_ne hb]
        exact st.h b o (by rw [upd_ne hb]; exact e)
      · have hb : b ≠ p := fun z => by rw [z, gp2] at e; cases e
        rw [upd_ne hb]
        exact st.gh b o e
      · by_cases hb : b = p
        · rw [hb, upd_same]; exact fun z => nomatch z
        · rw [upd_ne hb]; exact n
    · exact q2.elim
@[simp] theorem mDisp_ap {m : DEnv → Res Prs} {δ : DEnv} : mDisp m δ = (m δ).bind fun ps => if flatP ps = true ∧ ps.length ≤ 15 then .ok (.own (.dict (putAll ps))) else .stuck := (rfl)
@[simp] theorem mpNil_ap {δ : DEnv} : mpNil δ = .ok [] := (rfl)
@[simp] theorem mpCons_ap {mk mv : MD} {m : DEnv → Res Prs} {δ : DEnv} : mpCons mk mv m δ = (mk δ).bind fun k => (mv δ).bind fun v => (m δ).bind fun ps => .ok ((k, v) :: ps) := (rfl)
end
end DL
namespace DL
open PySem L2
section
variable {X : Cx} {a : Ax} {W : WX} {pos : Pos}
theorem pe_callS0 {CX : CXT} {x : Str} {f : Addr} {k : Nat} {fd : FuncData} {ps : List Str} {sp : Sp} {E : St → XK} {p : Pos} (F : FnOk X.prog X.w X.K X.mg X.base CX k f fd ps sp) (hr : Room k X.A) (hg : Gl X x) (hm : X.mg x = some (.ref f)) (hk : PySem.W.keepIn X.K (.ref f) = true) (hb : Binds X.K fd ps []) (hx : ∀ σ, PassesAt CX X σ (E σ))
    (hdb : (x == ("__debug__" : Str)) = false := by decide) : PE X (.Call (.Name x p) [] [] pos) (tCallS sp E tNil) := by
  refine ⟨fun pins s σ H Q I h => ?_⟩
  refine wpAny_Call_Name_kw (ld_glob I hg hm ?_ hdb)
  exact PySem.W.callWith_K0 I.kIn hk (run_fnS (us := []) F hr hb (hx σ) I .nil h)
/-- f() -/
theorem de_call0 {x : Str} {f : F} {k : Nat} {ps : List Str} {p : Pos} (F0 : Fd X.prog X.w X.K X.mg X.base a.ec x ps k f) (hr : Room k X.A) (hg : Gl X x) (tk : Takes X W) (hdb : (x == ("__debug__" : Str)) = false := by decide) : DE X a W (.Call (.Name x p) [] [] pos) (mCall f mANil) := by
  obtain ⟨fa, fd, F1, hm, hk, hb⟩ := F0
  refine ⟨_, pe_callS0 F1 hr hg hm hk hb (fun σ => passAt tk σ) hdb, ?_⟩
  intro B G0 G H σ δ S Q hq
  refine ⟨G, [], S.gh, .nil, ?_⟩
  have hq2 : ROk (cn X a) W σ G H (relE X.kw H) (f []) Q := hq
  generalize f [] = rf at hq2
  cases rf with
  | stuck => exact hq2.elim
  | exc x => exact fun cls d G2 H2 s2 r => hq2 cls d G2 H2 s2 r
  | ok sl => exact fun v G2 H2 s2 r => hq2 v G2 H2 s2 r
end
end DL
/-! DLzb: an own dict locked while an expression is reckoned that tells a flat thing -/
namespace DL
open PySem L2
section
variable {C : Cn} {W : WX} {B G0 G H : Hp} {σ : St} {δ : DEnv}
theorem StR.lockAt (S : StR C B G0 G H σ δ) {i : Nat} {ds : List (PyData × PyData)} (hi : δ[i]? = some (some (.own (.dict ds)))) : ∃ a u, H a = some u ∧ Mut (some u) ∧ G a = none ∧ B a = none ∧ ∀ o, StR C B G0 (upd G a (.frz o u)) (upd H a (.frz o u)) σ (δ.set i (some (.val (.dict ds)))) := by
  obtain ⟨fps, E⟩ := S.en
  obtain ⟨v, q, a, ev, ef, t⟩ := E.sl i _ hi
  subst ev
  have hoff := E.off i a (by rw [ef]; exact List.mem_cons_self)
  have hli : i < δ.length := (List.getElem?_eq_some_iff.mp hi).1
  have s1 : ∀ o, Same G (upd G a o) := fun o b u q => by rw [upd_ne (ne_of_none q hoff.2)]; exact q
  have s2 : ∀ o, Same (upd G a o) (upd H a o) := fun o b u q => by
    by_cases hb : b = a
    · subst hb; rw [upd_same] at q ⊢; exact q
    · rw [upd_ne hb] at q ⊢; exact S.gh _ _ q
  have fin : ∀ u o, Rep C.K (upd G a (.frz o u)) (.ref a) (.dict ds) → StR C B G0 (upd G a (.frz o u)) (upd H a (.frz o u)) σ (δ.set i (some (.val (.dict ds)))) := by
    intro u o r
    have := S.put E (s := .val (.dict ds)) (v := .ref a) (fp := []) hli (s1 _) (s2 _) (fun b u e hn => by rw [upd_ne (fun z => hn (by rw [ef, z]; exact List.mem_cons_self))]; exact e) (fun b h => ?_) ⟨rfl, r⟩ List.nodup_nil (fun b hb => nomatch hb) (fun p hp e => by have := S.rt p hp; rw [e, q] at this; exact Option.some.inj (Option.some.inj this))
    · rw [set_id q] at this
      exact this
    · by_cases hba : b = a
      · exact .inr (.inr (by rw [ef, hba]; exact List.mem_cons_self))
      · rw [upd_ne hba] at h; exact .inl h
  rcases t with ⟨l, e, r⟩ | ⟨l, e, hl, r⟩
  · exact ⟨a, _, e, True.intro, hoff.2, hoff.1, fun o => fin _ o (.dk upd_same (r.mono (s1 _)))⟩
  · exact ⟨a, _, e, True.intro, hoff.2, hoff.1, fun o => fin _ o (.dn upd_same hl (r.mono (s1 _)))⟩
end
def flatR : Res Slot → Res Slot
  | .ok (.val (.bool b)) => .ok (.val (.bool b))
  | .ok (.val (.int b)) => .ok (.val (.int b))
  | .ok (.val (.str b)) => .ok (.val (.str b))
  | _ => .stuck
def mLkE (i : Nat) (m : ME) : ME := fun δ => match δ[i]? with
  | some (some (.own (.dict ds))) => flatR (m (δ.set i (some (.val (.dict ds)))))
  | _ => .stuck
section
variable {X : Cx} {a : Ax} {W : WX} {e : Expr}
theorem flat_ok {K : Kw} {G H H0 G' H' : Hp} {r : Res Slot} {s : Slot} (h : flatR r = .ok s) : r = .ok s ∧ ∀ v, ResF K H0 G H s v → ∀ H1 G1 H2, ResF K H1 G1 H2 s v := by
  unfold flatR at h
  split at h
  · cases h
    refine ⟨rfl, fun v q H1 G1 H2 => ?_⟩
    have r : Rep K G v (.bool _) := q
    cases r
    exact (Rep.bl _ : Rep K G1 _ _)
  · cases h
    refine ⟨rfl, fun v q H1 G1 H2 => ?_⟩
    have r : Rep K G v (.int _) := q
    cases r
    exact (Rep.int _ : Rep K G1 _ _)
  · cases h
    refine ⟨rfl, fun v q H1 G1 H2 => ?_⟩
    have r : Rep K G v (.str _) := q
    cases r
    exact (Rep.str _ : Rep K G1 _ _)
  · cases h
theorem flat_ne {r : Res Slot} {x : Exn} : flatR r ≠ .exc x := by
  unfold flatR
  split <;> (intro h; cases h)
theorem de_lock (i : Nat) {m : ME} (h : DE X a W e m) : DE X a W e (mLkE i m) := by
  obtain ⟨t, p, sd⟩ := h
  refine ⟨_, pe_lock p, fun B G0 G H σ δ S Q hq => ?_⟩
  have hq' : ROk (cn X a) W σ G H (relE X.kw H) (mLkE i m δ) Q := hq
  unfold mLkE at hq'
  split at hq'
  · rename_i ds hi
    obtain ⟨p, u, hu, mu, gn, bn, T⟩ := S.lockAt hi
    refine ⟨p, u, hu, mu, fun od => ?_⟩
    refine sd B G0 _ _ σ _ (T od) _ ?_
    generalize m (δ.set i (some (.val (.dict ds)))) = r at hq'
    cases ef : flatR r with
    | stuck => rw [ef] at hq'; exact hq'.elim
    | exc x => exact (flat_ne ef).elim
    | ok s =>
      obtain ⟨er, fl⟩ := flat_ok (K := X.kw) (G := G) (H := H) (H0 := H) (G' := G) (H' := H) ef
      rw [ef] at hq'
      rw [er]
      intro v G' H' st rr
      refine ⟨st.h _ _ upd_same, hq' v G (upd H' p u) ⟨Same.refl _, fun b o eb => ?_, fun b o eb => ?_, fun b eb _ => eb⟩ ?_⟩
      · by_cases hb : b = p
        · subst hb
          rw [upd_same, ← hu]; exact eb
        · rw [upd_ne hb]
          exact st.h _ _ (by rw [upd_ne hb]; exact eb)
      · have hb : b ≠ p := ne_of_none eb gn
        rw [upd_ne hb]
        exact st.h _ _ (by rw [upd_ne hb]; exact S.gh _ _ eb)
      · exact (flat_ok (K := X.kw) (G := G') (H := H') (H0 := (upd H p (.frz od u))) (G' := G) (H' := H) ef).2 v rr _ _ _
  · exact hq'.elim
@[simp] theorem mLkE_ap {i : Nat} {m : ME} {δ : DEnv} : mLkE i m δ = (match δ[i]? with
  | some (some (.own (.dict ds))) => flatR (m (δ.set i (some (.val (.dict ds)))))
  | _ => .stuck) := (rfl)
@[simp] theorem flatR_b {b : Bool} : flatR (.ok (.val (.bool b))) = .ok (.val (.bool b)) := (rfl)
@[simp] theorem flatR_i {b : Int} : flatR (.ok (.val (.int b))) = .ok (.val (.int b)) := (rfl)
@[simp] theorem flatR_s {b : Str} : flatR (.ok (.val (.str b))) = .ok (.val (.str b)) := (rfl)
end
end DL
namespace Pg
open PySem L2 DL
noncomputable def b_is_whole : MS := (mRet (mAndV (mIsi "int" (mR (mVar 0))) (mNotV (mIsi "bool" (mR (mVar 0))))))
noncomputable def d_is_whole : F := mDef 1 1 b_is_whole
noncomputable def b_divisor : MS := (mSeq (mAsg 0 (mBi absF (mCons (mR (mVar 0)) mNil))) (mSeq (mAsg 1 (mBi absF (mCons (mR (mVar 1)) mNil))) (mSeq (mWhile (mTest (mB gtF (mR (mVar 1)) (mR (mC (.int 0))))) (mSeq (mAsg 2 (mB modF (mR (mVar 0)) (mR (mVar 1)))) (mSeq (mAsg 0 (mVar 1)) (mAsg 1 (mVar 2))))) (mRetN 0))))
noncomputable def d_divisor : F := mDef 3 2 b_divisor
noncomputable def b_is_ratio : MS := (mSeq (mIf (mOr (mNot (mTest (mIsi "tuple" (mR (mVar 0))))) (mTest (mB neF (mR (mBi lenF (mCons (mR (mVar 0)) mNil))) (mR (mC (.int 2)))))) (mRet (mC (.bool false))) mNext) (mSeq (mIf (mOr (mNot (mTest (mCall Pg.d_is_whole (mACons (mB ixF (mR (mVar 0)) (mR (mC (.int 0)))) mANil)))) (mOr (mNot (mTest (mCall Pg.d_is_whole (mACons (mB ixF (mR (mVar 0)) (mR (mC (.int 1)))) mANil)))) (mTest (mB ltF (mR (mB ixF (mR (mVar 0)) (mR (mC (.int 1))))) (mR (mC (.int 1))))))) (mRet (mC (.bool false))) mNext) (mRet (mB eqF (mR (mCall Pg.d_divisor (mACons (mB ixF (mR (mVar 0)) (mR (mC (.int 0)))) (mACons (mB ixF (mR (mVar 0)) (mR (mC (.int 1)))) mANil)))) (mR (mC (.int 1)))))))
noncomputable def d_is_ratio : F := mDef 1 1 b_is_ratio
noncomputable def b_ratio : MS := (mSeq (mIf (mTest (mB eqF (mR (mVar 1)) (mR (mC (.int 0))))) (mRaise ⟨.NoNumber, []⟩) mNext) (mSeq (mAsg 2 (mCall Pg.d_divisor (mACons (mVar 0) (mACons (mVar 1) mANil)))) (mSeq (mIf (mTest (mB ltF (mR (mVar 1)) (mR (mC (.int 0))))) (mAsg 2 (mB subF (mR (mC (.int 0))) (mR (mVar 2)))) mNext) (mRet (mTup (mCons (mV (mB divF (mR (mVar 0)) (mR (mVar 2)))) (mCons (mV (mB divF (mR (mVar 1)) (mR (mVar 2)))) mNil)))))))
noncomputable def d_ratio : F := mDef 3 2 b_ratio
noncomputable def b_plus : MS := (mRet (mCall Pg.d_ratio (mACons (mB addF (mR (mB mulF (mR (mB ixF (mR (mVar 0)) (mR (mC (.int 0))))) (mR (mB ixF (mR (mVar 1)) (mR (mC (.int 1))))))) (mR (mB mulF (mR (mB ixF (mR (mVar 1)) (mR (mC (.int 0))))) (mR (mB ixF (mR (mVar 0)) (mR (mC (.int 1)))))))) (mACons (mB mulF (mR (mB ixF (mR (mVar 0)) (mR (mC (.int 1))))) (mR (mB ixF (mR (mVar 1)) (mR (mC (.int 1)))))) mANil))))
noncomputable def d_plus : F := mDef 2 2 b_plus
noncomputable def b_minus : MS := (mRet (mCall Pg.d_ratio (mACons (mB subF (mR (mB mulF (mR (mB ixF (mR (mVar 0)) (mR (mC (.int 0))))) (mR (mB ixF (mR (mVar 1)) (mR (mC (.int 1))))))) (mR (mB mulF (mR (mB ixF (mR (mVar 1)) (mR (mC (.int 0))))) (mR (mB ixF (mR (mVar 0)) (mR (mC (.int 1)))))))) (mACons (mB mulF (mR (mB ixF (mR (mVar 0)) (mR (mC (.int 1))))) (mR (mB ixF (mR (mVar 1)) (mR (mC (.int 1)))))) mANil))))
noncomputable def d_minus : F := mDef 2 2 b_minus
noncomputable def b_times : MS := (mRet (mCall Pg.d_ratio (mACons (mB mulF (mR (mB ixF (mR (mVar 0)) (mR (mC (.int 0))))) (mR (mB ixF (mR (mVar 1)) (mR (mC (.int 0)))))) (mACons (mB mulF (mR (mB ixF (mR (mVar 0)) (mR (mC (.int 1))))) (mR (mB ixF (mR (mVar 1)) (mR (mC (.int 1)))))) mANil))))
noncomputable def d_times : F := mDef 2 2 b_times
noncomputable def b_over : MS := (mRet (mCall Pg.d_ratio (mACons (mB mulF (mR (mB ixF (mR (mVar 0)) (mR (mC (.int 0))))) (mR (mB ixF (mR (mVar 1)) (mR (mC (.int 1)))))) (mACons (mB mulF (mR (mB ixF (mR (mVar 0)) (mR (mC (.int 1))))) (mR (mB ixF (mR (mVar 1)) (mR (mC (.int 0)))))) mANil))))
noncomputable def d_over : F := mDef 2 2 b_over
noncomputable def b_under : MS := (mRet (mB ltF (mR (mB mulF (mR (mB ixF (mR (mVar 0)) (mR (mC (.int 0))))) (mR (mB ixF (mR (mVar 1)) (mR (mC (.int 1))))))) (mR (mB mulF (mR (mB ixF (mR (mVar 1)) (mR (mC (.int 0))))) (mR (mB ixF (mR (mVar 0)) (mR (mC (.int 1)))))))))
noncomputable def d_under : F := mDef 2 2 b_under
noncomputable def b_total : MS := (mSeq (mAsg 1 (mTup (mCons (mV (mC (.int 0))) (mCons (mV (mC (.int 1))) mNil)))) (mSeq (mFor (mgN 2) (miV 0) (mFrz 1 (mAsg 1 (mCall Pg.d_plus (mACons (mVar 1) (mACons (mVar 2) mANil)))))) (mRetN 1)))
noncomputable def d_total : F := mDef 3 1 b_total
noncomputable def b_show_ratio : MS := (mSeq (mIf (mTest (mB eqF (mR (mB ixF (mR (mVar 0)) (mR (mC (.int 1))))) (mR (mC (.int 1))))) (mRet (mBi strF (mCons (mR (mB ixF (mR (mVar 0)) (mR (mC (.int 0))))) mNil))) mNext) (mRet (mB addF (mR (mB addF (mR (mBi strF (mCons (mR (mB ixF (mR (mVar 0)) (mR (mC (.int 0))))) mNil))) (mR (mC (.str "/"))))) (mR (mBi strF (mCons (mR (mB ixF (mR (mVar 0)) (mR (mC (.int 1))))) mNil))))))
noncomputable def d_show_ratio : F := mDef 1 1 b_show_ratio
noncomputable def b_number_of : MS := (mSeq (mIf (mNot (mTest (mChain leF leF (mR (mC (.int 1))) (mR (mBi lenF (mCons (mR (mVar 0)) mNil))) (mR (mC (.int 30)))))) (mRaise ⟨.NoText, []⟩) mNext) (mSeq (mFor (mgN 1) (miV 0) (mIf (mTest (mB (inF true) (mR (mVar 1)) (mR (mC (.str "0123456789"))))) (mRaise ⟨.NoText, []⟩) mNext)) (mRet (mBi intSF (mCons (mR (mVar 0)) mNil)))))
noncomputable def d_number_of : F := mDef 2 1 b_number_of
noncomputable def b_read_ratio : MS := (mSeq (mIf (mNot (mTest (mIsi "str" (mR (mVar 0))))) (mRaise ⟨.NoText, []⟩) mNext) (mSeq (mAsg 1 (mVar 0)) (mSeq (mIf (mTest (mM1 startsF (mR (mVar 0)) (mR (mC (.str "-"))))) (mAsg 1 (mSl (mR (mVar 0)) (mO (mR (mC (.int 1)))) mO0)) mNext) (mSeq (mAsg 2 (mM1 splitF (mR (mVar 1)) (mR (mC (.str "/"))))) (mSeq (mFrz 2 (mAsg 3 (mComp [5] (mgN 5) (miV 2) mYes (mV (mCall Pg.d_number_of (mACons (mVar 5) mANil)))))) (mSeq (mAsg 4 (mTup (mCons (mV (mB ixF (mR (mVar 3)) (mR (mC (.int 0))))) (mCons (mV (mC (.int 1))) mNil)))) (mSeq (mIf (mTest (mB gtF (mR (mBi lenF (mCons (mR (mVar 3)) mNil))) (mR (mC (.int 1))))) (mAsg 4 (mTup (mCons (mV (mB ixF (mR (mVar 3)) (mR (mC (.int 0))))) (mCons (mV (mB ixF (mR (mVar 3)) (mR (mC (.int 1))))) mNil)))) mNext) (mSeq (mIf (mTest (mB neF (mR (mVar 1)) (mR (mVar 0)))) (mAsg 4 (mTup (mCons (mV (mB subF (mR (mC (.int 0))) (mR (mB ixF (mR (mVar 4)) (mR (mC (.int 0))))))) (mCons (mV (mB ixF (mR (mVar 4)) (mR (mC (.int 1))))) mNil)))) mNext) (mSeq (mIf (mOr (mNot (mTest (mCall Pg.d_is_ratio (mACons (mVar 4) mANil)))) (mTest (mB neF (mR (mCall Pg.d_show_ratio (mACons (mVar 4) mANil))) (mR (mVar 0))))) (mRaise ⟨.NoText, []⟩) mNext) (mRetN 4))))))))))
noncomputable def d_read_ratio : F := mDef 6 1 b_read_ratio
noncomputable def b_words_of : MS := (mRet (mBi tupleF (mCons (mR (mComp [1, 2] (mgT 2 (mgCons (mgN 1) (mgCons (mgN 2) mgNil))) (miQ (mV (mB ixF (mR (mVar 0)) (mR (mC (.int 3)))))) mYes (mV (mVar 1)))) mNil)))
noncomputable def d_words_of : F := mDef 3 1 b_words_of
noncomputable def b_behind : MS := (mSeq (mAsg 3 (mTup (mCons (mV (mB ixF (mR (mVar 1)) (mR (mC (.int 2))))) (mCons (mV (mVar 2)) mNil)))) (mSeq (mIf (mTest (mB eqF (mR (mB ixF (mR (mVar 1)) (mR (mC (.int 1))))) (mR (mC (.int 1))))) (mRet (mTup (mCons (mV (mB addF (mR (mB ixF (mR (mVar 0)) (mR (mC (.int 0))))) (mR (mTup (mCons (mV (mVar 3)) mNil))))) (mCons (mV (mB ixF (mR (mVar 0)) (mR (mC (.int 1))))) mNil)))) mNext) (mRet (mTup (mCons (mV (mB ixF (mR (mVar 0)) (mR (mC (.int 0))))) (mCons (mV (mB addF (mR (mB ixF (mR (mVar 0)) (mR (mC (.int 1))))) (mR (mTup (mCons (mV (mVar 3)) mNil))))) mNil))))))
noncomputable def d_behind : F := mDef 4 3 b_behind
noncomputable def b_branches : MS := (mSeq (mIf (mTest (mB eqF (mR (mB ixF (mR (mVar 0)) (mR (mC (.int 0))))) (mR (mC (.str "end"))))) (mRet (mLst mNil)) mNext) (mSeq (mIf (mTest (mB eqF (mR (mB ixF (mR (mVar 0)) (mR (mC (.int 0))))) (mR (mC (.str "deal"))))) (mRet (mComp [2, 3] (mgT 2 (mgCons (mgN 2) (mgCons (mgN 3) mgNil))) (miQ (mV (mB ixF (mR (mVar 0)) (mR (mC (.int 2)))))) mYes (mV (mTup (mCons (mV (mVar 3)) (mCons (mV (mVar 1)) mNil)))))) mNext) (mRet (mComp [4, 3] (mgT 2 (mgCons (mgN 4) (mgCons (mgN 3) mgNil))) (miQ (mV (mB ixF (mR (mVar 0)) (mR (mC (.int 3)))))) mYes (mV (mTup (mCons (mV (mVar 3)) (mCons (mV (mCall Pg.d_behind (mACons (mVar 1) (mACons (mVar 0) (mACons (mVar 4) mANil))))) mNil))))))))
noncomputable def d_branches : F := mDef 5 2 b_branches
noncomputable def b_numbers_at : MS := (mSeq (mIf (mTest (mB eqF (mR (mB ixF (mR (mVar 0)) (mR (mC (.int 0))))) (mR (mC (.str "end"))))) (mRet (mLst (mCons (mV (mB ixF (mR (mVar 0)) (mR (mC (.int 1))))) mNil))) mNext) (mSeq (mIf (mTest (mB eqF (mR (mB ixF (mR (mVar 0)) (mR (mC (.int 0))))) (mR (mC (.str "deal"))))) (mRet (mComp [1, 2] (mgT 2 (mgCons (mgN 1) (mgCons (mgN 2) mgNil))) (miQ (mV (mB ixF (mR (mVar 0)) (mR (mC (.int 2)))))) mYes (mV (mVar 1)))) mNext) (mRet (mLst mNil))))
noncomputable def d_numbers_at : F := mDef 3 1 b_numbers_at
noncomputable def b_are_shares : MS := (mSeq (mIf (mOr (mNot (mTest (mIsi "tuple" (mR (mVar 0))))) (mTest (mB neF (mR (mBi lenF (mCons (mR (mVar 0)) mNil))) (mR (mVar 1))))) (mRet (mC (.bool false))) mNext) (mSeq (mFor (mgN 2) (miV 0) (mIf (mOr (mNot (mTest (mCall Pg.d_is_ratio (mACons (mVar 2) mANil)))) (mTest (mCall Pg.d_under (mACons (mVar 2) (mACons (mTup (mCons (mV (mC (.int 0))) (mCons (mV (mC (.int 1))) mNil))) mANil))))) (mRet (mC (.bool false))) mNext)) (mRet (mB eqF (mR (mCall Pg.d_total (mACons (mBi listF (mCons (mR (mVar 0)) mNil)) mANil))) (mR (mTup (mCons (mV (mC (.int 1))) (mCons (mV (mC (.int 1))) mNil))))))))
noncomputable def d_are_shares : F := mDef 3 2 b_are_shares
noncomputable def b_shares_at : MS := (mSeq (mIf (mTest (mB eqF (mR (mB ixF (mR (mVar 0)) (mR (mC (.int 0))))) (mR (mC (.str "deal"))))) (mRet (mComp [3, 4] (mgT 2 (mgCons (mgN 3) (mgCons (mgN 4) mgNil))) (miQ (mV (mB ixF (mR (mVar 0)) (mR (mC (.int 2)))))) mYes (mV (mVar 3)))) mNext) (mRet (mBi listF (mCons (mR (mB ixF (mR (mVar 2)) (mR (mB ixF (mR (mVar 0)) (mR (mC (.int 2))))))) mNil))))
noncomputable def d_shares_at : F := mDef 5 3 b_shares_at
noncomputable def b_first_best : MS := (mSeq (mAsg 2 (mC (.int 0))) (mSeq (mFor (mgN 3) (mRng2 (mCons (mV (mC (.int 1))) (mCons (mV (mBi lenF (mCons (mR (mVar 0)) mNil))) mNil))) (mIf (mOr (mAnd (mTest (mB eqF (mR (mVar 1)) (mR (mC (.int 2))))) (mTest (mCall Pg.d_under (mACons (mB ixF (mR (mVar 0)) (mR (mVar 2))) (mACons (mB ixF (mR (mVar 0)) (mR (mVar 3))) mANil))))) (mAnd (mTest (mB eqF (mR (mVar 1)) (mR (mC (.int 1))))) (mTest (mCall Pg.d_under (mACons (mB ixF (mR (mVar 0)) (mR (mVar 3))) (mACons (mB ixF (mR (mVar 0)) (mR (mVar 2))) mANil)))))) (mAsg 2 (mVar 3)) mNext)) (mRetN 2)))
noncomputable def d_first_best : F := mDef 4 2 b_first_best
noncomputable def b_shared_bottom : MS := (mSeq (mAsg 1 (mC (.int 1))) (mSeq (mFor (mgT 2 (mgCons (mgN 2) (mgCons (mgN 3) mgNil))) (miV 0) (mAsg 1 (mB mulF (mR (mVar 1)) (mR (mB ixF (mR (mCall Pg.d_ratio (mACons (mVar 3) (mACons (mVar 1) mANil)))) (mR (mC (.int 0)))))))) (mRetN 1)))
noncomputable def d_shared_bottom : F := mDef 4 1 b_shared_bottom
noncomputable def b_as_wholes : MS := (mRet (mComp [2, 3] (mgT 2 (mgCons (mgN 2) (mgCons (mgN 3) mgNil))) (miV 0) mYes (mV (mB mulF (mR (mVar 2)) (mR (mB divF (mR (mVar 1)) (mR (mVar 3))))))))
noncomputable def d_as_wholes : F := mDef 4 2 b_as_wholes
noncomputable def b_last_of : MS := (mSeq (mIf (mTest (mB eqF (mR (mVar 0)) (mR (mTup mNil)))) (mRet (mC .none)) mNext) (mRet (mB ixF (mR (mVar 0)) (mR (mU negF (mR (mC (.int 1))))))))
noncomputable def d_last_of : F := mDef 1 1 b_last_of
noncomputable def b_is_name : MS := (mSeq (mIf (mOr (mNot (mTest (mIsi "str" (mR (mVar 0))))) (mNot (mTest (mChain leF leF (mR (mC (.int 1))) (mR (mBi lenF (mCons (mR (mVar 0)) mNil))) (mR (mC (.int 8))))))) (mRet (mC (.bool false))) mNext) (mSeq (mFor (mgN 1) (miV 0) (mIf (mTest (mB (inF true) (mR (mVar 1)) (mR (mC (.str "abcdefghijklmnopqrstuvwxyz0123456789"))))) (mRet (mC (.bool false))) mNext)) (mRet (mC (.bool true)))))
noncomputable def d_is_name : F := mDef 2 1 b_is_name
noncomputable def b_are_pairs : MS := (mSeq (mIf (mOr (mNot (mTest (mIsi "tuple" (mR (mVar 0))))) (mNot (mTest (mChain leF leF (mR (mC (.int 1))) (mR (mBi lenF (mCons (mR (mVar 0)) mNil))) (mR (mVar 1)))))) (mRet (mC (.bool false))) mNext) (mSeq (mFor (mgN 2) (miV 0) (mIf (mOr (mNot (mTest (mIsi "tuple" (mR (mVar 2))))) (mTest (mB neF (mR (mBi lenF (mCons (mR (mVar 2)) mNil))) (mR (mC (.int 2)))))) (mRet (mC (.bool false))) mNext)) (mRet (mC (.bool true)))))
noncomputable def d_are_pairs : F := mDef 3 2 b_are_pairs
noncomputable def b_parts_of : MS := (mSeq (mIf (mTest (mB eqF (mR (mB ixF (mR (mVar 0)) (mR (mC (.int 0))))) (mR (mC (.str "end"))))) (mRet (mLst mNil)) mNext) (mRet (mComp [1, 2] (mgT 2 (mgCons (mgN 1) (mgCons (mgN 2) mgNil))) (miQ (mV (mB ixF (mR (mVar 0)) (mR (mU negF (mR (mC (.int 1)))))))) mYes (mV (mVar 2)))))
noncomputable def d_parts_of : F := mDef 3 1 b_parts_of
noncomputable def b_at_way : MS := (mSeq (mFor (mgN 2) (miV 1) (mSeq (mAsg 3 (mCall Pg.d_parts_of (mACons (mVar 0) mANil))) (mSeq (mIf (mNot (mTest (mChain leF ltF (mR (mC (.int 0))) (mR (mVar 2)) (mR (mBi lenF (mCons (mR (mVar 3)) mNil)))))) (mRaise ⟨.NoPlace, []⟩) mNext) (mAsg 0 (mB ixF (mR (mVar 3)) (mR (mVar 2))))))) (mRetN 0))
noncomputable def d_at_way : F := mDef 4 2 b_at_way
noncomputable def b_turned (rc : F) : MS := (mSeq (mIf (mTest (mB eqF (mR (mB ixF (mR (mVar 0)) (mR (mC (.int 0))))) (mR (mC (.str "end"))))) (mRet (mTup (mCons (mV (mC (.str "end"))) (mCons (mV (mTup (mCons (mV (mB subF (mR (mC (.int 0))) (mR (mB ixF (mR (mB ixF (mR (mVar 0)) (mR (mC (.int 1))))) (mR (mC (.int 0))))))) (mCons (mV (mB ixF (mR (mB ixF (mR (mVar 0)) (mR (mC (.int 1))))) (mR (mC (.int 1))))) mNil)))) mNil)))) mNext) (mSeq (mAsg 1 (mBi tupleF (mCons (mR (mComp [2, 3] (mgT 2 (mgCons (mgN 2) (mgCons (mgN 3) mgNil))) (miQ (mV (mB ixF (mR (mVar 0)) (mR (mU negF (mR (mC (.int 1)))))))) mYes (mV (mTup (mCons (mV (mVar 2)) (mCons (mV (mCall rc (mACons (mVar 3) mANil))) mNil)))))) mNil))) (mSeq (mIf (mTest (mB eqF (mR (mB ixF (mR (mVar 0)) (mR (mC (.int 0))))) (mR (mC (.str "deal"))))) (mRet (mTup (mCons (mV (mC (.str "deal"))) (mCons (mV (mB ixF (mR (mVar 0)) (mR (mC (.int 1))))) (mCons (mV (mVar 1)) mNil))))) mNext) (mRet (mTup (mCons (mV (mC (.str "move"))) (mCons (mV (mB subF (mR (mC (.int 3))) (mR (mB ixF (mR (mVar 0)) (mR (mC (.int 1))))))) (mCons (mV (mB ixF (mR (mVar 0)) (mR (mC (.int 2))))) (mCons (mV (mVar 1)) mNil)))))))))
noncomputable def d_turned : Nat → F
  | 0 => fun _ => .stuck
  | n + 1 => mDef 4 1 (b_turned (d_turned n))
noncomputable def b_ask_word : MS := (mSeq (mFor (mgT 4 (mgCons (mgN 4) (mgCons (mgN 5) (mgCons (mgN 6) (mgCons (mgN 7) mgNil))))) (miV 0) (mIf (mAnd (mTest (mB eqF (mR (mVar 4)) (mR (mVar 1)))) (mAnd (mTest (mB eqF (mR (mVar 5)) (mR (mVar 2)))) (mTest (mB (inF false) (mR (mVar 3)) (mR (mVar 6)))))) mRet0 mNext)) (mRaise ⟨.NoWord, []⟩))
noncomputable def d_ask_word : F := mDef 8 4 b_ask_word
noncomputable def b_shown (rc : F) : MS := (mSeq (mIf (mTest (mB eqF (mR (mB ixF (mR (mVar 0)) (mR (mC (.int 0))))) (mR (mC (.str "end"))))) (mRet (mB addF (mR (mC (.str "end "))) (mR (mCall Pg.d_show_ratio (mACons (mB ixF (mR (mVar 0)) (mR (mC (.int 1)))) mANil))))) mNext) (mSeq (mIf (mTest (mB eqF (mR (mB ixF (mR (mVar 0)) (mR (mC (.int 0))))) (mR (mC (.str "deal"))))) (mSeq (mAsg 1 (mComp [2, 3] (mgT 2 (mgCons (mgN 2) (mgCons (mgN 3) mgNil))) (miQ (mV (mB ixF (mR (mVar 0)) (mR (mC (.int 2)))))) mYes (mV (mB addF (mR (mB addF (mR (mCall Pg.d_show_ratio (mACons (mVar 2) mANil))) (mR (mC (.str " "))))) (mR (mCall rc (mACons (mVar 3) mANil))))))) (mRet (mB addF (mR (mB addF (mR (mB addF (mR (mB addF (mR (mC (.str "deal "))) (mR (mB ixF (mR (mVar 0)) (mR (mC (.int 1))))))) (mR (mC (.str "("))))) (mR (mM1 joinF (mR (mC (.str ", "))) (mR (mVar 1)))))) (mR (mC (.str ")")))))) mNext) (mSeq (mAsg 1 (mComp [4, 3] (mgT 2 (mgCons (mgN 4) (mgCons (mgN 3) mgNil))) (miQ (mV (mB ixF (mR (mVar 0)) (mR (mC (.int 3)))))) mYes (mV (mB addF (mR (mB addF (mR (mVar 4)) (mR (mC (.str " "))))) (mR (mCall rc (mACons (mVar 3) mANil))))))) (mRet (mB addF (mR (mB addF (mR (mB addF (mR (mB addF (mR (mB addF (mR (mB addF (mR (mC (.str "move "))) (mR (mBi strF (mCons (mR (mB ixF (mR (mVar 0)) (mR (mC (.int 1))))) mNil))))) (mR (mC (.str " "))))) (mR (mB ixF (mR (mVar 0)) (mR (mC (.int 2))))))) (mR (mC (.str "("))))) (mR (mM1 joinF (mR (mC (.str ", "))) (mR (mVar 1)))))) (mR (mC (.str ")"))))))))
noncomputable def d_shown : Nat → F
  | 0 => fun _ => .stuck
  | n + 1 => mDef 5 1 (b_shown (d_shown n))
noncomputable def b_with_stakes (rc : F) : MS := (mSeq (mIf (mTest (mB eqF (mR (mB ixF (mR (mVar 0)) (mR (mC (.int 0))))) (mR (mC (.str "end"))))) (mRet (mTup (mCons (mV (mC (.str "end"))) (mCons (mV (mCall Pg.d_times (mACons (mB ixF (mR (mVar 0)) (mR (mC (.int 1)))) (mACons (mTup (mCons (mV (mVar 1)) (mCons (mV (mC (.int 1))) mNil))) mANil)))) mNil)))) mNext) (mRet (mB addF (mR (mSl (mR (mVar 0)) mO0 (mO (mR (mU negF (mR (mC (.int 1)))))))) (mR (mTup (mCons (mV (mBi tupleF (mCons (mR (mComp [2, 3] (mgT 2 (mgCons (mgN 2) (mgCons (mgN 3) mgNil))) (miQ (mV (mB ixF (mR (mVar 0)) (mR (mU negF (mR (mC (.int 1)))))))) mYes (mV (mTup (mCons (mV (mVar 2)) (mCons (mV (mCall rc (mACons (mVar 3) (mACons (mVar 1) mANil)))) mNil)))))) mNil))) mNil))))))
noncomputable def d_with_stakes : Nat → F
  | 0 => fun _ => .stuck
  | n + 1 => mDef 4 2 (b_with_stakes (d_with_stakes n))
noncomputable def b_without_word (rc : F) : MS := (mSeq (mIf (mTest (mB eqF (mR (mB ixF (mR (mVar 0)) (mR (mC (.int 0))))) (mR (mC (.str "end"))))) (mRetN 0) mNext) (mSeq (mAsg 4 (mComp [5, 6] (mgT 2 (mgCons (mgN 5) (mgCons (mgN 6) mgNil))) (miQ (mV (mB ixF (mR (mVar 0)) (mR (mU negF (mR (mC (.int 1)))))))) mYes (mV (mTup (mCons (mV (mVar 5)) (mCons (mV (mCall rc (mACons (mVar 6) (mACons (mVar 1) (mACons (mVar 2) (mACons (mVar 3) mANil)))))) mNil)))))) (mSeq (mIf (mAnd (mTest (mB eqF (mR (mB ixF (mR (mVar 0)) (mR (mC (.int 0))))) (mR (mC (.str "move"))))) (mAnd (mTest (mB eqF (mR (mB ixF (mR (mVar 0)) (mR (mC (.int 1))))) (mR (mVar 1)))) (mTest (mB eqF (mR (mB ixF (mR (mVar 0)) (mR (mC (.int 2))))) (mR (mVar 2)))))) (mFrz 4 (mAsg 4 (mComp [7] (mgN 7) (miV 4) (mTest (mB neF (mR (mB ixF (mR (mVar 7)) (mR (mC (.int 0))))) (mR (mVar 3)))) (mV (mVar 7))))) mNext) (mRet (mB addF (mR (mSl (mR (mVar 0)) mO0 (mO (mR (mU negF (mR (mC (.int 1)))))))) (mR (mTup (mCons (mV (mBi tupleF (mCons (mR (mVar 4)) mNil))) mNil))))))))
noncomputable def d_without_word : Nat → F
  | 0 => fun _ => .stuck
  | n + 1 => mDef 8 4 (b_without_word (d_without_word n))
noncomputable def b_side_of : MS := (mSeq (mIf (mTest (mB (inF true) (mR (mVar 0)) (mR (mTup (mCons (mV (mC (.str "1"))) (mCons (mV (mC (.str "2"))) mNil)))))) (mRaise ⟨.NoRow, []⟩) mNext) (mRet (mBi intSF (mCons (mR (mVar 0)) mNil))))
noncomputable def d_side_of : F := mDef 1 1 b_side_of
noncomputable def b_way_of : MS := (mSeq (mIf (mTest (mB eqF (mR (mVar 0)) (mR (mC (.str "-"))))) (mRet (mTup mNil)) mNext) (mSeq (mAsg 1 (mLst mNil)) (mSeq (mFor (mgN 2) (miQ (mV (mM1 splitF (mR (mVar 0)) (mR (mC (.str ".")))))) (mSeq (mIf (mOr (mNot (mTest (mChain leF leF (mR (mC (.int 1))) (mR (mBi lenF (mCons (mR (mVar 2)) mNil))) (mR (mC (.int 2)))))) (mTest (mB gtF (mR (mBi lenF (mCons (mR (mComp [3] (mgN 3) (miV 2) (mTest (mB (inF true) (mR (mVar 3)) (mR (mC (.str "0123456789"))))) (mV (mVar 3)))) mNil))) (mR (mC (.int 0)))))) (mRaise ⟨.NoRow, []⟩) mNext) (mSeq (mIf (mAnd (mTest (mB eqF (mR (mB ixF (mR (mVar 2)) (mR (mC (.int 0))))) (mR (mC (.str "0"))))) (mTest (mB gtF (mR (mBi lenF (mCons (mR (mVar 2)) mNil))) (mR (mC (.int 1)))))) (mRaise ⟨.NoRow, []⟩) mNext) (mApp 1 (mV (mBi intSF (mCons (mR (mVar 2)) mNil))))))) (mRet (mBi tupleF (mCons (mR (mVar 1)) mNil))))))
noncomputable def d_way_of : F := mDef 4 1 b_way_of
end Pg
/-! DR: ratios.py over Rat -/
namespace Pg
open PySem L2 DL
def qD (q : Rat) : PyData := .tuple [.int q.num, .int (q.den : Int)]
abbrev gcdC : MT := mTest (mB gtF (mR (mVar 1)) (mR (mC (.int 0))))
abbrev gcdB : MS := mSeq (mAsg 2 (mB modF (mR (mVar 0)) (mR (mVar 1)))) (mSeq (mAsg 0 (mVar 1)) (mAsg 1 (mVar 2)))
theorem gcd_loop : ∀ (y x : Nat) (r : Option Slot), ∃ r', mWhile gcdC gcdB [some (.val (.int (x : Int))), some (.val (.int (y : Int))), r] = .nx [some (.val (.int (Nat.gcd x y : Nat))), some (.val (.int 0)), r'] := by
  intro y
  induction y using Nat.strongRecOn with
  | _ y ih =>
    intro x r
    rw [mWhile_eq]
    by_cases h : y = 0
    · subst h
      exact ⟨r, by simp⟩
    · have hy : 0 < y := by omega
      obtain ⟨r', e⟩ := ih (x % y) (Nat.mod_lt x hy) y (some (.val (.int ((x % y : Nat) : Int))))
      refine ⟨r', ?_⟩
      have eg : Nat.gcd y (x % y) = Nat.gcd x y := by rw [Nat.gcd_comm y, ← Nat.gcd_rec, Nat.gcd_comm]
      rw [eg] at e
      simp only [Int.natCast_emod] at e
      simp [hy, wgo]
      exact e
theorem divisor_int (a b : Int) : d_divisor [.val (.int a), .val (.int b)] = .ok (.val (.int (Int.gcd a b : Nat))) := by
  have e : ∀ z : Int, (if z < 0 then -z else z) = ((z.natAbs : Nat) : Int) := fun z => by split <;> omega
  obtain ⟨r', h⟩ := gcd_loop b.natAbs a.natAbs none
  simp [d_divisor, mDef, b_divisor, start0, e]
  rw [h]
  simp [Int.gcd]
@[simp] theorem is_whole_int (i : Int) : d_is_whole [.val (.int i)] = .ok (.val (.bool true)) := by simp [d_is_whole, mDef, b_is_whole, start0]
@[simp] theorem is_whole_bool (b : Bool) : d_is_whole [.val (.bool b)] = .ok (.val (.bool false)) := by simp [d_is_whole, mDef, b_is_whole, start0]
@[simp] theorem is_whole_none : d_is_whole [.val .none] = .ok (.val (.bool false)) := by simp [d_is_whole, mDef, b_is_whole, start0]
@[simp] theorem is_whole_str (x : Str) : d_is_whole [.val (.str x)] = .ok (.val (.bool false)) := by simp [d_is_whole, mDef, b_is_whole, start0]
@[simp] theorem is_whole_list (x : List PyData) : d_is_whole [.val (.list x)] = .ok (.val (.bool false)) := by simp [d_is_whole, mDef, b_is_whole, start0]
@[simp] theorem is_whole_tup (x : List PyData) : d_is_whole [.val (.tuple x)] = .ok (.val (.bool false)) := by simp [d_is_whole, mDef, b_is_whole, start0]
@[simp] theorem is_whole_dict (x : List (PyData × PyData)) : d_is_whole [.val (.dict x)] = .ok (.val (.bool false)) := by simp [d_is_whole, mDef, b_is_whole, start0]
/-! is_ratio -/
@[simp] theorem is_ratio_none : d_is_ratio [.val .none] = .ok (.val (.bool false)) := by simp [d_is_ratio, mDef, b_is_ratio, start0]
@[simp] theorem is_ratio_bool (b : Bool) : d_is_ratio [.val (.bool b)] = .ok (.val (.bool false)) := by simp [d_is_ratio, mDef, b_is_ratio, start0]
@[simp] theorem is_ratio_int (b : Int) : d_is_ratio [.val (.int b)] = .ok (.val (.bool false)) := by simp [d_is_ratio, mDef, b_is_ratio, start0]
@[simp] theorem is_ratio_str (b : Str) : d_is_ratio [.val (.str b)] = .ok (.val (.bool false)) := by simp [d_is_ratio, mDef, b_is_ratio, start0]
@[simp] theorem is_ratio_list (b : List PyData) : d_is_ratio [.val (.list b)] = .ok (.val (.bool false)) := by simp [d_is_ratio, mDef, b_is_ratio, start0]
@[simp] theorem is_ratio_dict (b : List (PyData × PyData)) : d_is_ratio [.val (.dict b)] = .ok (.val (.bool false)) := by simp [d_is_ratio, mDef, b_is_ratio, start0]
theorem is_ratio_len {b : List PyData} (h : b.length ≠ 2) : d_is_ratio [.val (.tuple b)] = .ok (.val (.bool false)) := by
  have h' : ¬ ((b.length : Int) = 2) := by omega
  simp [d_is_ratio, mDef, b_is_ratio, start0, h']
theorem is_ratio_two (t b : Int) : d_is_ratio [.val (.tuple [.int t, .int b])] = .ok (.val (.bool (decide (1 ≤ b ∧ Int.gcd t b = 1)))) := by
  by_cases h : b < 1
  · have h' : ¬ (1 ≤ b) := by omega
    simp [d_is_ratio, mDef, b_is_ratio, start0, h, h']
  · have h' : 1 ≤ b := by omega
    simp [d_is_ratio, mDef, b_is_ratio, start0, h, h', divisor_int]
    rw [Bool.beq_eq_decide_eq]
    exact decide_eq_decide.mpr (by omega)
theorem is_ratio_no {x y : PyData} (h : d_is_whole [.val x] = .ok (.val (.bool false)) ∨ (d_is_whole [.val x] = .ok (.val (.bool true)) ∧ d_is_whole [.val y] = .ok (.val (.bool false)))) : d_is_ratio [.val (.tuple [x, y])] = .ok (.val (.bool false)) := by
  rcases h with h | ⟨h1, h2⟩
  · simp [d_is_ratio, mDef, b_is_ratio, start0, h]
  · simp [d_is_ratio, mDef, b_is_ratio, start0, h1, h2]
theorem q_pos (q : Rat) : (1 : Int) ≤ (q.den : Int) := by have := q.den_pos; omega
theorem q_gcd (q : Rat) : Int.gcd q.num (q.den : Int) = 1 := by have := q.reduced; simpa [Int.gcd, Nat.Coprime] using this
@[simp] theorem is_ratio_q (q : Rat) : d_is_ratio [.val (qD q)] = .ok (.val (.bool true)) := by
  unfold qD
  rw [is_ratio_two]
  simp [q_pos q, q_gcd q]
/-! ratio -/
theorem ratio_0 (t : Int) : d_ratio [.val (.int t), .val (.int 0)] = .exc ⟨.NoNumber, []⟩ := by simp [d_ratio, mDef, b_ratio, start0]
theorem gcd_fits {t b : Int} (hb : b ≠ 0) (hs : b.natAbs.log2 < 9000) : (Int.gcd t b).log2 < 9000 := by
  have h1 : Int.gcd t b ≤ b.natAbs := Nat.le_of_dvd (by omega) (Nat.gcd_dvd_right _ _)
  by_cases h0 : Int.gcd t b = 0
  · rw [h0]; decide
  · exact Nat.lt_of_le_of_lt ((Nat.le_log2 (by omega)).mpr (Nat.le_trans (Nat.log2_self_le h0) h1)) hs
theorem ratio_ok {t b : Int} (hb : b ≠ 0) (hs : b.natAbs.log2 < 9000) : d_ratio [.val (.int t), .val (.int b)] = .ok (.val (qD (Rat.divInt t b))) := by
  have hg : 0 < Int.gcd t b := Nat.gcd_pos_of_pos_right _ (by omega)
  have hf := gcd_fits (t := t) hb hs
  have hgb : ((Int.gcd t b : Nat) : Int) ∣ b := Int.gcd_dvd_right ..
  have hgt : ((Int.gcd t b : Nat) : Int) ∣ t := Int.gcd_dvd_left ..
  unfold qD
  rw [Rat.num_divInt, Rat.den_divInt, if_neg hb, Int.gcd_comm b t]
  generalize hgg : Int.gcd t b = g at *
  obtain ⟨u, hu⟩ := hgt
  obtain ⟨v, hv⟩ := hgb
  have hg0 : ((g : Nat) : Int) ≠ 0 := by omega
  by_cases h : b < 0
  · have h' : ¬ (0 < b) := by omega
    have hc : ∀ z : Int, divF (.int z) (.int (-(g : Int))) = .ok (.val (.int (z.fdiv (-(g : Int))))) := fun z => by
      have hc : CDivA z (-(g : Int)) := ⟨by omega, PyProof.noPylong_of_log2 (by rw [show (-(g : Int)).natAbs = g by omega]; exact hf)⟩
      show (if CDivA z (-(g : Int)) then okI (z.fdiv (-(g : Int))) else .stuck) = _
      rw [if_pos hc]
      rfl
    have e1 : t.fdiv (-(g : Int)) = b.sign * t / (g : Int) := by
      have es : b.sign = -1 := Int.sign_eq_neg_one_of_neg h
      rw [es, hu, show (-1 : Int) * ((g : Int) * u) = (g : Int) * (-u) by rw [Int.mul_neg, Int.neg_mul, Int.one_mul], Int.mul_ediv_cancel_left _ hg0, show (g : Int) * u = (-(g : Int)) * (-u) by rw [Int.neg_mul_neg]]
      exact Int.mul_fdiv_cancel_left _ (by omega)
    have e2 : b.fdiv (-(g : Int)) = ((b.natAbs / g : Nat) : Int) := by
      have hv0 : v < 0 := by
        rcases Int.lt_trichotomy v 0 with z | z | z
        · exact z
        · subst z; omega
        · have := Int.mul_pos (show (0 : Int) < (g : Int) by omega) z; omega
      have en : b.natAbs = g * v.natAbs := by rw [hv, Int.natAbs_mul]; simp
      rw [en, Nat.mul_div_cancel_left _ hg, hv, show (g : Int) * v = (-(g : Int)) * (-v) by rw [Int.neg_mul_neg], Int.mul_fdiv_cancel_left _ (by omega)]
      omega
    simp only [d_ratio, mDef, b_ratio, start0]
    simp [hb, h, divisor_int, hgg] 
    simp [hc, fits_of, e1, e2]
  · have h' : 0 < b := by omega
    have hc : ∀ z : Int, divF (.int z) (.int (g : Int)) = .ok (.val (.int (z / (g : Int)))) := fun z => divF_pos (by omega) (by simpa using hf)
    have e1 : t / (g : Int) = b.sign * t / (g : Int) := by rw [Int.sign_eq_one_of_pos h', Int.one_mul]
    have e2 : b / (g : Int) = ((b.natAbs / g : Nat) : Int) := by
      have en : ((b.natAbs : Nat) : Int) = b := by omega
      rw [Int.natCast_ediv, en]
    simp only [d_ratio, mDef, b_ratio, start0]
    simp [hb, h, divisor_int, hgg, hc]
    simp [fits_of, ← e1, e2]
theorem divInt_num_le {t b : Int} : (Rat.divInt t b).num.natAbs ≤ t.natAbs := by
  rw [Rat.num_divInt]
  have h1 : (b.sign * t).natAbs ≤ t.natAbs := by
    rw [Int.natAbs_mul]
    have : b.sign.natAbs ≤ 1 := by
      rcases Int.lt_trichotomy b 0 with h | h | h
      · rw [Int.sign_eq_neg_one_of_neg h]; decide
      · subst h; decide
      · rw [Int.sign_eq_one_of_pos h]; decide
    calc b.sign.natAbs * t.natAbs ≤ 1 * t.natAbs := Nat.mul_le_mul_right _ this
      _ = t.natAbs := Nat.one_mul _
  exact Nat.le_trans (Int.natAbs_ediv_le_natAbs _ _) h1
theorem divInt_den_le {t b : Int} (hb : b ≠ 0) : (Rat.divInt t b).den ≤ b.natAbs := by
  rw [Rat.den_divInt, if_neg hb]
  exact Nat.div_le_self _ _
theorem divInt_cross {t b : Int} (hb : b ≠ 0) : (Rat.divInt t b).num * b = t * ((Rat.divInt t b).den : Int) := by
  have h := Rat.num_divInt_den (Rat.divInt t b)
  exact (Rat.divInt_eq_divInt_iff (by have := (Rat.divInt t b).den_pos; omega) hb).mp h
end Pg
/-! DR2: plus, minus, times, over, under over Rat, with sizes -/
namespace Pg
open PySem L2 DL
/-- below 2 ^ n above and below -/
def Sz (n : Nat) (q : Rat) : Prop := q.num.natAbs < 2 ^ n ∧ q.den < 2 ^ n
theorem Sz.mono {m n : Nat} {q : Rat} (h : Sz m q) (hm : m ≤ n) : Sz n q :=
  ⟨Nat.lt_of_lt_of_le h.1 (Nat.pow_le_pow_right (by decide) hm), Nat.lt_of_lt_of_le h.2 (Nat.pow_le_pow_right (by decide) hm)⟩
theorem den0 (q : Rat) : (q.den : Int) ≠ 0 := by have := q.den_pos; omega
theorem mul_lt_pow {a b : Int} {m n : Nat} (ha : a.natAbs < 2 ^ m) (hb : b.natAbs < 2 ^ n) : (a * b).natAbs < 2 ^ (m + n) := L2.wide_lt ha hb
theorem add_lt_pow {a b : Int} {n : Nat} (ha : a.natAbs < 2 ^ n) (hb : b.natAbs < 2 ^ n) : (a + b).natAbs < 2 ^ (n + 1) := by rw [Nat.pow_succ]; omega
theorem sub_lt_pow {a b : Int} {n : Nat} (ha : a.natAbs < 2 ^ n) (hb : b.natAbs < 2 ^ n) : (a - b).natAbs < 2 ^ (n + 1) := by rw [Nat.pow_succ]; omega
theorem sz_divInt {t b : Int} {n : Nat} (hb : b ≠ 0) (h1 : t.natAbs < 2 ^ n) (h2 : b.natAbs < 2 ^ n) : Sz n (Rat.divInt t b) := ⟨Nat.lt_of_le_of_lt divInt_num_le h1, Nat.lt_of_le_of_lt (divInt_den_le hb) h2⟩
theorem add_divInt (p q : Rat) : p + q = Rat.divInt (p.num * q.den + q.num * p.den) (p.den * q.den) := by
  conv => lhs; rw [← Rat.num_divInt_den p, ← Rat.num_divInt_den q]
  exact Rat.divInt_add_divInt _ _ (den0 p) (den0 q)
theorem sub_divInt (p q : Rat) : p - q = Rat.divInt (p.num * q.den - q.num * p.den) (p.den * q.den) := by
  conv => lhs; rw [← Rat.num_divInt_den p, ← Rat.num_divInt_den q]
  exact Rat.divInt_sub_divInt _ _ (den0 p) (den0 q)
theorem mul_divInt (p q : Rat) : p * q = Rat.divInt (p.num * q.num) (p.den * q.den) := by
  conv => lhs; rw [← Rat.num_divInt_den p, ← Rat.num_divInt_den q]
  exact Rat.divInt_mul_divInt _ _
theorem div_divInt (p q : Rat) : p / q = Rat.divInt (p.num * q.den) (p.den * q.num) := by
  rw [Rat.div_def, Rat.inv_def]
  conv => lhs; rw [← Rat.num_divInt_den p]
  exact Rat.divInt_mul_divInt _ _
theorem den_mul_ne (p q : Rat) : (p.den : Int) * (q.den : Int) ≠ 0 := Int.mul_ne_zero (den0 p) (den0 q)
theorem sz_add {p q : Rat} {n : Nat} (hp : Sz n p) (hq : Sz n q) : Sz (2 * n + 1) (p + q) := by
  rw [add_divInt]
  have a := mul_lt_pow hp.1 (b := (q.den : Int)) (by simpa using hq.2)
  have b := mul_lt_pow hq.1 (b := (p.den : Int)) (by simpa using hp.2)
  have c := mul_lt_pow (a := (p.den : Int)) (b := (q.den : Int)) (by simpa using hp.2) (by simpa using hq.2)
  rw [show 2 * n + 1 = n + n + 1 by omega]
  exact sz_divInt (den_mul_ne p q) (add_lt_pow a b) (Nat.lt_of_lt_of_le c (Nat.pow_le_pow_right (by decide) (by omega)))
theorem sz_sub {p q : Rat} {n : Nat} (hp : Sz n p) (hq : Sz n q) : Sz (2 * n + 1) (p - q) := by
  rw [sub_divInt]
  have a := mul_lt_pow hp.1 (b := (q.den : Int)) (by simpa using hq.2)
  have b := mul_lt_pow hq.1 (b := (p.den : Int)) (by simpa using hp.2)
  have c := mul_lt_pow (a := (p.den : Int)) (b := (q.den : Int)) (by simpa using hp.2) (by simpa using hq.2)
  rw [show 2 * n + 1 = n + n + 1 by omega]
  exact sz_divInt (den_mul_ne p q) (sub_lt_pow a b) (Nat.lt_of_lt_of_le c (Nat.pow_le_pow_right (by decide) (by omega)))
theorem sz_mul {p q : Rat} {n : Nat} (hp : Sz n p) (hq : Sz n q) : Sz (2 * n) (p * q) := by
  rw [mul_divInt, show 2 * n = n + n by omega]
  exact sz_divInt (den_mul_ne p q) (mul_lt_pow hp.1 hq.1) (mul_lt_pow (a := (p.den : Int)) (b := (q.den : Int)) (by simpa using hp.2) (by simpa using hq.2))
theorem num_ne {q : Rat} (h : q ≠ 0) : q.num ≠ 0 := fun e => h (Rat.num_eq_zero.mp e)
theorem sz_div {p q : Rat} {n : Nat} (hp : Sz n p) (hq : Sz n q) (h0 : q ≠ 0) : Sz (2 * n) (p / q) := by
  rw [div_divInt, show 2 * n = n + n by omega]
  exact sz_divInt (Int.mul_ne_zero (den0 p) (num_ne h0)) (mul_lt_pow hp.1 (b := (q.den : Int)) (by simpa using hq.2)) (mul_lt_pow (a := (p.den : Int)) (by simpa using hp.2) hq.1)
theorem neg_num (q : Rat) : (-q).num = -q.num := rfl
theorem neg_den (q : Rat) : (-q).den = q.den := rfl
theorem sz_neg {q : Rat} {n : Nat} (hq : Sz n q) : Sz n (-q) := ⟨by rw [neg_num]; simpa using hq.1, hq.2⟩
/-- the product that the program takes -/
theorem mul_in {a b : Int} {n : Nat} (h0 : 0 < n) (h : n ≤ 60000000) (ha : a.natAbs < 2 ^ n) (hb : b.natAbs < 2 ^ n) : mulF (.int a) (.int b) = .ok (.val (.int (a * b))) := mulF_ok' (mulOk_pow h0 h0 ha hb (by omega))
theorem log_mul {a b : Int} {n : Nat} (h0 : 0 < n) (h : n ≤ 4499) (ha : a.natAbs < 2 ^ n) (hb : b.natAbs < 2 ^ n) : (a * b).natAbs.log2 < 9000 := Nat.lt_trans (log2_lt (k := n + n) (by omega) (mul_lt_pow ha hb)) (by omega)
theorem plus_q {p q : Rat} {n : Nat} (h0 : 0 < n) (h : n ≤ 4499) (hp : Sz n p) (hq : Sz n q) : d_plus [.val (qD p), .val (qD q)] = .ok (.val (qD (p + q))) := by
  have hn : n ≤ 60000000 := by omega
  have pd : (p.den : Int).natAbs < 2 ^ n := by simpa using hp.2
  have qd : (q.den : Int).natAbs < 2 ^ n := by simpa using hq.2
  rw [add_divInt]
  simp [d_plus, mDef, b_plus, start0, qD, mul_in h0 hn hp.1 qd, mul_in h0 hn hq.1 pd, mul_in h0 hn pd qd]
  rw [ratio_ok (den_mul_ne p q) (log_mul h0 h pd qd)]
  simp [qD]
theorem minus_q {p q : Rat} {n : Nat} (h0 : 0 < n) (h : n ≤ 4499) (hp : Sz n p) (hq : Sz n q) : d_minus [.val (qD p), .val (qD q)] = .ok (.val (qD (p - q))) := by
  have hn : n ≤ 60000000 := by omega
  have pd : (p.den : Int).natAbs < 2 ^ n := by simpa using hp.2
  have qd : (q.den : Int).natAbs < 2 ^ n := by simpa using hq.2
  rw [sub_divInt]
  simp [d_minus, mDef, b_minus, start0, qD, mul_in h0 hn hp.1 qd, mul_in h0 hn hq.1 pd, mul_in h0 hn pd qd]
  rw [ratio_ok (den_mul_ne p q) (log_mul h0 h pd qd)]
  simp [qD]
theorem times_q {p q : Rat} {n : Nat} (h0 : 0 < n) (h : n ≤ 4499) (hp : Sz n p) (hq : Sz n q) : d_times [.val (qD p), .val (qD q)] = .ok (.val (qD (p * q))) := by
  have hn : n ≤ 60000000 := by omega
  have pd : (p.den : Int).natAbs < 2 ^ n := by simpa using hp.2
  have qd : (q.den : Int).natAbs < 2 ^ n := by simpa using hq.2
  rw [mul_divInt]
  simp [d_times, mDef, b_times, start0, qD, mul_in h0 hn hp.1 hq.1, mul_in h0 hn pd qd]
  rw [ratio_ok (den_mul_ne p q) (log_mul h0 h pd qd)]
  simp [qD]
theorem over_q {p q : Rat} {n : Nat} (h0 : 0 < n) (h : n ≤ 4499) (hp : Sz n p) (hq : Sz n q) (hz : q ≠ 0) : d_over [.val (qD p), .val (qD q)] = .ok (.val (qD (p / q))) := by
  have hn : n ≤ 60000000 := by omega
  have pd : (p.den : Int).natAbs < 2 ^ n := by simpa using hp.2
  have qd : (q.den : Int).natAbs < 2 ^ n := by simpa using hq.2
  rw [div_divInt]
  simp [d_over, mDef, b_over, start0, qD, mul_in h0 hn hp.1 qd, mul_in h0 hn pd hq.1]
  rw [ratio_ok (Int.mul_ne_zero (den0 p) (num_ne hz)) (log_mul h0 h pd hq.1)]
  simp [qD]
theorem over_0 {p : Rat} {n : Nat} (h0 : 0 < n) (h : n ≤ 4499) (hp : Sz n p) : d_over [.val (qD p), .val (qD 0)] = .exc ⟨.NoNumber, []⟩ := by
  simp [d_over, mDef, b_over, start0, qD, ratio_0]
theorem under_q {p q : Rat} {n : Nat} (h0 : 0 < n) (h : n ≤ 60000000) (hp : Sz n p) (hq : Sz n q) : d_under [.val (qD p), .val (qD q)] = .ok (.val (.bool (decide (p < q)))) := by
  have pd : (p.den : Int).natAbs < 2 ^ n := by simpa using hp.2
  have qd : (q.den : Int).natAbs < 2 ^ n := by simpa using hq.2
  simp [d_under, mDef, b_under, start0, qD, mul_in h0 h hp.1 qd, mul_in h0 h hq.1 pd, Rat.lt_iff]
theorem qD_inj {p q : Rat} : qD p = qD q ↔ p = q := by
  constructor
  · intro h
    simp only [qD, PyData.tuple.injEq, List.cons.injEq, PyData.int.injEq, and_true, Int.ofNat_inj] at h
    exact Rat.ext h.1 h.2
  · intro h; rw [h]
end Pg
namespace Pg
open PySem L2 DL
theorem qD_low {t b : Int} (hb : 0 < b) : qD (Rat.divInt t b) = .tuple [.int (t / ((Int.gcd t b : Nat) : Int)), .int (b / ((Int.gcd t b : Nat) : Int))] := by
  unfold qD
  rw [Rat.num_divInt, Rat.den_divInt, if_neg (by omega), Int.gcd_comm b t, Int.sign_eq_one_of_pos hb, Int.one_mul, Int.natCast_ediv, show ((b.natAbs : Nat) : Int) = b by omega]
theorem divF_gcd {t b z : Int} (hb : 0 < b) (hs : b.natAbs.log2 < 9000) : divF (.int z) (.int ((Int.gcd t b : Nat) : Int)) = .ok (.val (.int (z / ((Int.gcd t b : Nat) : Int)))) :=
  divF_pos (by have : 0 < Int.gcd t b := Nat.gcd_pos_of_pos_right _ (by omega)
               omega) (by simpa using gcd_fits (t := t) (by omega) hs)
end Pg
namespace Pg
open PySem L2 DL
@[simp] theorem ixF_q0 {q : Rat} : ixF (qD q) (.int 0) = .ok (.val (.int q.num)) := by simp [qD]
@[simp] theorem ixF_q1 {q : Rat} : ixF (qD q) (.int 1) = .ok (.val (.int (q.den : Int))) := by simp [qD]
@[simp] theorem lenF_q {q : Rat} : lenF [qD q] = .ok (.val (.int 2)) := by simp [qD]
@[simp] theorem ty_q {q : Rat} : tyD (qD q) = "tuple" := rfl
@[simp] theorem eqv_qq {p q : Rat} : (qD p).eqv (qD q) = decide (p = q) := by
  have e : p = q ↔ p.num = q.num ∧ p.den = q.den := ⟨fun h => by rw [h]; exact ⟨rfl, rfl⟩, fun h => Rat.ext h.1 h.2⟩
  have e2 : decide ((p.den : Int) = (q.den : Int)) = decide (p.den = q.den) := decide_eq_decide.mpr (by omega)
  simp [qD, PyData.eqv, PyData.eqvAll, e, Bool.beq_eq_decide_eq, e2]
@[simp] theorem eqF_qq {p q : Rat} : eqF (qD p) (qD q) = .ok (.val (.bool (decide (p = q)))) := by
  have h : SeqAt.shaped (qD p) = true := by simp [qD, SeqAt.shaped, PyData.canLay0, PyData.canLayAll0, PyData.depth, PyData.depthAll]
  have h' : SeqAt.shaped (qD q) = true := by simp [qD, SeqAt.shaped, PyData.canLay0, PyData.canLayAll0, PyData.depth, PyData.depthAll]
  simp [eqF, h, h']
@[simp] theorem neF_qq {p q : Rat} : neF (qD p) (qD q) = .ok (.val (.bool (!decide (p = q)))) := by
  have h : SeqAt.shaped (qD p) = true := by simp [qD, SeqAt.shaped, PyData.canLay0, PyData.canLayAll0, PyData.depth, PyData.depthAll]
  have h' : SeqAt.shaped (qD q) = true := by simp [qD, SeqAt.shaped, PyData.canLay0, PyData.canLayAll0, PyData.depth, PyData.depthAll]
  simp [neF, h, h']
end Pg
namespace Pg
open PySem L2 DL
@[simp] theorem isF_q {q : Rat} {n : Bool} : isF n (qD q) .none = .ok (.val (.bool n)) := by cases n <;> rfl
@[simp] theorem isF_nn {n : Bool} : isF n .none .none = .ok (.val (.bool (!n))) := by cases n <;> rfl
theorem qD_neg {q : Rat} : qD (-q) = .tuple [.int (0 - q.num), .int (q.den : Int)] := by simp [qD, neg_num, neg_den]
end Pg
namespace Pg
open PySem L2 DL
theorem sz_add2 {p q : Rat} {m n : Nat} (hp : Sz m p) (hq : Sz n q) : Sz (m + n + 1) (p + q) := by
  rw [add_divInt]
  have a := mul_lt_pow hp.1 (b := (q.den : Int)) (n := n) (by simpa using hq.2)
  have b := mul_lt_pow hq.1 (b := (p.den : Int)) (n := m) (by simpa using hp.2)
  have c := mul_lt_pow (a := (p.den : Int)) (b := (q.den : Int)) (m := m) (n := n) (by simpa using hp.2) (by simpa using hq.2)
  rw [Nat.add_comm n m] at b
  exact sz_divInt (den_mul_ne p q) (add_lt_pow a b) (Nat.lt_of_lt_of_le c (Nat.pow_le_pow_right (by decide) (by omega)))
theorem mul_in2 {a b : Int} {m n : Nat} (h0 : 0 < m) (h1 : 0 < n) (h : m + n ≤ 60000000) (ha : a.natAbs < 2 ^ m) (hb : b.natAbs < 2 ^ n) : mulF (.int a) (.int b) = .ok (.val (.int (a * b))) := mulF_ok' (mulOk_pow h0 h1 ha hb (by omega))
theorem log_mul2 {a b : Int} {m n : Nat} (h0 : 0 < m) (h : m + n ≤ 8999) (ha : a.natAbs < 2 ^ m) (hb : b.natAbs < 2 ^ n) : (a * b).natAbs.log2 < 9000 := Nat.lt_trans (log2_lt (k := m + n) (by omega) (mul_lt_pow ha hb)) (by omega)
theorem plus_q2 {p q : Rat} {m n : Nat} (h0 : 0 < m) (h1 : 0 < n) (h : m + n ≤ 8999) (hp : Sz m p) (hq : Sz n q) : d_plus [.val (qD p), .val (qD q)] = .ok (.val (qD (p + q))) := by
  have hn : m + n ≤ 60000000 := by omega
  have hn' : n + m ≤ 60000000 := by omega
  have pd : (p.den : Int).natAbs < 2 ^ m := by simpa using hp.2
  have qd : (q.den : Int).natAbs < 2 ^ n := by simpa using hq.2
  rw [add_divInt]
  simp [d_plus, mDef, b_plus, start0, mul_in2 h0 h1 hn hp.1 qd, mul_in2 h1 h0 hn' hq.1 pd, mul_in2 h0 h1 hn pd qd]
  rw [ratio_ok (den_mul_ne p q) (log_mul2 h0 h pd qd)]
  simp
/-- the sum -/
def sumQ : List Rat → Rat
  | [] => 0
  | q :: qs => q + sumQ qs
theorem sumQ_append (a b : List Rat) : sumQ (a ++ b) = sumQ a + sumQ b := by
  induction a with
  | nil => simp [sumQ, Rat.zero_add]
  | cons q qs ih => simp only [List.cons_append, sumQ, ih]; grind
theorem sumQ_reverse (a : List Rat) : sumQ a.reverse = sumQ a := by
  induction a with
  | nil => rfl
  | cons q qs ih => simp only [List.reverse_cons, sumQ_append, ih, sumQ]; grind
theorem sz_sum {n : Nat} : ∀ {qs : List Rat}, (∀ q ∈ qs, Sz n q) → Sz (1 + qs.length * (n + 1)) (sumQ qs)
  | [], _ => by simp [sumQ, Sz]
  | q :: qs, h => by
    have a := sz_sum (n := n) (qs := qs) fun q hq => h q (List.mem_cons_of_mem _ hq)
    have b := sz_add2 (h q List.mem_cons_self) a
    refine b.mono ?_
    rw [List.length_cons, Nat.succ_mul]
    omega
theorem total_loop {n : Nat} (hn : 0 < n) (L : Option Slot) : ∀ {qs : List Rat} {m : Nat} {acc : Rat} (o : Option Slot), (∀ q ∈ qs, Sz n q) → 0 < m → m + qs.length * (n + 1) ≤ 8999 → Sz m acc →
    ∃ o', loopO (mgN 2) (mFrz 1 (mAsg 1 (mCall Pg.d_plus (mACons (mVar 1) (mACons (mVar 2) mANil))))) (qs.map qD) [L, some (.val (qD acc)), o] = .nx [L, some (.val (qD (acc + sumQ qs))), o']
  | [], m, acc, o, _, _, _, _ => ⟨o, by simp [sumQ, Rat.add_zero]⟩
  | q :: qs, m, acc, o, h, h0, h1, ha => by
    rw [List.length_cons, Nat.succ_mul] at h1
    have hq := h q List.mem_cons_self
    have e := plus_q2 h0 hn (by omega) ha hq
    obtain ⟨o', e'⟩ := total_loop hn L (qs := qs) (m := m + n + 1) (acc := acc + q) (some (.val (qD q))) (fun q hq => h q (List.mem_cons_of_mem _ hq)) (by omega) (by omega) (sz_add2 ha hq)
    refine ⟨o', ?_⟩
    have es : acc + sumQ (q :: qs) = acc + q + sumQ qs := by simp only [sumQ]; grind
    rw [es, ← e']
    simp [frz, e]
theorem qD_int (a : Int) : qD (a : Rat) = .tuple [.int a, .int 1] := rfl
/-- total, of a list that is kept or lent -/
theorem total_q {n : Nat} {qs : List Rat} {s : Slot} (hs : s = .val (.list (qs.map qD)) ∨ s = .bor (.list (qs.map qD)) ∨ s = .val (.tuple (qs.map qD))) (hn : 0 < n) (h : ∀ q ∈ qs, Sz n q) (hl : 1 + qs.length * (n + 1) ≤ 8999) : d_total [s] = .ok (.val (qD (sumQ qs))) := by
  obtain ⟨o', e⟩ := total_loop hn (some s) (m := 1) (acc := 0) none h (by decide) hl ⟨by decide, by decide⟩
  rw [Rat.zero_add] at e
  have e0 : PyData.tuple [.int 0, .int 1] = qD 0 := rfl
  rcases hs with rfl | rfl | rfl <;> simp [d_total, mDef, b_total, start0, fits_of, e0, e]
end Pg
namespace Pg
open PySem L2 DL
@[simp] theorem seqOf_q {q : Rat} : seqOf (qD q) = .ok [.int q.num, .int (q.den : Int)] := by simp [qD]
end Pg
namespace Pg
open PySem L2 DL
theorem can_qs : ∀ qs : List Rat, PyData.canLayAll0 (qs.map qD) = true
  | [] => by simp [PyData.canLayAll0]
  | q :: qs => by simp [PyData.canLayAll0, qD, PyData.canLay0, can_qs qs]
theorem depth_qs : ∀ qs : List Rat, PyData.depthAll (qs.map qD) ≤ 1
  | [] => by simp [PyData.depthAll]
  | q :: qs => by
    have := depth_qs qs
    simp [PyData.depthAll, qD, PyData.depth]
    omega
theorem shaped_qs (qs : List Rat) : SeqAt.shaped (.list (qs.map qD)) = true := by
  have := depth_qs qs
  have h : PyData.depthAll (qs.map qD) + 1 ≤ 64 := by omega
  simp [SeqAt.shaped, PyData.canLay0, can_qs qs, PyData.depth]
  omega
end Pg
set_option exponentiation.threshold 20000
/-! DR3: fractions as text -/
namespace Pg
open PySem L2 DL TL
/-- str(i) -/
def iS (i : Int) : Str := Str.ofString (toString i)
abbrev tn (n : Nat) : Str := iS (n : Int)
theorem tl_tn (n : Nat) : tl (tn n) = numL n := tl_num n
theorem strF_iS {i : Int} (h : i.natAbs.log2 < 1920) : strF [.int i] = .ok (.val (.str (iS i))) := strF_int h
theorem tl_neg (n : Nat) : tl (Str.ofString (toString (-((n + 1 : Nat) : Int)))) = 45 :: numL (n + 1) := by
  rw [show toString (-((n + 1 : Nat) : Int)) = "-" ++ toString ((n + 1 : Nat) : Int) from rfl, tl_ofString, String.toList_append, List.map_append, ← tl_ofString, ← tl_ofString, tl_num]
  rfl
theorem tl_int (i : Int) : tl (iS i) = (if i < 0 then [45] else []) ++ numL i.natAbs := by
  by_cases h : i < 0
  · obtain ⟨n, rfl⟩ : ∃ n : Nat, i = -((n + 1 : Nat) : Int) := ⟨i.natAbs - 1, by omega⟩
    unfold iS
    rw [tl_neg, if_pos h, show (-((n + 1 : Nat) : Int)).natAbs = n + 1 by omega]
    rfl
  · obtain ⟨n, rfl⟩ : ∃ n : Nat, i = (n : Int) := ⟨i.natAbs, by omega⟩
    unfold iS
    rw [tl_num, if_neg h]
    rfl
theorem len_int {i : Int} {k : Nat} (hk : 0 < k) (h : i.natAbs < 10 ^ k) : (iS i).length ≤ k + 1 := by
  rw [len_tl, tl_int, List.length_append]
  have := numL_len hk h
  split <;> simp <;> omega
theorem log_10 {n : Nat} (h : n < 10 ^ 500) : n.log2 < 1920 := Nat.lt_trans (log2_lt (k := 1700) (by decide) (Nat.lt_trans h (by decide))) (by decide)
/-- a fraction's text -/
def showQ (q : Rat) : Str := if q.den = 1 then iS q.num else iS q.num ++ "/" ++ iS (q.den : Int)
theorem show_q {q : Rat} (hn : q.num.natAbs < 10 ^ 500) (hd : q.den < 10 ^ 500) : d_show_ratio [.val (qD q)] = .ok (.val (.str (showQ q))) := by
  have l1 := len_int (by decide) hn
  have l2 := len_int (i := (q.den : Int)) (k := 500) (by decide) (by simpa using hd)
  have s1 := strF_iS (log_10 hn)
  have s2 := strF_iS (i := (q.den : Int)) (log_10 (by simpa using hd))
  have l3 : (iS q.num ++ ("/" : Str)).length ≤ 600 := by
    rw [len_tl, tl_append, List.length_append, ← len_tl]
    have : (tl ("/" : Str)).length = 1 := by decide
    omega
  have a1 := addF_str (x := iS q.num) (y := "/") (by
    have : ("/" : Str).length = 1 := by decide
    omega)
  have a2 := addF_str (x := iS q.num ++ ("/" : Str)) (y := iS (q.den : Int)) (by omega)
  unfold showQ
  by_cases h : q.den = 1
  · have h' : (q.den : Int) = 1 := by omega
    simp [d_show_ratio, mDef, b_show_ratio, start0, h', s1]
    simp [h]
  · have h' : ¬ (q.den : Int) = 1 := by omega
    simp [d_show_ratio, mDef, b_show_ratio, start0, h', s1, s2, a1, a2]
    simp [h]
/-! reading -/
theorem tl_cut1 (z : Str) : tl (cutS z (some 1) none) = (tl z).drop 1 := by
  have e : HT.sIx z.length 0 (some 1) = min 1 z.length := by
    unfold HT.sIx
    simp only
    rw [if_neg (by omega)]
    rfl
  unfold cutS
  rw [e, HT.sIx_none]
  show ((tl z).drop (min 1 z.length)).take (z.length - min 1 z.length) = _
  rw [len_tl]
  rcases Nat.le_total 1 (tl z).length with q | q
  · rw [Nat.min_eq_left q, ← List.length_drop, List.take_length]
  · rw [Nat.min_eq_right q, List.drop_length, List.drop_of_length_le q, List.take_nil]
theorem starts_iff {z y : Str} (hy : tl y ≠ []) : Txt.startswith z y = pre (tl y) (tl z) := by
  have h := at_iff (x := z) (y := y) hy 0
  rw [List.drop_zero] at h
  rw [Bool.eq_iff_iff, ← h]
  show (decide (0 + y.length ≤ z.length) && Builtin.Str.subAt z y 0) = true ↔ _
  rw [Bool.and_eq_true, decide_eq_true_iff]
  exact Iff.rfl
theorem tl_minus : tl ("-" : Str) = [45] := by decide
theorem tl_slash : tl ("/" : Str) = [47] := by decide
theorem split_none {z : Str} (h : 47 ∉ tl z) : Txt.split z "/" = [z] := by
  refine map_tl_inj ?_
  rw [split_spl _ _ (by rw [tl_slash]; simp) (kind_ok (by decide +kernel)), tl_slash, spl_last1 h]
  rfl
theorem split_two {a b : Str} (ha : 47 ∉ tl a) (hb : 47 ∉ tl b) : Txt.split (a ++ "/" ++ b) "/" = [a, b] := by
  refine map_tl_inj ?_
  rw [split_spl _ _ (by rw [tl_slash]; simp) (kind_ok (by decide +kernel)), tl_append, tl_append, tl_slash, List.append_assoc, spl_part1 ha, spl_last1 hb]
  rfl
theorem fig_in : ∀ c : Nat, 48 ≤ c → c ≤ 57 → strIn ⟨#[c]⟩ "0123456789" = true := by
  intro c h1 h2
  have : c = 48 ∨ c = 49 ∨ c = 50 ∨ c = 51 ∨ c = 52 ∨ c = 53 ∨ c = 54 ∨ c = 55 ∨ c = 56 ∨ c = 57 := by omega
  rcases this with h | h | h | h | h | h | h | h | h | h <;> subst h <;> decide +kernel
theorem number_of_num {n : Nat} (h : n < 10 ^ 30) : d_number_of [.val (.str (tn n))] = .ok (.val (.int (n : Int))) := by
  have hl : (tn n).length ≤ 30 := by rw [len_tl, tl_tn]; exact numL_len (by decide) h
  have hl0 : 1 ≤ (tn n).length := by
    rw [len_tl, tl_tn]
    exact List.length_pos_iff.mpr (numL_ne n)
  have e1 := lenF_str (z := tn n) (by omega)
  have e2 := intSF_str (z := tn n) (n := (n : Int)) (int_num (by have := numL_len (k := 30) (by decide) h; omega)) (by omega)
  have e3 : ∃ o, loopO (mgN 1) (mIf (mTest (mB (inF true) (mR (mVar 1)) (mR (mC (.str "0123456789"))))) (mRaise ⟨.NoText, []⟩) mNext) (signs (tn n)) [some (.val (.str (tn n))), none] = .nx [some (.val (.str (tn n))), o] := by
    have hz : ∀ c ∈ tl (tn n), 48 ≤ c ∧ c ≤ 57 := fun c hc => by rw [tl_tn] at hc; exact numL_digits n c hc
    unfold signs
    show ∃ o, loopO _ _ ((tl (tn n)).map _) _ = _
    generalize tn n = z at hz
    generalize hc : tl z = cs at hz
    clear hc
    have : ∀ (cs : List Nat) (o : Option DL.Slot), (∀ c ∈ cs, 48 ≤ c ∧ c ≤ 57) → ∃ o', loopO (mgN 1) (mIf (mTest (mB (inF true) (mR (mVar 1)) (mR (mC (.str "0123456789"))))) (mRaise ⟨.NoText, []⟩) mNext) (cs.map fun c => PyData.str ⟨#[c]⟩) [some (.val (.str z)), o] = .nx [some (.val (.str z)), o'] := by
      intro cs
      induction cs with
      | nil => intro o _; exact ⟨o, rfl⟩
      | cons c cs ih =>
        intro o hz
        have hc := hz c List.mem_cons_self
        obtain ⟨o', e⟩ := ih (some (.val (.str ⟨#[c]⟩))) (fun d hd => hz d (List.mem_cons_of_mem _ hd))
        exact ⟨o', by simp [inF_str, fig_in c hc.1 hc.2, e]⟩
    exact this cs none hz
  obtain ⟨o, e3⟩ := e3
  have a1 : (1 : Int) ≤ ((tn n).length : Int) := by omega
  have a2 : ((tn n).length : Int) ≤ 30 := by omega
  simp [d_number_of, mDef, b_number_of, start0, e1, a1, a2, e3, e2]
/-- a fraction's text without its sign -/
def bodyS (a b : Nat) : Str := if b = 1 then tn a else tn a ++ "/" ++ tn b
theorem show_pos {q : Rat} (h : ¬ q.num < 0) : showQ q = bodyS q.num.natAbs q.den := by
  have e : (q.num.natAbs : Int) = q.num := by omega
  unfold showQ bodyS tn
  rw [e]
theorem tl_show_neg {q : Rat} (h : q.num < 0) : tl (showQ q) = 45 :: tl (bodyS q.num.natAbs q.den) := by
  have e : tl (iS q.num) = 45 :: tl (tn q.num.natAbs) := by rw [tl_int, if_pos h, tl_tn]; rfl
  unfold showQ bodyS
  split
  · exact e
  · rw [tl_append, tl_append, e, tl_append, tl_append]; rfl
theorem body_split (a b : Nat) : Txt.split (bodyS a b) "/" = if b = 1 then [tn a] else [tn a, tn b] := by
  have f : ∀ n, 47 ∉ tl (tn n) := fun n => by rw [tl_tn]; exact numL_free (by decide)
  unfold bodyS
  split
  · exact split_none (f a)
  · exact split_two (f a) (f b)
theorem body_len {a b : Nat} (ha : a < 10 ^ 500) (hb : b < 10 ^ 500) : (bodyS a b).length ≤ 1200 := by
  have f : ∀ n, n < 10 ^ 500 → (tl (tn n)).length ≤ 500 := fun n h => by rw [tl_tn]; exact numL_len (by decide) h
  have h1 := f a ha
  have h2 := f b hb
  rw [len_tl]
  unfold bodyS
  split
  · omega
  · rw [tl_append, tl_append, tl_slash, List.length_append, List.length_append]
    simp only [List.length_cons, List.length_nil]
    omega
theorem body_no_minus (a b : Nat) : Txt.startswith (bodyS a b) "-" = false := by
  rw [starts_iff (by rw [tl_minus]; simp), tl_minus]
  obtain ⟨c, r, e⟩ : ∃ c r, tl (tn a) = c :: r := by
    cases h : tl (tn a) with
    | nil => rw [tl_tn] at h; exact absurd h (numL_ne a)
    | cons c r => exact ⟨c, r, rfl⟩
  have hc : c ≠ 45 := by
    have := numL_digits a c (by rw [← tl_tn, e]; exact List.mem_cons_self)
    omega
  have e2 : ∃ r, tl (bodyS a b) = c :: r := by
    unfold bodyS
    split
    · exact ⟨_, e⟩
    · rw [tl_append, tl_append, e]; exact ⟨_, rfl⟩
  obtain ⟨r2, e2⟩ := e2
  rw [e2]
  exact pre_of_head [] r2 hc
theorem digits_ok {x : Str} (h : ∀ c ∈ tl x, c < 128) : PyData.strOk x = true := by
  unfold PyData.strOk
  rw [Array.all_eq_true_iff_forall_mem]
  intro c hc
  exact decide_eq_true (by have := h c (Array.mem_toList_iff.mpr hc); omega)
theorem body_sign (a b : Nat) : ∀ c ∈ tl (bodyS a b), c < 128 := by
  have f : ∀ n, ∀ c ∈ tl (tn n), c < 128 := fun n c h => by rw [tl_tn] at h; have := numL_digits n c h; omega
  intro c hc
  unfold bodyS at hc
  split at hc
  · exact f a c hc
  · rw [tl_append, tl_append, tl_slash] at hc
    simp only [List.mem_append, List.mem_singleton] at hc
    rcases hc with (hc | hc) | hc
    · exact f a c hc
    · omega
    · exact f b c hc
theorem show_ok (q : Rat) : PyData.strOk (showQ q) = true := by
  refine digits_ok fun c hc => ?_
  by_cases h : q.num < 0
  · rw [tl_show_neg h] at hc
    rcases List.mem_cons.mp hc with hc | hc
    · omega
    · exact body_sign _ _ c hc
  · rw [show_pos h] at hc
    exact body_sign _ _ c hc
theorem read_q {q : Rat} (hn : q.num.natAbs < 10 ^ 30) (hd : q.den < 10 ^ 30) : d_read_ratio [.val (.str (showQ q))] = .ok (.val (qD q)) := by
  have hn5 : q.num.natAbs < 10 ^ 500 := Nat.lt_trans hn (by decide)
  have hd5 : q.den < 10 ^ 500 := Nat.lt_trans hd (by decide)
  have hB := body_len hn5 hd5
  have sq := show_q hn5 hd5
  have n1 := number_of_num hn
  have n2 := number_of_num hd
  have ez : (PyData.strOk (showQ q)) = true := show_ok q
  have eb : PyData.strOk (bodyS q.num.natAbs q.den) = true := digits_ok (body_sign _ _)
  have sp := body_split q.num.natAbs q.den
  have hs : splitF (.str (bodyS q.num.natAbs q.den)) (.str "/") = .ok (.own (.list ((Txt.split (bodyS q.num.natAbs q.den) "/").map PyData.str))) := splitF_str (by decide) (by omega)
  rw [sp] at hs
  have cutb : q.num < 0 → cutS (showQ q) (some 1) none = bodyS q.num.natAbs q.den := fun h => ext_tl (by rw [tl_cut1, tl_show_neg h]; rfl)
  have neb : q.num < 0 → (bodyS q.num.natAbs q.den == showQ q) = false := fun h => by
    refine beq_eq_false_iff_ne.mpr fun e => ?_
    have e2 := congrArg (fun x => (tl x).length) e
    simp only [tl_show_neg h, List.length_cons] at e2
    omega
  have lz : (showQ q).length ≤ 10000 := by
    by_cases h : q.num < 0
    · rw [len_tl, tl_show_neg h, List.length_cons, ← len_tl]; omega
    · rw [show_pos h]; omega
  have stn : q.num < 0 → Txt.startswith (showQ q) "-" = true := fun h => by rw [starts_iff (by rw [tl_minus]; simp), tl_minus, tl_show_neg h]; rfl
  generalize hb : bodyS q.num.natAbs q.den = B at *
  generalize hzz : showQ q = Z at *
  by_cases h : q.num < 0
  · have ea : 0 - (q.num.natAbs : Int) = q.num := by omega
    have ne := neF_str eb ez
    rw [neb h] at ne
    by_cases h1 : q.den = 1
    · rw [if_pos h1] at hs
      have eq : PyData.tuple [.int q.num, .int 1] = qD q := by unfold qD; rw [h1]; rfl
      simp [d_read_ratio, mDef, b_read_ratio, start0, stn h, slF_str lz, cutb h, hs, frz, compR, n1, ne, ea, eq, sq, neF_str ez ez]
      done
    · rw [if_neg h1] at hs
      have eq : PyData.tuple [.int q.num, .int (q.den : Int)] = qD q := rfl
      simp [d_read_ratio, mDef, b_read_ratio, start0, stn h, slF_str lz, cutb h, hs, frz, compR, n1, n2, ne, ea, eq, sq, neF_str ez ez]
      done
  · have ez2 : Z = B := by rw [← hzz, ← hb]; exact show_pos h
    subst ez2
    have st := body_no_minus q.num.natAbs q.den
    rw [hb] at st
    have ea : (q.num.natAbs : Int) = q.num := by omega
    by_cases h1 : q.den = 1
    · rw [if_pos h1] at hs
      have eq : PyData.tuple [.int q.num, .int 1] = qD q := by unfold qD; rw [h1]; rfl
      simp [d_read_ratio, mDef, b_read_ratio, start0, st, hs, frz, compR, n1, neF_str eb eb, ea, eq, sq]
      done
    · rw [if_neg h1] at hs
      have eq : PyData.tuple [.int q.num, .int (q.den : Int)] = qD q := rfl
      simp [d_read_ratio, mDef, b_read_ratio, start0, st, hs, frz, compR, n1, n2, neF_str eb eb, ea, eq, sq]
      done
end Pg
namespace Pg
open PySem L2 DL
noncomputable def L_seen_places_1 : MS := (mApp 3 (mV (mTup (mCons (mV (mB addF (mR (mVar 4)) (mR (mTup (mCons (mV (mVar 8)) mNil))))) (mCons (mV (mB ixF (mR (mB ixF (mR (mVar 7)) (mR (mVar 8)))) (mR (mC (.int 0))))) (mCons (mV (mB ixF (mR (mB ixF (mR (mVar 7)) (mR (mVar 8)))) (mR (mC (.int 1))))) mNil))))))
noncomputable def C_seen_places_2 : MT := (mTest (mB neG (mR (mVar 3)) (mR (mLst mNil))))
noncomputable def L_seen_places_3 : MS := (mSeq (mPopG 3 (mgT 3 (mgCons (mgN 4) (mgCons (mgN 5) (mgCons (mgN 6) mgNil))))) (mSeq (mIf (mAnd (mTest (mVar 1)) (mOr (mTest (mB eqF (mR (mBi lenF (mCons (mR (mVar 2)) mNil))) (mR (mC (.int 64))))) (mTest (mB gtF (mR (mBi lenF (mCons (mR (mVar 4)) mNil))) (mR (mC (.int 12))))))) (mRaise ⟨.TooGreat, []⟩) mNext) (mSeq (mApp 2 (mV (mTup (mCons (mV (mVar 4)) (mCons (mV (mVar 5)) (mCons (mV (mVar 6)) mNil)))))) (mSeq (mAsg 7 (mCall Pg.d_branches (mACons (mVar 5) (mACons (mVar 6) mANil)))) (mFor (mgN 8) (mDwn (mV (mBi lenF (mCons (mR (mVar 7)) mNil)))) Pg.L_seen_places_1)))))
noncomputable def b_seen_places : MS := (mSeq (mAsg 2 (mLst mNil)) (mSeq (mAsg 3 (mLst (mCons (mV (mTup (mCons (mV (mTup mNil)) (mCons (mV (mVar 0)) (mCons (mV (mTup (mCons (mV (mTup mNil)) (mCons (mV (mTup mNil)) mNil)))) mNil))))) mNil))) (mSeq (mWhile Pg.C_seen_places_2 Pg.L_seen_places_3) (mRetN 2))))
noncomputable def d_seen_places : F := mDef 9 2 b_seen_places
noncomputable def L_first_places_1 : MS := (mIf (mTest (mB eqF (mR (mB ixF (mR (mVar 3)) (mR (mC (.int 0))))) (mR (mC (.str "move"))))) (mDropM (emSetd 1 (mCons (mV (mTup (mCons (mV (mB ixF (mR (mVar 3)) (mR (mC (.int 1))))) (mCons (mV (mB ixF (mR (mVar 3)) (mR (mC (.int 2))))) mNil)))) (mCons (mV (mTup (mCons (mV (mVar 2)) (mCons (mV (mVar 3)) (mCons (mV (mVar 4)) mNil))))) mNil)))) mNext)
noncomputable def b_first_places : MS := (mSeq (mAsg 1 mDict0) (mSeq (mFor (mgT 3 (mgCons (mgN 2) (mgCons (mgN 3) (mgCons (mgN 4) mgNil)))) (miV 0) Pg.L_first_places_1) (mRetN 1)))
noncomputable def d_first_places : F := mDef 5 1 b_first_places
noncomputable def L_rows_by_1 : MS := (mApp 1 (mV (mTup (mCons (mV (mB ixF (mR (mVar 2)) (mR (mC (.int 0))))) (mCons (mV (mB ixF (mR (mVar 2)) (mR (mC (.int 1))))) (mCons (mV (mCall Pg.d_words_of (mACons (mB ixF (mR (mVar 3)) (mR (mC (.int 1)))) mANil))) (mCons (mV (mB ixF (mR (mB ixF (mR (mVar 3)) (mR (mC (.int 2))))) (mR (mB subF (mR (mB ixF (mR (mVar 2)) (mR (mC (.int 0))))) (mR (mC (.int 1))))))) mNil)))))))
noncomputable def b_rows_by : MS := (mSeq (mAsg 1 (mLst mNil)) (mSeq (mFor (mgT 2 (mgCons (mgN 2) (mgCons (mgN 3) mgNil))) (miD pairD (mV (mCall Pg.d_first_places (mACons (mVar 0) mANil)))) Pg.L_rows_by_1) (mRetN 1)))
noncomputable def d_rows_by : F := mDef 4 1 b_rows_by
noncomputable def b_table_of : MS := (mRet (mCall Pg.d_rows_by (mACons (mCall Pg.d_seen_places (mACons (mVar 0) (mACons (mC (.bool false)) mANil))) mANil)))
noncomputable def d_table_of : F := mDef 1 1 b_table_of
noncomputable def L_ask_bounds_1 : MS := (mSeq (mFrz 6 (mAsg 8 (mComp [9] (mgN 9) (miV 6) (mTest (mB eqF (mR (mB ixF (mR (mVar 9)) (mR (mC (.int 0))))) (mR (mVar 7)))) (mV (mBi lenF (mCons (mR (mB ixF (mR (mVar 9)) (mR (mC (.int 2))))) mNil)))))) (mIf (mOr (mTest (mB gtF (mR (mBi lenF (mCons (mR (mVar 8)) mNil))) (mR (mC (.int 8))))) (mTest (mB gtF (mR (mBi sumF (mCons (mR (mVar 8)) mNil))) (mR (mC (.int 24)))))) (mRaise ⟨.TooGreat, []⟩) mNext))
noncomputable def L_ask_bounds_2 : MS := (mIf (mOr (mNot (mTest (mChain ltF ltF (mR (mB subF (mR (mC (.int 0))) (mR (mC (.int 1000000000000))))) (mR (mVar 4)) (mR (mC (.int 1000000000000)))))) (mTest (mB geF (mR (mVar 5)) (mR (mC (.int 1000)))))) (mRaise ⟨.TooGreat, []⟩) mNext)
noncomputable def L_ask_bounds_3 : MS := (mFor (mgT 2 (mgCons (mgN 4) (mgCons (mgN 5) mgNil))) (miQ (mV (mCall Pg.d_numbers_at (mACons (mVar 2) mANil)))) Pg.L_ask_bounds_2)
noncomputable def b_ask_bounds : MS := (mSeq (mFor (mgT 3 (mgCons (mgN 1) (mgCons (mgN 2) (mgCons (mgN 3) mgNil)))) (miV 0) Pg.L_ask_bounds_3) (mSeq (mAsg 6 (mCall Pg.d_rows_by (mACons (mVar 0) mANil))) (mFor (mgN 7) (miQ (mV (mTup (mCons (mV (mC (.int 1))) (mCons (mV (mC (.int 2))) mNil))))) Pg.L_ask_bounds_1)))
noncomputable def d_ask_bounds : F := mDef 10 1 b_ask_bounds
noncomputable def b_rows_of : MS := (mRet (mComp [2] (mgN 2) (miQ (mV (mCall Pg.d_table_of (mACons (mVar 0) mANil)))) (mTest (mB eqF (mR (mB ixF (mR (mVar 2)) (mR (mC (.int 0))))) (mR (mVar 1)))) (mV (mVar 2))))
noncomputable def d_rows_of : F := mDef 3 2 b_rows_of
noncomputable def L_is_plan_1 : MS := (mIf (mOr (mTest (mB (inG true) (mR (mB ixF (mR (mVar 4)) (mR (mC (.int 1))))) (mR (mVar 2)))) (mNot (mTest (mCall Pg.d_are_shares (mACons (mB gxF (mR (mVar 2)) (mR (mB ixF (mR (mVar 4)) (mR (mC (.int 1)))))) (mACons (mBi lenF (mCons (mR (mB ixF (mR (mVar 4)) (mR (mC (.int 2))))) mNil)) mANil)))))) (mRet (mC (.bool false))) mNext)
noncomputable def b_is_plan : MS := (mSeq (mAsg 3 (mCall Pg.d_rows_of (mACons (mVar 0) (mACons (mVar 1) mANil)))) (mSeq (mIf (mOr (mNot (mTest (mIsi "dict" (mR (mVar 2))))) (mTest (mB neF (mR (mBi lenG (mCons (mR (mVar 2)) mNil))) (mR (mBi lenF (mCons (mR (mVar 3)) mNil)))))) (mRet (mC (.bool false))) mNext) (mSeq (mFrz 3 (mFor (mgN 4) (miV 3) Pg.L_is_plan_1)) (mRet (mC (.bool true))))))
noncomputable def d_is_plan : F := mDef 5 3 b_is_plan
noncomputable def b_ask_plan : MS := (mIf (mNot (mTest (mCall Pg.d_is_plan (mACons (mVar 0) (mACons (mVar 1) (mACons (mVar 2) mANil)))))) (mRaise ⟨.NoPlan, []⟩) mNext)
noncomputable def d_ask_plan : F := mDef 3 3 b_ask_plan
noncomputable def L_folded_deal_1 : MS := (mSetI 2 (mR (mVar 4)) (mV (mCall Pg.d_plus (mACons (mGet (mR (mVar 2)) (mCons (mV (mVar 4)) (mCons (mV (mTup (mCons (mV (mC (.int 0))) (mCons (mV (mC (.int 1))) mNil)))) mNil))) (mACons (mVar 3) mANil)))))
noncomputable def b_folded_deal : MS := (mSeq (mAsg 2 mDict0) (mSeq (mFor (mgT 2 (mgCons (mgN 3) (mgCons (mgN 4) mgNil))) (miV 1) Pg.L_folded_deal_1) (mSeq (mIf (mTest (mB eqF (mR (mBi lenG (mCons (mR (mVar 2)) mNil))) (mR (mC (.int 1))))) (mRet (mB ixF (mR (mBi listG (mCons (mR (mVar 2)) mNil))) (mR (mC (.int 0))))) mNext) (mFrz 2 (mRet (mTup (mCons (mV (mC (.str "deal"))) (mCons (mV (mVar 0)) (mCons (mV (mBi tupleF (mCons (mR (mComp [4] (mgN 4) (miD (·.1) (mV (mVar 2))) mYes (mV (mTup (mCons (mV (mB gxF (mR (mVar 2)) (mR (mVar 4)))) (mCons (mV (mVar 4)) mNil)))))) mNil))) mNil)))))))))
noncomputable def d_folded_deal : F := mDef 5 2 b_folded_deal
noncomputable def L_folded_1 (rc : F) : MS := (mApp 1 (mV (mTup (mCons (mV (mCall Pg.d_times (mACons (mVar 2) (mACons (mVar 5) mANil)))) (mCons (mV (mVar 6)) mNil)))))
noncomputable def L_folded_2 (rc : F) : MS := (mSeq (mAsg 4 (mCall rc (mACons (mVar 3) mANil))) (mIf (mTest (mB eqF (mR (mB ixF (mR (mVar 4)) (mR (mC (.int 0))))) (mR (mC (.str "deal"))))) (mFor (mgT 2 (mgCons (mgN 5) (mgCons (mgN 6) mgNil))) (miQ (mV (mB ixF (mR (mVar 4)) (mR (mC (.int 2)))))) (Pg.L_folded_1 rc)) (mFrz 4 (mApp 1 (mV (mTup (mCons (mV (mVar 2)) (mCons (mV (mVar 4)) mNil))))))))
noncomputable def b_folded (rc : F) : MS := (mSeq (mIf (mTest (mB eqF (mR (mB ixF (mR (mVar 0)) (mR (mC (.int 0))))) (mR (mC (.str "end"))))) (mRetN 0) mNext) (mSeq (mIf (mTest (mB eqF (mR (mB ixF (mR (mVar 0)) (mR (mC (.int 0))))) (mR (mC (.str "move"))))) (mRet (mTup (mCons (mV (mC (.str "move"))) (mCons (mV (mB ixF (mR (mVar 0)) (mR (mC (.int 1))))) (mCons (mV (mB ixF (mR (mVar 0)) (mR (mC (.int 2))))) (mCons (mV (mBi tupleF (mCons (mR (mComp [7, 3] (mgT 2 (mgCons (mgN 7) (mgCons (mgN 3) mgNil))) (miQ (mV (mB ixF (mR (mVar 0)) (mR (mC (.int 3)))))) mYes (mV (mTup (mCons (mV (mVar 7)) (mCons (mV (mCall rc (mACons (mVar 3) mANil))) mNil)))))) mNil))) mNil)))))) mNext) (mSeq (mAsg 1 (mLst mNil)) (mSeq (mFor (mgT 2 (mgCons (mgN 2) (mgCons (mgN 3) mgNil))) (miQ (mV (mB ixF (mR (mVar 0)) (mR (mC (.int 2)))))) (Pg.L_folded_2 rc)) (mFrz 1 (mRet (mCall Pg.d_folded_deal (mACons (mB ixF (mR (mVar 0)) (mR (mC (.int 1)))) (mACons (mVar 1) mANil)))))))))
noncomputable def d_folded : Nat → F
  | 0 => fun _ => .stuck
  | n + 1 => mDef 8 1 (b_folded (d_folded n))
noncomputable def b_is_place : MS := (mSeq (mIf (mOr (mNot (mTest (mIsi "tuple" (mR (mVar 0))))) (mOr (mTest (mB ltF (mR (mBi lenF (mCons (mR (mVar 0)) mNil))) (mR (mC (.int 2))))) (mNot (mTest (mIsi "str" (mR (mB ixF (mR (mVar 0)) (mR (mC (.int 0)))))))))) (mRet (mC (.bool false))) mNext) (mSeq (mIf (mTest (mB eqF (mR (mB ixF (mR (mVar 0)) (mR (mC (.int 0))))) (mR (mC (.str "end"))))) (mRet (mAndV (mB eqF (mR (mBi lenF (mCons (mR (mVar 0)) mNil))) (mR (mC (.int 2)))) (mCall Pg.d_is_ratio (mACons (mB ixF (mR (mVar 0)) (mR (mC (.int 1)))) mANil)))) mNext) (mSeq (mIf (mTest (mB eqF (mR (mB ixF (mR (mVar 0)) (mR (mC (.int 0))))) (mR (mC (.str "deal"))))) (mSeq (mIf (mOr (mTest (mB neF (mR (mBi lenF (mCons (mR (mVar 0)) mNil))) (mR (mC (.int 3))))) (mOr (mNot (mTest (mCall Pg.d_is_name (mACons (mB ixF (mR (mVar 0)) (mR (mC (.int 1)))) mANil)))) (mNot (mTest (mCall Pg.d_are_pairs (mACons (mB ixF (mR (mVar 0)) (mR (mC (.int 2)))) (mACons (mC (.int 64)) mANil))))))) (mRet (mC (.bool false))) mNext) (mRet (mBi allF (mCons (mR (mComp [2, 3] (mgT 2 (mgCons (mgN 2) (mgCons (mgN 3) mgNil))) (miQ (mV (mB ixF (mR (mVar 0)) (mR (mC (.int 2)))))) mYes (mV (mCall Pg.d_is_ratio (mACons (mVar 2) mANil))))) mNil)))) mNext) (mSeq (mIf (mOr (mTest (mB neF (mR (mB ixF (mR (mVar 0)) (mR (mC (.int 0))))) (mR (mC (.str "move"))))) (mOr (mTest (mB neF (mR (mBi lenF (mCons (mR (mVar 0)) mNil))) (mR (mC (.int 4))))) (mOr (mNot (mTest (mCall Pg.d_is_whole (mACons (mB ixF (mR (mVar 0)) (mR (mC (.int 1)))) mANil)))) (mTest (mB (inF true) (mR (mB ixF (mR (mVar 0)) (mR (mC (.int 1))))) (mR (mTup (mCons (mV (mC (.int 1))) (mCons (mV (mC (.int 2))) mNil))))))))) (mRet (mC (.bool false))) mNext) (mSeq (mIf (mOr (mNot (mTest (mCall Pg.d_is_name (mACons (mB ixF (mR (mVar 0)) (mR (mC (.int 2)))) mANil)))) (mNot (mTest (mCall Pg.d_are_pairs (mACons (mB ixF (mR (mVar 0)) (mR (mC (.int 3)))) (mACons (mC (.int 6)) mANil)))))) (mRet (mC (.bool false))) mNext) (mSeq (mAsg 1 (mComp [4, 3] (mgT 2 (mgCons (mgN 4) (mgCons (mgN 3) mgNil))) (miQ (mV (mB ixF (mR (mVar 0)) (mR (mC (.int 3)))))) mYes (mV (mVar 4)))) (mFrz 1 (mRet (mAndV (mBi allF (mCons (mR (mComp [4] (mgN 4) (miV 1) mYes (mV (mCall Pg.d_is_name (mACons (mVar 4) mANil))))) mNil)) (mB eqF (mR (mU lenSetF (mR (mVar 1)))) (mR (mBi lenF (mCons (mR (mVar 1)) mNil)))))))))))))
noncomputable def d_is_place : F := mDef 5 1 b_is_place
noncomputable def L_show_plan_1 : MS := (mApp 3 (mV (mM1 joinF (mR (mC (.str " "))) (mR (mB addF (mR (mLst (mCons (mV (mVar 5)) mNil))) (mR (mComp [8] (mgN 8) (miQ (mV (mB gxF (mR (mVar 2)) (mR (mVar 5))))) mYes (mV (mCall Pg.d_show_ratio (mACons (mVar 8) mANil))))))))))
noncomputable def b_show_plan : MS := (mSeq (mDrop (mCall Pg.d_ask_plan (mACons (mVar 0) (mACons (mVar 1) (mACons (mVar 2) mANil))))) (mSeq (mAsg 3 (mLst mNil)) (mSeq (mFor (mgT 4 (mgCons (mgN 4) (mgCons (mgN 5) (mgCons (mgN 6) (mgCons (mgN 7) mgNil))))) (miQ (mV (mCall Pg.d_rows_of (mACons (mVar 0) (mACons (mVar 1) mANil))))) Pg.L_show_plan_1) (mRet (mM1 joinF (mR (mC (.str "; "))) (mR (mVar 3)))))))
noncomputable def d_show_plan : F := mDef 9 3 b_show_plan
noncomputable def L_read_plan_1 : MS := (mSeq (mAsg 5 (mM1 splitF (mR (mVar 4)) (mR (mC (.str " "))))) (mSeq (mIf (mOr (mNot (mTest (mCall Pg.d_is_name (mACons (mB ixF (mR (mVar 5)) (mR (mC (.int 0)))) mANil)))) (mOr (mTest (mB (inG false) (mR (mB ixF (mR (mVar 5)) (mR (mC (.int 0))))) (mR (mVar 3)))) (mTest (mB ltF (mR (mBi lenF (mCons (mR (mVar 5)) mNil))) (mR (mC (.int 2))))))) (mRaise ⟨.NoText, []⟩) mNext) (mSetI 3 (mR (mB ixF (mR (mVar 5)) (mR (mC (.int 0))))) (mV (mBi tupleF (mCons (mR (mComp [6] (mgN 6) (miQ (mV (mSl (mR (mVar 5)) (mO (mR (mC (.int 1)))) mO0))) mYes (mV (mCall Pg.d_read_ratio (mACons (mVar 6) mANil))))) mNil))))))
noncomputable def b_read_plan : MS := (mSeq (mIf (mNot (mTest (mIsi "str" (mR (mVar 2))))) (mRaise ⟨.NoText, []⟩) mNext) (mSeq (mAsg 3 mDict0) (mSeq (mIf (mTest (mB neF (mR (mVar 2)) (mR (mC (.str ""))))) (mFor (mgN 4) (miQ (mV (mM1 splitF (mR (mVar 2)) (mR (mC (.str "; ")))))) Pg.L_read_plan_1) mNext) (mSeq (mDrop (mCall Pg.d_ask_plan (mACons (mVar 0) (mACons (mVar 1) (mACons (mVar 3) mANil))))) (mRetN 3)))))
noncomputable def d_read_plan : F := mDef 7 3 b_read_plan
noncomputable def L_last_words_1 : MS := (mSetI 3 (mR (mVar 9)) (mV (mC (.bool true))))
noncomputable def L_last_words_2 : MS := (mIf (mTest (mB eqF (mR (mVar 5)) (mR (mVar 1)))) (mSeq (mFor (mgN 9) (miV 8) Pg.L_last_words_1) (mIf (mTest (mB eqF (mR (mVar 6)) (mR (mVar 2)))) (mAsg 4 (mVar 7)) mNext)) mNext)
noncomputable def b_last_words : MS := (mSeq (mAsg 3 mDict0) (mSeq (mAsg 4 (mTup mNil)) (mSeq (mFor (mgT 4 (mgCons (mgN 5) (mgCons (mgN 6) (mgCons (mgN 7) (mgCons (mgN 8) mgNil))))) (miV 0) Pg.L_last_words_2) (mRet (mComp [10] (mgN 10) (miV 4) (mTest (mB (inG true) (mR (mTup (mCons (mV (mVar 2)) (mCons (mV (mVar 10)) mNil)))) (mR (mVar 3)))) (mV (mVar 10)))))))
noncomputable def d_last_words : F := mDef 11 3 b_last_words
noncomputable def L_words_there_1 : MS := (mIf (mAnd (mTest (mB eqF (mR (mVar 3)) (mR (mVar 1)))) (mTest (mB eqF (mR (mVar 4)) (mR (mVar 2))))) (mRetN 5) mNext)
noncomputable def b_words_there : MS := (mSeq (mFor (mgT 4 (mgCons (mgN 3) (mgCons (mgN 4) (mgCons (mgN 5) (mgCons (mgN 6) mgNil))))) (miQ (mV (mCall Pg.d_table_of (mACons (mVar 0) mANil)))) Pg.L_words_there_1) (mRet (mTup mNil)))
noncomputable def d_words_there : F := mDef 7 3 b_words_there
noncomputable def b_put_at (rc : F) : MS := (mSeq (mIf (mTest (mB eqF (mR (mBi lenF (mCons (mR (mVar 1)) mNil))) (mR (mC (.int 0))))) (mRet (mTup (mCons (mV (mC (.str "end"))) (mCons (mV (mVar 2)) mNil)))) mNext) (mSeq (mAsg 3 (mBi listF (mCons (mR (mB ixF (mR (mVar 0)) (mR (mU negF (mR (mC (.int 1))))))) mNil))) (mSeq (mAsgG (mgT 2 (mgCons (mgN 4) (mgCons (mgN 5) mgNil))) (mV (mB ixF (mR (mVar 3)) (mR (mB ixF (mR (mVar 1)) (mR (mC (.int 0)))))))) (mSeq (mSetI 3 (mR (mB ixF (mR (mVar 1)) (mR (mC (.int 0))))) (mV (mTup (mCons (mV (mVar 4)) (mCons (mV (mCall rc (mACons (mVar 5) (mACons (mSl (mR (mVar 1)) (mO (mR (mC (.int 1)))) mO0) (mACons (mVar 2) mANil))))) mNil))))) (mRet (mB addF (mR (mSl (mR (mVar 0)) mO0 (mO (mR (mU negF (mR (mC (.int 1)))))))) (mR (mTup (mCons (mV (mBi tupleF (mCons (mR (mVar 3)) mNil))) mNil)))))))))
noncomputable def d_put_at : Nat → F
  | 0 => fun _ => .stuck
  | n + 1 => mDef 6 3 (b_put_at (d_put_at n))
noncomputable def L_places_of_1 : MS := (mApp 2 (mV (mTup (mCons (mV (mB addF (mR (mVar 3)) (mR (mTup (mCons (mV (mVar 6)) mNil))))) (mCons (mV (mB ixF (mR (mVar 5)) (mR (mVar 6)))) mNil)))))
noncomputable def C_places_of_2 : MT := (mTest (mB neF (mR (mVar 2)) (mR (mLst mNil))))
noncomputable def L_places_of_3 : MS := (mSeq (mPopG 2 (mgT 2 (mgCons (mgN 3) (mgCons (mgN 4) mgNil)))) (mSeq (mApp 1 (mV (mTup (mCons (mV (mVar 3)) (mCons (mV (mVar 4)) mNil))))) (mSeq (mAsg 5 (mCall Pg.d_parts_of (mACons (mVar 4) mANil))) (mFor (mgN 6) (mDwn (mV (mBi lenF (mCons (mR (mVar 5)) mNil)))) Pg.L_places_of_1))))
noncomputable def b_places_of : MS := (mSeq (mAsg 1 (mLst mNil)) (mSeq (mAsg 2 (mLst (mCons (mV (mTup (mCons (mV (mTup mNil)) (mCons (mV (mVar 0)) mNil)))) mNil))) (mSeq (mWhile Pg.C_places_of_2 Pg.L_places_of_3) (mRetN 1))))
noncomputable def d_places_of : F := mDef 7 1 b_places_of
noncomputable def C_is_game_1 : MT := (mTest (mB neG (mR (mVar 1)) (mR (mLst mNil))))
noncomputable def L_is_game_2 : MS := (mSeq (mPopG 1 (mgN 2)) (mSeq (mFrz 2 (mIf (mNot (mTest (mCall Pg.d_is_place (mACons (mVar 2) mANil)))) (mRet (mC (.bool false))) mNext)) (mFrz 2 (mAsg 1 (mB addF (mR (mVar 1)) (mR (mCall Pg.d_parts_of (mACons (mVar 2) mANil))))))))
noncomputable def b_is_game : MS := (mSeq (mAsg 1 (mLst (mCons (mV (mVar 0)) mNil))) (mSeq (mWhile Pg.C_is_game_1 Pg.L_is_game_2) (mRet (mC (.bool true)))))
noncomputable def d_is_game : F := mDef 3 1 b_is_game
end Pg
/-! DV: loops in plain Lean -/
namespace DL
open PySem L2
/-- m ends well with P -/
def Nx (o : Out) (P : DEnv → Prop) : Prop := ∃ δ, o = .nx δ ∧ P δ
theorem Nx.mono {o : Out} {P Q : DEnv → Prop} (h : Nx o P) (f : ∀ δ, P δ → Q δ) : Nx o Q := by
  obtain ⟨δ, e, p⟩ := h
  exact ⟨δ, e, f δ p⟩
theorem Nx.seq {m n : MS} {δ : DEnv} {P Q : DEnv → Prop} (h : Nx (m δ) P) (f : ∀ δ, P δ → Nx (n δ) Q) : Nx (mSeq m n δ) Q := by
  obtain ⟨δ', e, p⟩ := h
  rw [seq_nx e]
  exact f δ' p
theorem Nx.then {m n : MS} {δ : DEnv} {P : DEnv → Prop} {o : Out} (h : Nx (m δ) P) (f : ∀ δ, P δ → n δ = o) : mSeq m n δ = o := by
  obtain ⟨δ', e, p⟩ := h
  rw [seq_nx e]
  exact f δ' p
theorem Nx.thenP {m n : MS} {δ : DEnv} {P : DEnv → Prop} {T : Out → Prop} (h : Nx (m δ) P) (f : ∀ δ, P δ → T (n δ)) : T (mSeq m n δ) := by
  obtain ⟨δ', e, p⟩ := h
  rw [seq_nx e]
  exact f δ' p
theorem while_nx {c : MT} {b : MS} {I : Nat → DEnv → Prop} {Fin : DEnv → Prop}
    (h : ∀ k δ, I k δ → (c δ = .ok false ∧ Fin δ) ∨ (c δ = .ok true ∧ ∃ j, j < k ∧ Nx (b δ) (I j))) : ∀ (k : Nat) (δ : DEnv), I k δ → Nx (mWhile c b δ) Fin := by
  intro k
  induction k using Nat.strongRecOn with
  | _ k ih =>
    intro δ hi
    rw [mWhile_eq]
    rcases h k δ hi with ⟨e, f⟩ | ⟨e, j, hj, δ', e2, i2⟩
    · rw [e]; exact ⟨δ, rfl, f⟩
    · rw [e]
      show Nx (wgo (b δ) (mWhile c b)) Fin
      rw [e2]
      exact ih j hj δ' i2
theorem loop_ix {α : Type} {g : MG} {b : MS} {enc : α → PyData} : ∀ {xs : List α} {I : Nat → DEnv → Prop} {δ : DEnv}, (∀ (i : Nat) (hi : i < xs.length) δ, I i δ → ∃ δ1, g (enc xs[i]) δ = some δ1 ∧ Nx (b δ1) (I (i + 1))) → I 0 δ → Nx (loopO g b (xs.map enc) δ) (I xs.length)
  | [], _, δ, _, h0 => ⟨δ, rfl, h0⟩
  | x :: xs, I, δ, h, h0 => by
    obtain ⟨δ1, e1, δ2, e2, i2⟩ := h 0 (by simp) δ h0
    have := loop_ix (xs := xs) (I := fun i => I (i + 1)) (δ := δ2) (fun i hi δ hd => h (i + 1) (by simp; omega) δ hd) i2
    have e1' : g (enc x) δ = some δ1 := e1
    show Nx (loopO g b (enc x :: xs.map enc) δ) _
    simp only [loopO, e1', e2]
    exact this
theorem for_ix {α : Type} {g : MG} {it : ML} {b : MS} {enc : α → PyData} (xs : List α) (I : Nat → DEnv → Prop) {δ : DEnv} (hit : it δ = .ok (xs.map enc)) (h : ∀ (i : Nat) (hi : i < xs.length) δ, I i δ → ∃ δ1, g (enc xs[i]) δ = some δ1 ∧ Nx (b δ1) (I (i + 1))) (h0 : I 0 δ) : Nx (mFor g it b δ) (I xs.length) := by
  have := loop_ix h h0
  unfold mFor
  rw [hit]
  exact this
/-- a walk over 0 .. n-1 -/
theorem for_rng {g : MG} {it : ML} {b : MS} (n : Nat) (I : Nat → DEnv → Prop) {δ : DEnv} (hit : it δ = .ok (rng 0 n)) (h : ∀ (i : Nat) (hi : i < n) δ, I i δ → ∃ δ1, g (.int (i : Int)) δ = some δ1 ∧ Nx (b δ1) (I (i + 1))) (h0 : I 0 δ) : Nx (mFor g it b δ) (I n) := by
  have := for_ix (enc := fun i : Nat => .int (0 + (i : Int))) (List.range n) I (g := g) (it := it) (b := b) (δ := δ) hit (fun i hi δ hd => by
    have := h i (by simpa using hi) δ hd
    simpa using this) h0
  simpa using this
@[simp] theorem mgT_ap {n : Nat} {h : List PyData → DEnv → Option DEnv} {ds : List PyData} {δ : DEnv} : mgT n h (.tuple ds) δ = if ds.length = n then h ds δ else none := rfl
@[simp] theorem mgCons_ap {g : MG} {h : List PyData → DEnv → Option DEnv} {d : PyData} {ds : List PyData} {δ : DEnv} : mgCons g h (d :: ds) δ = (g d δ).bind (h ds) := rfl
@[simp] theorem mgNil_ap {δ : DEnv} : mgNil [] δ = some δ := rfl
/-- what may stand where a loop leaves its own -/
theorem any_of (o : Option DL.Slot) : ∃ o', o = o' := ⟨o, rfl⟩
end DL
/-! DW: dicts in plain Lean -/
namespace DL
open PySem L2
section
variable {α β : Type} [DecidableEq α] {enc : α → PyData} {f : β → PyData}
def encL (enc : α → PyData) (f : β → PyData) (L : List (α × β)) : List (PyData × PyData) := L.map fun x => (enc x.1, f x.2)
theorem encL_len {L : List (α × β)} : (encL enc f L).length = L.length := by simp [encL]
theorem dget_enc (hi : ∀ a b, kN (enc a) = kN (enc b) → a = b) (L : List (α × β)) (a : α) : dget (encL enc f L) (enc a) = (L.find? fun x => decide (x.1 = a)).map fun x => f x.2 := by
  unfold dget dgetN encL
  rw [List.find?_map, Option.map_map]
  have : ((fun p : PyData × PyData => decide (kN p.1 = kN (enc a))) ∘ fun x : α × β => (enc x.1, f x.2)) = fun x => decide (x.1 = a) := by
    funext x
    show decide (kN (enc x.1) = kN (enc a)) = _
    by_cases h : x.1 = a
    · simp [h]
    · rw [decide_eq_false h, decide_eq_false fun e => h (hi _ _ e)]
  rw [this]
  rfl
theorem find_none {L : List (α × β)} {a : α} (h : ∀ x ∈ L, x.1 ≠ a) : (L.find? fun x => decide (x.1 = a)) = none := by
  rw [List.find?_eq_none]
  intro x hx
  simpa using h x hx
theorem find_mem {L : List (α × β)} (hp : L.Pairwise fun x y => x.1 ≠ y.1) {x : α × β} (hx : x ∈ L) : (L.find? fun y => decide (y.1 = x.1)) = some x := by
  induction L with
  | nil => cases hx
  | cons y L ih =>
    rw [List.pairwise_cons] at hp
    rcases List.mem_cons.mp hx with rfl | hx
    · simp
    · rw [List.find?_cons_of_neg (by simpa using hp.1 x hx)]
      exact ih hp.2 hx
theorem dput_new (hi : ∀ a b, kN (enc a) = kN (enc b) → a = b) {L : List (α × β)} {a : α} {b : β} (h : ∀ x ∈ L, x.1 ≠ a) : dput (encL enc f L) (enc a) (f b) = encL enc f (L ++ [(a, b)]) := by
  unfold dput
  rw [dget_enc hi, find_none h]
  simp [encL]
theorem keyAt_enc {L : List (α × β)} {a : α} (ho : okKey (enc a) = true) (ht : ∀ x ∈ L, isTup (enc x.1) = isTup (enc a)) : keyAt (encL enc f L) (enc a) = true := by
  unfold keyAt
  rw [ho]
  simp only [kindOk, encL, List.all_map, Bool.true_and, List.all_eq_true]
  intro x hx
  simp [ht x hx]
end
/-! keys that are tuples of ints -/
theorem kNs_ints : ∀ w : List Int, kNs (w.map PyData.int) = w.map NestedKey.num
  | [] => rfl
  | i :: w => by simp [kNs, kN, kNs_ints w]
theorem isKeys_ints : ∀ w : List Int, isKeys (w.map PyData.int) = true
  | [] => rfl
  | i :: w => by simp [isKeys, isKey, isKeys_ints w]
theorem kN_ints {w u : List Int} (h : kN (.tuple (w.map PyData.int)) = kN (.tuple (u.map PyData.int))) : w = u := by
  have h' : NestedKey.tup (kNs (w.map PyData.int)) = NestedKey.tup (kNs (u.map PyData.int)) := h
  rw [kNs_ints, kNs_ints] at h'
  injection h' with h'
  exact (List.map_inj_right fun a b e => by injection e).mp h'
theorem depth_nums : ∀ w : List Int, NestedKey.depthAll (w.map NestedKey.num) = 0
  | [] => rfl
  | i :: w => by simp [NestedKey.depthAll, NestedKey.depth, depth_nums w]
theorem ok_ints (w : List Int) : okKey (.tuple (w.map PyData.int)) = true := by
  have e : kN (.tuple (w.map PyData.int)) = .tup (w.map NestedKey.num) := by
    show NestedKey.tup (kNs (w.map PyData.int)) = _
    rw [kNs_ints]
  unfold okKey
  rw [e]
  simp [isTup, isKey, isKeys_ints, NestedKey.depth, depth_nums, flatKey]
end DL
/-! DG: games as trees -/
namespace Pg
open PySem L2 DL
inductive Gm where
  | fin (q : Rat)
  | deal (nm : Str) (ws : List (Rat × Gm))
  | move (s : Int) (nm : Str) (ws : List (Str × Gm))
namespace Gm
def parts : Gm → List Gm
  | fin _ => []
  | deal _ ws => ws.map (·.2)
  | move _ _ ws => ws.map (·.2)
def rows : Gm → List (PyData × Gm)
  | fin _ => []
  | deal _ ws => ws.map fun w => (qD w.1, w.2)
  | move _ _ ws => ws.map fun w => (.str w.1, w.2)
def hd : Gm → List PyData
  | fin _ => [.str "end"]
  | deal nm _ => [.str "deal", .str nm]
  | move s nm _ => [.str "move", .int s, .str nm]
theorem parts_rows (g : Gm) : g.rows.map (·.2) = g.parts := by
  cases g <;> simp [rows, parts]
theorem part_lt {g p : Gm} (h : p ∈ g.parts) : sizeOf p < sizeOf g := by
  cases g with
  | fin q => simp [parts] at h
  | deal nm ws =>
    obtain ⟨w, hw, rfl⟩ := List.mem_map.mp h
    have := List.sizeOf_lt_of_mem hw
    obtain ⟨a, b⟩ := w
    simp at *
    omega
  | move s nm ws =>
    obtain ⟨w, hw, rfl⟩ := List.mem_map.mp h
    have := List.sizeOf_lt_of_mem hw
    obtain ⟨a, b⟩ := w
    simp at *
    omega
theorem row_lt {g : Gm} {w : PyData × Gm} (h : w ∈ g.rows) : sizeOf w.2 < sizeOf g := part_lt (by rw [← parts_rows]; exact List.mem_map.mpr ⟨_, h, rfl⟩)
theorem ind {P : Gm → Prop} (h : ∀ g, (∀ p ∈ g.parts, P p) → P g) (g : Gm) : P g :=
  h g fun p hp => ind h p
termination_by sizeOf g
decreasing_by exact part_lt hp
def isFin : Gm → Bool
  | fin _ => true
  | _ => false
/-- the data -/
def d (g : Gm) : PyData := match g with
  | fin q => .tuple [.str "end", qD q]
  | deal nm ws => .tuple [.str "deal", .str nm, .tuple (ws.attach.map fun w => .tuple [qD w.1.1, d w.1.2])]
  | move s nm ws => .tuple [.str "move", .int s, .str nm, .tuple (ws.attach.map fun w => .tuple [.str w.1.1, d w.1.2])]
termination_by sizeOf g
decreasing_by
  · have := List.sizeOf_lt_of_mem w.2
    obtain ⟨⟨a, b⟩, _⟩ := w
    simp at *
    omega
  · have := List.sizeOf_lt_of_mem w.2
    obtain ⟨⟨a, b⟩, _⟩ := w
    simp at *
    omega
def rowsD (g : Gm) : List PyData := g.rows.map fun w => .tuple [w.1, w.2.d]
theorem d_fin (q : Rat) : (fin q).d = .tuple [.str "end", qD q] := by rw [d]
theorem attach_map {α β : Type} (xs : List α) (f : α → β) : xs.attach.map (fun x => f x.1) = xs.map f := by
  have : xs.attach.map (fun x => f x.1) = (xs.attach.map Subtype.val).map f := by rw [List.map_map]; rfl
  rw [this, List.attach_map_subtype_val]
theorem d_deal (nm : Str) (ws : List (Rat × Gm)) : (deal nm ws).d = .tuple [.str "deal", .str nm, .tuple (ws.map fun w => .tuple [qD w.1, w.2.d])] := by
  rw [d, attach_map ws fun w => PyData.tuple [qD w.1, d w.2]]
theorem d_move (s : Int) (nm : Str) (ws : List (Str × Gm)) : (move s nm ws).d = .tuple [.str "move", .int s, .str nm, .tuple (ws.map fun w => .tuple [.str w.1, w.2.d])] := by
  rw [d, attach_map ws fun w => PyData.tuple [.str w.1, d w.2]]
theorem d_br {g : Gm} (h : g.isFin = false) : g.d = .tuple (g.hd ++ [.tuple g.rowsD]) := by
  cases g with
  | fin q => cases h
  | deal nm ws => rw [d_deal]; simp [hd, rowsD, rows, Function.comp_def]
  | move s nm ws => rw [d_move]; simp [hd, rowsD, rows, Function.comp_def]
theorem rows_len (g : Gm) : g.rows.length = g.parts.length := by cases g <;> simp [rows, parts]
theorem rowsD_len (g : Gm) : g.rowsD.length = g.parts.length := by simp [rowsD, rows_len]
def HdOk : Gm → Prop
  | fin _ => True
  | deal nm _ => PyData.strOk nm = true
  | move _ nm ws => PyData.strOk nm = true ∧ ∀ w ∈ ws, PyData.strOk w.1 = true
def Good : Nat → Gm → Prop
  | 0, g => g.isFin = true
  | n + 1, g => g.parts.length ≤ 64 ∧ g.HdOk ∧ ∀ p ∈ g.parts, Good n p
theorem Good.fin (n : Nat) (q : Rat) : Good n (.fin q) := by
  cases n <;> simp [Good, isFin, parts, HdOk]
theorem Good.len {n : Nat} {g : Gm} (h : Good n g) : g.parts.length ≤ 64 := by
  cases n with
  | zero => cases g <;> simp_all [Good, isFin, parts]
  | succ n => exact h.1
theorem Good.part {n : Nat} {g p : Gm} (h : Good n g) (hp : p ∈ g.parts) : ∃ m, n = m + 1 ∧ Good m p := by
  cases n with
  | zero => cases g <;> simp_all [Good, isFin, parts]
  | succ n => exact ⟨n, rfl, h.2.2 p hp⟩
theorem Good.mono : ∀ {n m : Nat} {g : Gm}, n ≤ m → Good n g → Good m g
  | 0, m, g, _, h => by
    cases g with
    | fin q => exact Good.fin _ _
    | deal _ _ => cases h
    | move _ _ _ => cases h
  | n + 1, m + 1, g, hm, h => ⟨h.1, h.2.1, fun p hp => Good.mono (by omega) (h.2.2 p hp)⟩
theorem can_all {xs : List PyData} {k : Nat} (h : ∀ x ∈ xs, x.canLay0 = true ∧ x.depth ≤ k) : PyData.canLayAll0 xs = true ∧ PyData.depthAll xs ≤ k + 1 := by
  induction xs with
  | nil => simp [PyData.canLayAll0, PyData.depthAll]
  | cons w ws ih =>
    obtain ⟨a1, a2⟩ := ih fun v hv => h v (List.mem_cons_of_mem _ hv)
    obtain ⟨b1, b2⟩ := h w List.mem_cons_self
    refine ⟨by simp [PyData.canLayAll0, a1, b1], ?_⟩
    simp only [PyData.depthAll]
    omega
theorem can_q (q : Rat) : (qD q).canLay0 = true ∧ (qD q).depth ≤ 3 := by
  refine ⟨by simp [qD, PyData.canLay0, PyData.canLayAll0], by simp [qD, PyData.depth, PyData.depthAll]⟩
theorem can_tag : PyData.strOk "end" = true ∧ PyData.strOk "deal" = true ∧ PyData.strOk "move" = true := by decide +kernel
theorem Good.can : ∀ {n : Nat} {g : Gm}, Good n g → g.d.canLay0 = true ∧ g.d.depth ≤ 6 * n + 6 := by
  intro n
  induction n with
  | zero =>
    intro g h
    cases g with
    | fin q =>
      rw [d_fin]
      have := can_q q
      refine ⟨by simp [PyData.canLay0, PyData.canLayAll0, this.1, can_tag.1], ?_⟩
      simp only [PyData.depth, PyData.depthAll]
      omega
    | deal _ _ => cases h
    | move _ _ _ => cases h
  | succ n ih =>
    intro g h
    cases g with
    | fin q =>
      rw [d_fin]
      have := can_q q
      refine ⟨by simp [PyData.canLay0, PyData.canLayAll0, this.1, can_tag.1], ?_⟩
      simp only [PyData.depth, PyData.depthAll]
      omega
    | deal nm ws =>
      rw [d_deal]
      have A := can_all (xs := ws.map fun w => PyData.tuple [qD w.1, w.2.d]) (k := 6 * n + 9) fun x hx => by
        obtain ⟨w, hw, rfl⟩ := List.mem_map.mp hx
        have a := ih (h.2.2 w.2 (List.mem_map.mpr ⟨w, hw, rfl⟩))
        have b := can_q w.1
        refine ⟨by simp [PyData.canLay0, PyData.canLayAll0, a.1, b.1], ?_⟩
        simp only [PyData.depth, PyData.depthAll]
        omega
      refine ⟨by simp [PyData.canLay0, PyData.canLayAll0, A.1, can_tag.2.1, show PyData.strOk nm = true from h.2.1], ?_⟩
      simp only [PyData.depth, PyData.depthAll]
      omega
    | move s nm ws =>
      rw [d_move]
      have A := can_all (xs := ws.map fun w => PyData.tuple [.str w.1, w.2.d]) (k := 6 * n + 9) fun x hx => by
        obtain ⟨w, hw, rfl⟩ := List.mem_map.mp hx
        have a := ih (h.2.2 w.2 (List.mem_map.mpr ⟨w, hw, rfl⟩))
        refine ⟨by simp [PyData.canLay0, PyData.canLayAll0, a.1, h.2.1.2 w hw], ?_⟩
        simp only [PyData.depth, PyData.depthAll]
        omega
      refine ⟨by simp [PyData.canLay0, PyData.canLayAll0, A.1, can_tag.2.2, show PyData.strOk nm = true from h.2.1.1], ?_⟩
      simp only [PyData.depth, PyData.depthAll]
      omega
theorem Good.shaped {n : Nat} {g : Gm} (hn : n ≤ 9) (h : Good n g) : SeqAt.shaped g.d = true := by
  have := h.can
  simp [SeqAt.shaped, this.1]
  omega
/-! how many places -/
def many (g : Gm) : Nat := 1 + (g.parts.attach.map fun p => many p.1).sum
termination_by sizeOf g
decreasing_by exact part_lt p.2
theorem many_eq (g : Gm) : g.many = 1 + (g.parts.map many).sum := by rw [many, attach_map g.parts many]
theorem sum_le {xs : List Nat} {k : Nat} (h : ∀ x ∈ xs, x ≤ k) : xs.sum ≤ xs.length * k := by
  induction xs with
  | nil => simp
  | cons a xs ih =>
    have := ih fun x hx => h x (List.mem_cons_of_mem _ hx)
    have := h a List.mem_cons_self
    simp only [List.sum_cons, List.length_cons, Nat.add_mul]
    omega
/-! the places in order -/
abbrev Pl := List Int × Gm
def kidsAt (w : List Int) : Nat → List Gm → List Pl
  | _, [] => []
  | i, p :: ps => (w ++ [(i : Int)], p) :: kidsAt w (i + 1) ps
def kids (x : Pl) : List Pl := kidsAt x.1 0 x.2.parts
theorem kidsAt_len (w : List Int) : ∀ (i : Nat) (ps : List Gm), (kidsAt w i ps).length = ps.length
  | _, [] => rfl
  | i, p :: ps => by simp [kidsAt, kidsAt_len w (i + 1) ps]
theorem kidsAt_mem {w : List Int} : ∀ {i : Nat} {ps : List Gm} {y : Pl}, y ∈ kidsAt w i ps → ∃ j, j < ps.length ∧ y.1 = w ++ [((i + j : Nat) : Int)] ∧ ps[j]? = some y.2
  | _, [], y, h => by simp [kidsAt] at h
  | i, p :: ps, y, h => by
    simp only [kidsAt, List.mem_cons] at h
    rcases h with rfl | h
    · exact ⟨0, by simp, by simp, by simp⟩
    · obtain ⟨j, hj, e1, e2⟩ := kidsAt_mem h
      exact ⟨j + 1, by simp; omega, by rw [e1, show i + (j + 1) = i + 1 + j by omega], by simpa using e2⟩
theorem kids_mem {x y : Pl} (h : y ∈ kids x) : y.2 ∈ x.2.parts := by
  obtain ⟨j, hj, _, e⟩ := kidsAt_mem h
  exact List.mem_of_getElem? e
def places (x : Pl) : List Pl := x :: (kids x).attach.flatMap fun y => places y.1
termination_by sizeOf x.2
decreasing_by exact part_lt (kids_mem y.2)
theorem places_eq (x : Pl) : places x = x :: (kids x).flatMap places := by
  rw [places]
  congr 1
  have : (kids x).attach.flatMap (fun y => places y.1) = ((kids x).attach.map Subtype.val).flatMap places := by rw [List.flatMap_map]
  rw [this, List.attach_map_subtype_val]
theorem kidsAt_map2 (w : List Int) : ∀ (i : Nat) (ps : List Gm), (kidsAt w i ps).map (·.2) = ps
  | _, [] => rfl
  | i, p :: ps => by simp [kidsAt, kidsAt_map2 w (i + 1) ps]
theorem places_len (x : Pl) : (places x).length = x.2.many := by
  obtain ⟨w, g⟩ := x
  induction g using ind generalizing w with
  | h g ih =>
    rw [places_eq, many_eq, List.length_cons, List.length_flatMap]
    have : (kids (w, g)).map (fun a => (places a).length) = g.parts.map many := by
      rw [← kidsAt_map2 w 0 g.parts, List.map_map]
      refine List.map_congr_left fun y hy => ?_
      exact ih y.2 (kids_mem (x := (w, g)) hy) y.1
    rw [this, Nat.add_comm]
end Gm
/-! what is behind a place -/
@[simp] theorem ok_end : PyData.strOk "end" = true := Gm.can_tag.1
@[simp] theorem ok_deal : PyData.strOk "deal" = true := Gm.can_tag.2.1
@[simp] theorem ok_move : PyData.strOk "move" = true := Gm.can_tag.2.2
@[simp] theorem b_ee : (("end" : Str) == ("end" : Str)) = true := by decide +kernel
@[simp] theorem b_dd : (("deal" : Str) == ("deal" : Str)) = true := by decide +kernel
@[simp] theorem b_mm : (("move" : Str) == ("move" : Str)) = true := by decide +kernel
@[simp] theorem b_de : (("deal" : Str) == ("end" : Str)) = false := by decide +kernel
@[simp] theorem b_me : (("move" : Str) == ("end" : Str)) = false := by decide +kernel
@[simp] theorem b_md : (("move" : Str) == ("deal" : Str)) = false := by decide +kernel
@[simp] theorem b_dm : (("deal" : Str) == ("move" : Str)) = false := by decide +kernel
@[simp] theorem b_em : (("end" : Str) == ("move" : Str)) = false := by decide +kernel
@[simp] theorem b_ed : (("end" : Str) == ("deal" : Str)) = false := by decide +kernel
theorem tag_at {g : Gm} : ∃ t, ixF g.d (.int 0) = .ok (.val (.str t)) ∧ (t == ("end" : Str)) = g.isFin ∧ PyData.strOk t = true := by
  cases g with
  | fin q => rw [Gm.d_fin]; exact ⟨"end", by simp, b_ee, Gm.can_tag.1⟩
  | deal nm ws => rw [Gm.d_deal]; exact ⟨"deal", by simp, b_de, Gm.can_tag.2.1⟩
  | move s nm ws => rw [Gm.d_move]; exact ⟨"move", by simp, b_me, Gm.can_tag.2.2⟩
theorem last_at {g : Gm} (h : g.isFin = false) : ixF g.d (.int (-1)) = .ok (.val (.tuple g.rowsD)) := by
  rw [Gm.d_br h]
  cases g with
  | fin q => cases h
  | deal nm ws => simp [Gm.hd]
  | move s nm ws => simp [Gm.hd]
theorem parts_ok {n : Nat} {g : Gm} (h : g.Good n) : d_parts_of [.val g.d] = .ok (.own (.list (g.parts.map Gm.d))) := by
  obtain ⟨t, e1, e2, e3⟩ := tag_at (g := g)
  have hl := h.len
  cases hf : g.isFin with
  | true =>
    rw [hf] at e2
    have : t = "end" := by simpa using e2
    subst this
    have hp : g.parts = [] := by cases g <;> simp_all [Gm.isFin, Gm.parts]
    simp [d_parts_of, mDef, b_parts_of, start0, e1, hp]
  | false =>
    have e4 := last_at hf
    have c : compR (mgT 2 (mgCons (mgN 1) (mgCons (mgN 2) mgNil))) mYes (mV (mVar 2)) [some (.val g.d), none, none] (g.rows.map fun w => PyData.tuple [w.1, w.2.d]) = .ok (g.rows.map fun w => w.2.d) := compR_map fun w hw => ⟨_, rfl, rfl, by simp⟩
    have hfit : fits (g.rows.map fun w => PyData.tuple [w.1, w.2.d]) = true := fits_of (by simp [Gm.rows_len]; omega)
    have hm : (g.rows.map fun w => w.2.d) = g.parts.map Gm.d := by rw [← Gm.parts_rows, List.map_map]; rfl
    rw [hf] at e2
    rw [Gm.rowsD] at e4
    rw [hm] at c
    simp [d_parts_of, mDef, b_parts_of, start0, e1, e4, e2, c, hfit, Gm.can_tag, e3]
end Pg
/-! DG2: places_of, at_way -/
namespace Pg
open PySem L2 DL
def wayD (w : List Int) : PyData := .tuple (w.map PyData.int)
def plD (x : Gm.Pl) : PyData := .tuple [wayD x.1, x.2.d]
theorem can_way (w : List Int) : (wayD w).canLay0 = true ∧ (wayD w).depth ≤ 3 := by
  have := Gm.can_all (xs := w.map PyData.int) (k := 1) fun x hx => by
    obtain ⟨i, hi, rfl⟩ := List.mem_map.mp hx
    exact ⟨by simp [PyData.canLay0], by simp [PyData.depth]⟩
  refine ⟨by simp [wayD, PyData.canLay0, this.1], ?_⟩
  simp only [wayD, PyData.depth]
  omega
/-- a place in a game: how deep it may go on -/
def Gp (n : Nat) (x : Gm.Pl) : Prop := ∃ m, x.2.Good m ∧ x.1.length + m ≤ n
theorem Gp.kid {n : Nat} {x y : Gm.Pl} (h : Gp n x) (hy : y ∈ Gm.kids x) : Gp n y := by
  obtain ⟨m, hg, hl⟩ := h
  obtain ⟨k, rfl, hk⟩ := hg.part (Gm.kids_mem hy)
  obtain ⟨j, _, e, _⟩ := Gm.kidsAt_mem hy
  refine ⟨k, hk, ?_⟩
  rw [e]
  simp
  omega
theorem Gp.all {n : Nat} {x : Gm.Pl} (h : Gp n x) : ∀ y ∈ Gm.places x, Gp n y := by
  obtain ⟨w, g⟩ := x
  induction g using Gm.ind generalizing w with
  | h g ih =>
    intro y hy
    rw [Gm.places_eq] at hy
    rcases List.mem_cons.mp hy with rfl | hy
    · exact h
    · obtain ⟨z, hz, hy⟩ := List.mem_flatMap.mp hy
      exact ih z.2 (Gm.kids_mem hz) z.1 (h.kid hz) y hy
theorem can_pl {n : Nat} {x : Gm.Pl} (h : Gp n x) : (plD x).canLay0 = true ∧ (plD x).depth ≤ 6 * n + 8 := by
  obtain ⟨m, hg, hl⟩ := h
  have a := can_way x.1
  have b := hg.can
  refine ⟨by simp [plD, PyData.canLay0, PyData.canLayAll0, a.1, b.1], ?_⟩
  simp only [plD, PyData.depth, PyData.depthAll]
  omega
theorem shaped_pls {n : Nat} (hn : n ≤ 8) {L : List Gm.Pl} (h : ∀ x ∈ L, Gp n x) : SeqAt.shaped (.list (L.map plD)) = true := by
  have := Gm.can_all (xs := L.map plD) (k := 6 * n + 8) fun x hx => by
    obtain ⟨y, hy, rfl⟩ := List.mem_map.mp hx
    exact can_pl (h y hy)
  have h2 := this.2
  simp [SeqAt.shaped, PyData.canLay0, this.1, PyData.depth]
  omega
theorem shaped_nil : SeqAt.shaped (.list []) = true := by simp [SeqAt.shaped, PyData.canLay0, PyData.canLayAll0, PyData.depth, PyData.depthAll]
theorem neF_empty {ds : List PyData} (h : SeqAt.shaped (.list ds) = true) : neF (.list ds) (.list []) = .ok (.val (.bool (!ds.isEmpty))) := by
  rw [neF_of h shaped_nil]
  cases ds <;> rfl
theorem wayD_snoc {w : List Int} {i : Int} (h : w.length ≤ 9000) : addF (wayD w) (.tuple [.int i]) = .ok (.val (wayD (w ++ [i]))) := by
  have : (w.map PyData.int).length + [PyData.int i].length ≤ 10000 := by simp; omega
  simp only [wayD, addF_tup this, List.map_append, List.map_cons, List.map_nil]
theorem down_succ (n : Nat) : down (n + 1) = .int (n : Int) :: down n := by
  unfold down
  rw [List.range_succ_eq_map, List.map_cons, List.map_map]
  refine congr (congrArg _ (by simp)) (List.map_congr_left fun i _ => ?_)
  simp
  omega
theorem kids_get {w : List Int} : ∀ {i j : Nat} {ps : List Gm} {p : Gm}, ps[j]? = some p → (Gm.kidsAt w i ps)[j]? = some (w ++ [((i + j : Nat) : Int)], p)
  | i, 0, q :: ps, p, h => by simp at h; subst h; simp [Gm.kidsAt]
  | i, j + 1, q :: ps, p, h => by
    have := kids_get (w := w) (i := i + 1) (j := j) (ps := ps) (p := p) (by simpa using h)
    simp only [Gm.kidsAt, List.getElem?_cons_succ, this, show i + 1 + j = i + (j + 1) by omega]
  | i, j, [], p, h => by simp at h
theorem places_in {G : PyData} {F : List PyData} {g : Gm} {w : List Int} (hw : w.length ≤ 9000) (hl : g.parts.length ≤ 64) : ∀ (n : Nat) (W : List PyData) (o : Option DL.Slot), n ≤ g.parts.length → W.length + n < sizeLine → ∃ o', loopO (mgN 6) L_places_of_1 (down n) [some (.val G), some (.own (.list F)), some (.own (.list W)), some (.val (wayD w)), some (.val g.d), some (.own (.list (g.parts.map Gm.d))), o] = .nx [some (.val G), some (.own (.list F)), some (.own (.list (W ++ (((Gm.kids (w, g)).take n).reverse.map plD)))), some (.val (wayD w)), some (.val g.d), some (.own (.list (g.parts.map Gm.d))), o']
  | 0, W, o, _, _ => ⟨o, by simp [down, loopO]⟩
  | n + 1, W, o, h, hz => by
    obtain ⟨o', e⟩ := places_in (G := G) (F := F) (g := g) (w := w) hw hl n (W ++ [plD (w ++ [(n : Int)], g.parts[n])]) (some (.val (.int (n : Int)))) (by omega) (by simp; omega)
    refine ⟨o', ?_⟩
    have a1 : atI (g.parts.map Gm.d) (n : Int) = some (g.parts[n]).d := by rw [atI_of (by simp; omega)]; simp
    have a2 : (Gm.kids (w, g)).take (n + 1) = (Gm.kids (w, g)).take n ++ [(w ++ [(n : Int)], g.parts[n])] := by
      have := kids_get (w := w) (i := 0) (j := n) (ps := g.parts) (p := g.parts[n]) (List.getElem?_eq_getElem (by omega))
      rw [List.take_add_one, Gm.kids, this]
      simp
    have a3 := wayD_snoc (i := (n : Int)) hw
    have a4 : W.length < sizeLine := by omega
    rw [down_succ, a2]
    simp only [List.reverse_append, List.map_append, List.reverse_cons, List.reverse_nil, List.nil_append, List.map_cons, List.map_nil, List.cons_append]
    rw [List.append_assoc, List.cons_append, List.nil_append] at e
    rw [← e]
    simp [L_places_of_1, a1, a3, a4, fits_of, plD]
/-- what the walk over the places has come to -/
def PlI (G : PyData) (n : Nat) (R : List PyData) (k : Nat) (δ : DEnv) : Prop := ∃ (L : List Gm.Pl) (F : List PyData) (o3 o4 o5 o6 : Option DL.Slot), δ = [some (.val G), some (.own (.list F)), some (.own (.list (L.reverse.map plD))), o3, o4, o5, o6] ∧ (L.flatMap Gm.places).length ≤ k ∧ (∀ x ∈ L, Gp n x) ∧ F.length + 65 * k + L.length + 65 < sizeLine ∧ R = F ++ (L.flatMap Gm.places).map plD
theorem places_loop {G : PyData} {n : Nat} {R : List PyData} (hn : n ≤ 8) (k : Nat) (δ : DEnv) (h : PlI G n R k δ) : Nx (mWhile C_places_of_2 L_places_of_3 δ) fun δ => ∃ o2 o3 o4 o5 o6, δ = [some (.val G), some (.own (.list R)), o2, o3, o4, o5, o6] := by
  refine while_nx (I := PlI G n R) ?_ k δ h
  rintro k δ ⟨L, F, o3, o4, o5, o6, rfl, hk, hg, hz, rfl⟩
  cases L with
  | nil =>
    left
    refine ⟨by simp [C_places_of_2, neF_empty shaped_nil], ?_⟩
    exact ⟨_, o3, o4, o5, o6, by simp; rfl⟩
  | cons x L =>
    right
    obtain ⟨w, g⟩ := x
    have hgx := hg _ List.mem_cons_self
    obtain ⟨m, hgm, hlm⟩ : ∃ m, g.Good m ∧ w.length + m ≤ n := hgx
    have hl := hgm.len
    have ef : ((w, g) :: L).flatMap Gm.places = (w, g) :: (Gm.kids (w, g) ++ L).flatMap Gm.places := by
      rw [List.flatMap_cons, Gm.places_eq, List.flatMap_append]; rfl
    rw [ef, List.length_cons] at hk
    have sh := shaped_pls hn (L := (((w, g) :: L).reverse)) fun x hx => hg x (List.mem_reverse.mp hx)
    have hkl : (Gm.kids (w, g)).length = g.parts.length := Gm.kidsAt_len _ _ _
    have hln : L.length + 1 + 65 * k < sizeLine := by simp at hz; omega
    have hw : w.length ≤ 9000 := by omega
    obtain ⟨o', e⟩ := places_in (G := G) (F := F ++ [plD (w, g)]) (g := g) (w := w) hw hl g.parts.length (L.reverse.map plD) o6 (by omega) (by simp; omega)
    have ht : (Gm.kids (w, g)).take g.parts.length = Gm.kids (w, g) := List.take_of_length_le (by omega)
    rw [ht] at e
    have ed : dwn (.int (g.parts.length : Int)) = .ok (down g.parts.length) := dwn_of (by omega)
    have hlz : L.length < sizeLine := by omega
    have hfz : F.length < sizeLine := by omega
    have ep := parts_ok hgm
    have sh' : SeqAt.shaped (.list ((L.map plD).reverse ++ [plD (w, g)])) = true := by simpa using sh
    have ne := neF_empty sh'
    refine ⟨by simp [C_places_of_2, ne], k - 1, by omega, ?_⟩
    refine ⟨[some (.val G), some (.own (.list (F ++ [plD (w, g)]))), some (.own (.list ((Gm.kids (w, g) ++ L).reverse.map plD))), some (.val (wayD w)), some (.val g.d), some (.own (.list (g.parts.map Gm.d))), o'], ?_, ?_⟩
    · unfold L_places_of_3
      have e' : ((Gm.kids (w, g) ++ L).reverse.map plD) = L.reverse.map plD ++ (Gm.kids (w, g)).reverse.map plD := by simp
      rw [e', ← e]
      simp [plD, mPopG, popD, tgtO, hfz, fits_of, ep, ed]
    · refine ⟨Gm.kids (w, g) ++ L, F ++ [plD (w, g)], _, _, _, _, rfl, by omega, ?_, ?_, ?_⟩
      · intro x hx
        rcases List.mem_append.mp hx with hx | hx
        · exact (hg _ List.mem_cons_self).kid hx
        · exact hg _ (List.mem_cons_of_mem _ hx)
      · have e1 : (F ++ [plD (w, g)]).length = F.length + 1 := by simp
        have e2 : (Gm.kids (w, g) ++ L).length = g.parts.length + L.length := by rw [List.length_append, hkl]
        rw [e1, e2]
        simp only [List.length_cons] at hz
        omega
      · rw [ef]
        simp
theorem places_ok {n : Nat} {g : Gm} (hn : n ≤ 8) (h : g.Good n) (hm : g.many ≤ 200000) : d_places_of [.val g.d] = .ok (.own (.list ((Gm.places ([], g)).map plD))) := by
  have A := places_loop (G := g.d) (R := (Gm.places ([], g)).map plD) hn g.many [some (.val g.d), some (.own (.list [])), some (.own (.list [plD ([], g)])), none, none, none, none]
    ⟨[([], g)], [], none, none, none, none, by simp, by simp [Gm.places_len], by
      intro x hx
      rw [List.mem_singleton.mp hx]
      exact ⟨n, h, by simp⟩, by simp; exact Nat.lt_of_le_of_lt (Nat.mul_le_mul_left 65 hm |> fun z => Nat.add_le_add_right z 66) (by decide), by simp⟩
  unfold d_places_of
  obtain ⟨δ, e, o2, o3, o4, o5, o6, rfl⟩ := A
  have ew : wayD [] = .tuple [] := rfl
  rw [plD, ew] at e
  simp [mDef, b_places_of, start0, fits_of, e]
end Pg
/-! DG3: ways in order, at_way, a dict of places -/
namespace Pg
open PySem L2 DL
theorem lex_app : ∀ (w a b : List Int), HT.lexLt (w ++ a) (w ++ b) = HT.lexLt a b
  | [], _, _ => rfl
  | i :: w, a, b => by
    rw [List.cons_append, List.cons_append, HT.lexLt_cons, if_pos rfl, lex_app w]
theorem lex_irr : ∀ w : List Int, HT.lexLt w w = false
  | [] => rfl
  | i :: w => by rw [HT.lexLt_cons, if_pos rfl, lex_irr w]
namespace Gm
theorem places_pre {x y : Pl} (h : y ∈ places x) : ∃ u, y.1 = x.1 ++ u := by
  obtain ⟨w, g⟩ := x
  induction g using ind generalizing w with
  | h g ih =>
    rw [places_eq] at h
    rcases List.mem_cons.mp h with rfl | h
    · exact ⟨[], by simp⟩
    · obtain ⟨z, hz, h⟩ := List.mem_flatMap.mp h
      obtain ⟨u, e⟩ := ih z.2 (kids_mem hz) z.1 h
      obtain ⟨j, _, e2, _⟩ := kidsAt_mem hz
      exact ⟨[((0 + j : Nat) : Int)] ++ u, by rw [e, e2]; simp⟩
theorem kids_pair (w : List Int) : ∀ (i : Nat) (ps : List Gm), (kidsAt w i ps).Pairwise fun x y => ∃ a b : Int, a < b ∧ x.1 = w ++ [a] ∧ y.1 = w ++ [b]
  | _, [] => .nil
  | i, p :: ps => by
    refine .cons (fun y hy => ?_) (kids_pair w (i + 1) ps)
    obtain ⟨j, _, e, _⟩ := kidsAt_mem hy
    exact ⟨_, _, by omega, rfl, e⟩
theorem places_lex (x : Pl) : (places x).Pairwise fun y z => HT.lexLt y.1 z.1 = true := by
  obtain ⟨w, g⟩ := x
  induction g using ind generalizing w with
  | h g ih =>
    rw [places_eq]
    refine .cons (fun y hy => ?_) ?_
    · obtain ⟨z, hz, hy⟩ := List.mem_flatMap.mp hy
      obtain ⟨u, e⟩ := places_pre hy
      obtain ⟨j, _, e2, _⟩ := kidsAt_mem hz
      rw [e, e2]
      show HT.lexLt w (w ++ _ ++ u) = true
      have : HT.lexLt (w ++ []) (w ++ ([((0 + j : Nat) : Int)] ++ u)) = true := by rw [lex_app]; rfl
      simpa using this
    · rw [List.pairwise_flatMap]
      refine ⟨fun z hz => ih z.2 (kids_mem hz) z.1, ?_⟩
      refine (kids_pair w 0 g.parts).imp ?_
      rintro a b ⟨i, j, hij, e1, e2⟩ x hx y hy
      obtain ⟨u, e⟩ := places_pre hx
      obtain ⟨v, e'⟩ := places_pre hy
      rw [e, e', e1, e2]
      simp only [List.append_assoc, lex_app]
      show HT.lexLt (i :: u) (j :: v) = true
      rw [HT.lexLt_cons, if_neg (by omega)]
      exact decide_eq_true hij
theorem places_ne (x : Pl) : (places x).Pairwise fun y z => y.1 ≠ z.1 := (places_lex x).imp fun {a b} h e => by
  rw [e, lex_irr] at h
  cases h
theorem places_kid {x y z : Pl} (h : y ∈ places x) (hz : z ∈ kids y) : z ∈ places x := by
  obtain ⟨w, g⟩ := x
  induction g using ind generalizing w with
  | h g ih =>
    rw [places_eq] at h ⊢
    rcases List.mem_cons.mp h with rfl | h
    · refine List.mem_cons_of_mem _ (List.mem_flatMap.mpr ⟨z, hz, ?_⟩)
      rw [places_eq]
      exact List.mem_cons_self
    · obtain ⟨t, ht, h⟩ := List.mem_flatMap.mp h
      exact List.mem_cons_of_mem _ (List.mem_flatMap.mpr ⟨t, ht, ih t.2 (kids_mem ht) t.1 h⟩)
theorem places_self (x : Pl) : x ∈ places x := by rw [places_eq]; exact List.mem_cons_self
/-- the game at a way -/
def at? : List Int → Gm → Option Gm
  | [], g => some g
  | i :: w, g => if 0 ≤ i ∧ i < g.parts.length then (g.parts[i.toNat]?).bind (at? w) else none
theorem at_app : ∀ (w u : List Int) (g : Gm), at? (w ++ u) g = (at? w g).bind (at? u)
  | [], _, _ => rfl
  | i :: w, u, g => by
    simp only [List.cons_append, at?]
    split
    · cases g.parts[i.toNat]? with
      | none => rfl
      | some p => exact at_app w u p
    · rfl
theorem places_at {g0 : Gm} {x : Pl} (h : x ∈ places ([], g0)) : at? x.1 g0 = some x.2 := by
  have : ∀ (y : Pl), at? y.1 g0 = some y.2 → ∀ x ∈ places y, at? x.1 g0 = some x.2 := by
    rintro ⟨w, g⟩
    induction g using ind generalizing w with
    | h g ih =>
      intro hy x hx
      rw [places_eq] at hx
      rcases List.mem_cons.mp hx with rfl | hx
      · exact hy
      · obtain ⟨z, hz, hx⟩ := List.mem_flatMap.mp hx
        refine ih z.2 (kids_mem hz) z.1 ?_ x hx
        obtain ⟨j, hj, e, e2⟩ := kidsAt_mem hz
        rw [e, at_app]
        have hy' : at? w g0 = some g := hy
        show (at? w g0).bind _ = _
        rw [hy']
        show (if 0 ≤ ((0 + j : Nat) : Int) ∧ ((0 + j : Nat) : Int) < g.parts.length then (g.parts[((0 + j : Nat) : Int).toNat]?).bind (at? []) else none) = _
        have hj' : j < g.parts.length := hj
        rw [if_pos (by omega)]
        have : ((0 + j : Nat) : Int).toNat = j := by omega
        have e2' : g.parts[j]? = some z.2 := e2
        rw [this, e2']
        rfl
  exact this ([], g0) rfl x h
end Gm
/-! at_way -/
theorem at_way_loop {n : Nat} {W : PyData} : ∀ (w : List Int) (g : Gm) (o2 o3 : Option DL.Slot), g.Good n → (match g.at? w with
    | some p => ∃ o2' o3', loopO (mgN 2) (mSeq (mAsg 3 (mCall Pg.d_parts_of (mACons (mVar 0) mANil))) (mSeq (mIf (mNot (mTest (mChain leF ltF (mR (mC (.int 0))) (mR (mVar 2)) (mR (mBi lenF (mCons (mR (mVar 3)) mNil)))))) (mRaise ⟨.NoPlace, []⟩) mNext) (mAsg 0 (mB ixF (mR (mVar 3)) (mR (mVar 2)))))) (w.map PyData.int) [some (.val g.d), some (.val W), o2, o3] = .nx [some (.val p.d), some (.val W), o2', o3']
    | none => ∃ δ, loopO (mgN 2) (mSeq (mAsg 3 (mCall Pg.d_parts_of (mACons (mVar 0) mANil))) (mSeq (mIf (mNot (mTest (mChain leF ltF (mR (mC (.int 0))) (mR (mVar 2)) (mR (mBi lenF (mCons (mR (mVar 3)) mNil)))))) (mRaise ⟨.NoPlace, []⟩) mNext) (mAsg 0 (mB ixF (mR (mVar 3)) (mR (mVar 2)))))) (w.map PyData.int) [some (.val g.d), some (.val W), o2, o3] = .ex ⟨.NoPlace, []⟩ δ)
  | [], g, o2, o3, h => ⟨o2, o3, rfl⟩
  | i :: w, g, o2, o3, h => by
    have ep := parts_ok h
    by_cases hc : 0 ≤ i ∧ i < g.parts.length
    · obtain ⟨j, rfl⟩ : ∃ j : Nat, i = (j : Int) := ⟨i.toNat, by omega⟩
      have hj : j < g.parts.length := by omega
      have a1 : atI (g.parts.map Gm.d) (j : Int) = some (g.parts[j]).d := by rw [atI_of (by simpa using hj)]; simp
      obtain ⟨m, rfl, hm⟩ := h.part (List.getElem_mem hj)
      have ih := at_way_loop (W := W) w g.parts[j] (some (.val (.int (j : Int)))) (some (.own (.list (g.parts.map Gm.d)))) (hm.mono (Nat.le_succ m))
      have ea : g.at? ((j : Int) :: w) = (g.parts[j]).at? w := by
        simp only [Gm.at?]
        rw [if_pos hc, Int.toNat_natCast, List.getElem?_eq_getElem hj]
        rfl
      rw [ea]
      have h0 : (0 : Int) ≤ (j : Int) := hc.1
      have h1 : (j : Int) < g.parts.length := hc.2
      have st : loopO (mgN 2) (mSeq (mAsg 3 (mCall Pg.d_parts_of (mACons (mVar 0) mANil))) (mSeq (mIf (mNot (mTest (mChain leF ltF (mR (mC (.int 0))) (mR (mVar 2)) (mR (mBi lenF (mCons (mR (mVar 3)) mNil)))))) (mRaise ⟨.NoPlace, []⟩) mNext) (mAsg 0 (mB ixF (mR (mVar 3)) (mR (mVar 2)))))) (((j : Int) :: w).map PyData.int) [some (.val g.d), some (.val W), o2, o3] = loopO (mgN 2) (mSeq (mAsg 3 (mCall Pg.d_parts_of (mACons (mVar 0) mANil))) (mSeq (mIf (mNot (mTest (mChain leF ltF (mR (mC (.int 0))) (mR (mVar 2)) (mR (mBi lenF (mCons (mR (mVar 3)) mNil)))))) (mRaise ⟨.NoPlace, []⟩) mNext) (mAsg 0 (mB ixF (mR (mVar 3)) (mR (mVar 2)))))) (w.map PyData.int) [some (.val (g.parts[j]).d), some (.val W), some (.val (.int (j : Int))), some (.own (.list (g.parts.map Gm.d)))] := by
        simp [ep, hj, a1]
      rw [st]
      exact ih
    · have ea : g.at? (i :: w) = none := by
        simp only [Gm.at?]
        rw [if_neg hc]
      rw [ea]
      refine ⟨[some (.val g.d), some (.val W), some (.val (.int i)), some (.own (.list (g.parts.map Gm.d)))], ?_⟩
      by_cases h0 : 0 ≤ i
      · have h1 : ¬ i < g.parts.length := fun z => hc ⟨h0, z⟩
        simp [ep, h0, h1]
      · simp [ep, h0]
theorem at_way_ok {n : Nat} {g : Gm} (h : g.Good n) (w : List Int) : d_at_way [.val g.d, .val (wayD w)] = (match g.at? w with
    | some p => .ok (.val p.d)
    | none => .exc ⟨.NoPlace, []⟩) := by
  have A := at_way_loop (W := wayD w) w g none none h
  have hit : miV 1 [some (.val g.d), some (.val (wayD w)), none, none] = .ok (w.map PyData.int) := rfl
  rw [show d_at_way [.val g.d, .val (wayD w)] = (b_at_way [some (.val g.d), some (.val (wayD w)), none, none]).res from rfl]
  unfold b_at_way
  cases e : g.at? w with
  | some p =>
    rw [e] at A
    obtain ⟨o2, o3, A⟩ := A
    rw [seq_nx (by unfold mFor; rw [hit]; exact A)]
    rfl
  | none =>
    rw [e] at A
    obtain ⟨δ, A⟩ := A
    rw [seq_ex (by unfold mFor; rw [hit]; exact A)]
    rfl
/-! a dict of places -/
theorem wayD_inj : ∀ a b : List Int, kN (wayD a) = kN (wayD b) → a = b := fun a b h => kN_ints h
theorem wayD_ok (w : List Int) : okKey (wayD w) = true := ok_ints w
end Pg
set_option exponentiation.threshold 20000
/-! DN: names and numbers that laws draw -/
namespace Pg
open PySem L2 DL TL
noncomputable def bName : MS := (mSeq (mAsg 1 (mC (.str "abcdefghijklmnopqrstuvwxyz0123456789"))) (mRet (mM1 joinF (mR (mC (.str ""))) (mR (mComp [2] (mgN 2) (mRng1 (mCons (mV (mB addF (mR (mC (.int 1))) (mR (mB modF (mR (mVar 0)) (mR (mC (.int 8))))))) mNil)) mYes (mV (mB ixF (mR (mVar 1)) (mR (mB modF (mR (mB addF (mR (mB divF (mR (mVar 0)) (mR (mB addF (mR (mVar 2)) (mR (mC (.int 1))))))) (mR (mB mulF (mR (mB mulF (mR (mVar 2)) (mR (mVar 2)))) (mR (mC (.int 5))))))) (mR (mC (.int 36))))))))))))
abbrev S36 : Str := "abcdefghijklmnopqrstuvwxyz0123456789"
theorem s36 : (tl S36).length = 36 ∧ ∀ c ∈ tl S36, c < 128 := by decide +kernel
theorem sign_at (i : Int) (h0 : 0 ≤ i) (h1 : i < 36) : ∃ c : Nat, c < 128 ∧ ixF (.str S36) (.int i) = .ok (.val (.str ⟨#[c]⟩)) := by
  obtain ⟨c, hc, e⟩ := atI_mem (xs := tl S36) h0 (by rw [s36.1]; exact h1)
  refine ⟨c, s36.2 c hc, ?_⟩
  have hl : S36.length ≤ sizeLine := Nat.le_trans (by rw [len_tl, s36.1]; decide : S36.length ≤ 100) (by decide)
  show (if S36.length ≤ sizeLine then (match atI (tl S36) i with
    | some c => okV (.str ⟨#[c]⟩)
    | none => .stuck) else .stuck) = _
  rw [if_pos hl, e]
  rfl
theorem joinL_nil : ∀ L : List (List Nat), joinL [] L = L.flatten
  | [] => rfl
  | [a] => by simp [joinL]
  | a :: b :: r => by
    have := joinL_nil (b :: r)
    simp only [joinL, List.flatten_cons] at this ⊢
    simp [this]
theorem name_ok (x : Int) : ∃ nm : Str, PyData.strOk nm = true ∧ mDef 3 1 bName [.val (.int x)] = .ok (.val (.str nm)) := by
  obtain ⟨k, hk, hk2⟩ : ∃ k : Nat, 1 + x % 8 = (k : Int) ∧ k ≤ 8 := ⟨(1 + x % 8).toNat, by omega, by omega⟩
  have F := fun j : Nat => sign_at ((x / ((j : Int) + 1) + (j : Int) * (j : Int) * 5) % 36) (by omega) (by omega)
  let g : Nat → Nat := fun j => Classical.choose (F j)
  have hg : ∀ j, g j < 128 ∧ ixF (.str S36) (.int ((x / ((j : Int) + 1) + (j : Int) * (j : Int) * 5) % 36)) = .ok (.val (.str ⟨#[g j]⟩)) := fun j => Classical.choose_spec (F j)
  let ys : List Str := (List.range k).map fun j => (⟨#[g j]⟩ : Str)
  have hsum : ∀ l : List Nat, ((l.map fun j => (⟨#[g j]⟩ : Str)).map (·.length)).sum = l.length := by
    intro l
    induction l with
    | nil => rfl
    | cons a l ih => simp only [List.map_cons, List.sum_cons, ih, List.length_cons]; show 1 + l.length = _; omega
  refine ⟨Txt.join "" ys, digits_ok fun c hc => ?_, ?_⟩
  · rw [join_eq, tl_join, show tl ("" : Str) = [] from by decide, joinL_nil] at hc
    obtain ⟨l, hl, hc⟩ := List.mem_flatten.mp hc
    obtain ⟨y, hy, rfl⟩ := List.mem_map.mp hl
    obtain ⟨j, hj, rfl⟩ := List.mem_map.mp hy
    have : c = g j := by simpa [tl] using hc
    rw [this]
    exact (hg j).1
  · have ec : compR (mgN 2) mYes (mV (mB ixF (mR (mVar 1)) (mR (mB modF (mR (mB addF (mR (mB divF (mR (mVar 0)) (mR (mB addF (mR (mVar 2)) (mR (mC (.int 1))))))) (mR (mB mulF (mR (mB mulF (mR (mVar 2)) (mR (mVar 2)))) (mR (mC (.int 5))))))) (mR (mC (.int 36))))))) [some (.val (.int x)), some (.val (.str S36)), none] (rng 0 k) = .ok ((List.range k).map fun j => PyData.str ⟨#[g j]⟩) := by
      refine compR_map fun j hj => ⟨_, rfl, rfl, ?_⟩
      have hj' : j < k := List.mem_range.mp hj
      have a1 : 0 < (j : Int) + 1 := by omega
      have a2 : (j : Int) + 1 < 18446744073709551616 := by omega
      have a3 : -18446744073709551616 < (j : Int) := by omega
      have a4 : (j : Int) < 18446744073709551616 := by omega
      simp [a1, a2, a3, a4, (hg j).2]
    have e1 : rng1 [.int (k : Int)] = .ok (rng 0 k) := rng1_simp (by omega)
    have e2 : fits (rng 0 k) = true := fits_of (by simp [rng]; omega)
    have em : ((List.range k).map fun j => PyData.str ⟨#[g j]⟩) = ys.map PyData.str := by simp [ys, Function.comp_def]
    have ej : joinF (.str "") (.list (ys.map PyData.str)) = .ok (.val (.str (Txt.join "" ys))) := by
      show (match strsOf (ys.map PyData.str) with
        | some ys => if (ys.map (fun s : Str => s.length)).sum + ys.length * ("" : Str).length ≤ 16777216 then okV (.str (Txt.join "" ys)) else .stuck
        | none => .stuck) = _
      rw [strsOf_map]
      have h0 : ("" : Str).length = 0 := by decide
      have hs := hsum (List.range k)
      have hb : (ys.map (fun s : Str => s.length)).sum + ys.length * ("" : Str).length ≤ 16777216 := by
        rw [h0]
        show ((List.map (fun j => (⟨#[g j]⟩ : Str)) (List.range k)).map (fun s : Str => s.length)).sum + _ ≤ _
        rw [hs]
        simp
        omega
      simp only [if_pos hb]
      rfl
    rw [em] at ec
    simp [mDef, bName, start0, hk, e1, e2, ec, ej]
noncomputable def lNums (A B C D : Int) : MS := (mApp 1 (mV (mB modF (mR (mB mulF (mR (mB addF (mR (mB addF (mR (mB addF (mR (mB modF (mR (mB ixF (mR (mVar 0)) (mR (mVar 2)))) (mR (mC (.int 1000000007))))) (mR (mB mulF (mR (mB mulF (mR (mC (.int A))) (mR (mVar 2)))) (mR (mVar 2)))))) (mR (mB mulF (mR (mC (.int B))) (mR (mVar 2)))))) (mR (mC (.int C))))) (mR (mC (.int D))))) (mR (mC (.int 1000003))))))
noncomputable def bNums (A B C D L : Int) : MS := (mSeq (mAsg 1 (mLst mNil)) (mSeq (mFor (mgN 2) (mRng1 (mCons (mV (mBi lenF (mCons (mR (mSl (mR (mVar 0)) mO0 (mO (mR (mC (.int L)))))) mNil))) mNil)) (lNums A B C D)) (mRetN 1)))
theorem numbers_ok (ns : List Int) (hl : ns.length ≤ 63) (A B C D : Int) (L : Nat) (hL : L ≤ 63) (hA : 0 ≤ A ∧ A < 18446744073709551616) (hB : 0 ≤ B ∧ B < 18446744073709551616) (hD : 0 ≤ D ∧ D < 18446744073709551616) : ∃ xs : List Int, mDef 3 1 (bNums A B C D (L : Int)) [.val (.list (ns.map PyData.int))] = .ok (.own (.list (xs.map PyData.int))) ∧ xs.length = min L ns.length ∧ ∀ x ∈ xs, 0 ≤ x ∧ x < 1000003 := by
  have b1 : -18446744073709551616 < A := by omega
  have b2 := hA.2
  have b3 : -18446744073709551616 < B := by omega
  have b4 := hB.2
  have b5 : -18446744073709551616 < D := by omega
  have b6 := hD.2
  have lp : ∀ (js : List Nat) (xs : List Int) (o : Option DL.Slot), (∀ j ∈ js, j < ns.length) → xs.length + js.length ≤ 100 → (∀ x ∈ xs, 0 ≤ x ∧ x < 1000003) → ∃ (ys : List Int) (o' : Option DL.Slot), loopO (mgN 2) (lNums A B C D) (js.map fun (i : Nat) => PyData.int (0 + (i : Int))) [some (.val (.list (ns.map PyData.int))), some (.own (.list (xs.map PyData.int))), o] = .nx [some (.val (.list (ns.map PyData.int))), some (.own (.list (ys.map PyData.int))), o'] ∧ ys.length = xs.length + js.length ∧ ∀ x ∈ ys, 0 ≤ x ∧ x < 1000003 := by
    intro js
    induction js with
    | nil => intro xs o _ _ hx; exact ⟨xs, o, rfl, by simp, hx⟩
    | cons j js ih =>
      intro xs o hj hb hx
      have hj0 := hj j List.mem_cons_self
      have ek : atI (ns.map PyData.int) (j : Int) = some (.int ns[j]) := by rw [atI_of (by simpa using hj0)]; simp
      have a3 : -18446744073709551616 < (j : Int) := by omega
      have a4 : (j : Int) < 18446744073709551616 := by omega
      have hz : xs.length < sizeLine := lt_sizeLine (by simp at hb; omega)
      obtain ⟨ys, o', e, e2, e3⟩ := ih (xs ++ [(ns[j] % 1000000007 + A * (j : Int) * (j : Int) + B * (j : Int) + C) * D % 1000003]) (some (.val (.int (j : Int)))) (fun i hi => hj i (List.mem_cons_of_mem _ hi)) (by simp at hb ⊢; omega) (by
        intro x hx'
        rcases List.mem_append.mp hx' with h | h
        · exact hx x h
        · rw [List.mem_singleton.mp h]
          exact ⟨Int.emod_nonneg _ (by decide), Int.emod_lt_of_pos _ (by decide)⟩)
      refine ⟨ys, o', ?_, by rw [e2]; simp; omega, e3⟩
      simp [lNums, ek, a3, a4, hz, b1, b2, b3, b4, b5, b6]
      simpa [lNums] using e
  obtain ⟨ys, o', e, e2, e3⟩ := lp (List.range (min L ns.length)) [] none (fun j hj => by have := List.mem_range.mp hj; omega) (by simp; omega) (by simp)
  have e1 : rng1 [.int ((min L ns.length : Nat) : Int)] = .ok (rng 0 (min L ns.length)) := rng1_simp (by omega)
  refine ⟨ys, ?_, by simpa using e2, e3⟩
  have e' : loopO (mgN 2) _ (rng 0 (min L ns.length)) _ = _ := e
  have hc : cutD (ns.map PyData.int) none (some (L : Int)) = (ns.map PyData.int).take L := by rw [cutD_to (by omega), Int.toNat_natCast]
  simp [mDef, bNums, start0, hc]
  rw [e1]
  simp at e'
  simp [e']
end Pg
/-! DN2: names out of numbers; lowest terms -/
namespace Pg
open PySem L2 DL TL
def sgn (i : Nat) : Str := ⟨#[(tl S36).getD i 0]⟩
theorem sgn_lt (i : Nat) : (tl S36).getD i 0 < 128 := by
  rw [List.getD_eq_getElem?_getD]
  cases e : (tl S36)[i]? with
  | none => decide
  | some c => exact s36.2 c (List.mem_of_getElem? e)
theorem sgn_at {i : Nat} (h1 : i < 36) : ixF (.str S36) (.int (i : Int)) = .ok (.val (.str (sgn i))) := by
  have hl : S36.length ≤ sizeLine := Nat.le_trans (by rw [len_tl, s36.1]; decide : S36.length ≤ 100) (by decide)
  have h1' : i < (tl S36).length := by rw [s36.1]; exact h1
  show (if S36.length ≤ sizeLine then (match atI (tl S36) (i : Int) with
    | some c => okV (.str ⟨#[c]⟩)
    | none => .stuck) else .stuck) = _
  rw [if_pos hl, atI_of h1', sgn, List.getD_eq_getElem?_getD, List.getElem?_eq_getElem h1']
  rfl
def nameS (is : List Nat) : Str := Txt.join "" (is.map sgn)
theorem tl_nameS (is : List Nat) : tl (nameS is) = is.map fun i => (tl S36).getD i 0 := by
  rw [nameS, join_eq, tl_join, show tl ("" : Str) = [] from by decide, joinL_nil]
  induction is with
  | nil => rfl
  | cons i is ih => simp only [List.map_cons, List.flatten_cons, ih]; rfl
theorem nameS_ok (is : List Nat) : PyData.strOk (nameS is) = true := digits_ok fun c hc => by
  rw [tl_nameS] at hc
  obtain ⟨i, _, rfl⟩ := List.mem_map.mp hc
  exact sgn_lt i
theorem join_sgn {is : List Nat} (hl : is.length ≤ 10000) : joinF (.str "") (.list (is.map fun i => PyData.str (sgn i))) = .ok (.val (.str (nameS is))) := by
  have e : (is.map fun i => PyData.str (sgn i)) = (is.map sgn).map PyData.str := by simp [Function.comp_def]
  rw [e]
  show (match strsOf ((is.map sgn).map PyData.str) with
    | some ys => if (ys.map (fun s : Str => s.length)).sum + ys.length * ("" : Str).length ≤ 16777216 then okV (.str (Txt.join "" ys)) else .stuck
    | none => .stuck) = _
  rw [strsOf_map]
  have h0 : ("" : Str).length = 0 := by decide
  have hs : ((is.map sgn).map (fun s : Str => s.length)).sum = is.length := by
    induction is with
    | nil => rfl
    | cons a l ih =>
      have := ih (by simp at hl; omega) (by simp [Function.comp_def])
      simp only [List.map_cons, List.sum_cons, this, List.length_cons]
      show 1 + l.length = _
      omega
  have hb : ((is.map sgn).map (fun s : Str => s.length)).sum + (is.map sgn).length * ("" : Str).length ≤ 16777216 := by
    rw [h0, hs]
    omega
  simp only [if_pos hb]
  rfl
/-- a name by its signs' numbers -/
theorem name_comp {g : MG} {m : MD} {δ : DEnv} {k : Nat} (f : Nat → Nat) (h : ∀ j < k, ∃ δ1, g (.int (0 + (j : Int))) δ = some δ1 ∧ m δ1 = .ok (.str (sgn (f j)))) : compR g mYes m δ (rng 0 k) = .ok (((List.range k).map f).map fun i => PyData.str (sgn i)) := by
  rw [List.map_map]
  exact compR_map fun j hj => by
    obtain ⟨δ1, e1, e2⟩ := h j (List.mem_range.mp hj)
    exact ⟨δ1, e1, rfl, e2⟩
/-! lowest terms by the law's own divisor -/
abbrev dvC : MT := mTest (mB neF (mR (mVar 1)) (mR (mC (.int 0))))
abbrev dvB : MS := mPar 0 1 (mCons (mV (mVar 1)) (mCons (mV (mB modF (mR (mVar 0)) (mR (mVar 1)))) mNil))
theorem dv_loop {r : DEnv} : ∀ (y x : Nat), mWhile dvC dvB (some (.val (.int (x : Int))) :: some (.val (.int (y : Int))) :: r) = .nx (some (.val (.int (Nat.gcd x y : Nat))) :: some (.val (.int 0)) :: r) := by
  intro y
  induction y using Nat.strongRecOn with
  | _ y ih =>
    intro x
    rw [mWhile_eq]
    by_cases h : y = 0
    · subst h
      simp
    · have hp : (0 : Int) < (y : Int) := by omega
      have hm : modF (.int (x : Int)) (.int (y : Int)) = .ok (.val (.int ((x % y : Nat) : Int))) := by rw [modF_pos hp]; rfl
      have e := ih (x % y) (Nat.mod_lt _ (by omega)) y
      have eg : Nat.gcd x y = Nat.gcd y (x % y) := by rw [Nat.gcd_comm x y, Nat.gcd_rec y x, Nat.gcd_comm]
      have c : dvC (some (.val (.int (x : Int))) :: some (.val (.int (y : Int))) :: r) = .ok true := by simp [h]
      have b : dvB (some (.val (.int (x : Int))) :: some (.val (.int (y : Int))) :: r) = .nx (some (.val (.int (y : Int))) :: some (.val (.int ((x % y : Nat) : Int))) :: r) := by simp [hm]
      rw [eg, ← e, c, out_ok', if_pos rfl, b]
      rfl
theorem dv_int {r : DEnv} (t : Int) {b : Int} (hb : 0 < b) : mWhile dvC dvB (some (.val (.int t)) :: some (.val (.int b)) :: r) = .nx (some (.val (.int (Int.gcd t b : Nat))) :: some (.val (.int 0)) :: r) := by
  obtain ⟨y, rfl⟩ : ∃ y : Nat, b = (y : Int) := ⟨b.toNat, by omega⟩
  rw [mWhile_eq]
  have hm : modF (.int t) (.int (y : Int)) = .ok (.val (.int (((t % (y : Int)).toNat : Nat) : Int))) := by
    rw [modF_pos hb, Int.toNat_of_nonneg (Int.emod_nonneg _ (by omega))]
  have e := dv_loop (r := r) (t % (y : Int)).toNat y
  have eg : Int.gcd t (y : Int) = Nat.gcd y (t % (y : Int)).toNat := by
    have : (((t % (y : Int)).toNat : Nat) : Int) = t % (y : Int) := Int.toNat_of_nonneg (Int.emod_nonneg _ (by omega))
    have e2 : Int.gcd (y : Int) (t % (y : Int)) = Nat.gcd y (t % (y : Int)).toNat := by
      rw [← this]; rfl
    rw [← e2, Int.gcd_comm t, Int.emod_def]
    simp
  have c : dvC (some (.val (.int t)) :: some (.val (.int (y : Int))) :: r) = .ok true := by
    have h0 : ¬ y = 0 := by omega
    simp [h0]
  have b : dvB (some (.val (.int t)) :: some (.val (.int (y : Int))) :: r) = .nx (some (.val (.int (y : Int))) :: some (.val (.int (((t % (y : Int)).toNat : Nat) : Int))) :: r) := by simp [hm]
  rw [eg, ← e, c, out_ok', if_pos rfl, b]
  rfl
end Pg
/-! DF: shares put together by keys; games folded -/
namespace Pg
open PySem L2 DL
section
variable {α : Type} [DecidableEq α]
abbrev Al (α : Type) := List (α × Rat)
def keys (L : Al α) : List α := L.map (·.1)
def acc (L : Al α) (a : α) (s : Rat) : Al α := if a ∈ keys L then L.map fun x => if x.1 = a then (x.1, x.2 + s) else x else L ++ [(a, s)]
theorem acc_in {L : Al α} {a : α} {s : Rat} (h : a ∈ keys L) : acc L a s = L.map fun x => if x.1 = a then (x.1, x.2 + s) else x := if_pos h
theorem acc_new {L : Al α} {a : α} {s : Rat} (h : a ∉ keys L) : acc L a s = L ++ [(a, s)] := if_neg h
theorem keys_in {L : Al α} {a : α} {s : Rat} (h : a ∈ keys L) : keys (acc L a s) = keys L := by
  rw [acc_in h, keys, keys, List.map_map]
  refine List.map_congr_left fun x _ => ?_
  simp only [Function.comp_apply]
  split <;> rfl
theorem keys_new {L : Al α} {a : α} {s : Rat} (h : a ∉ keys L) : keys (acc L a s) = keys L ++ [a] := by
  rw [acc_new h, keys, keys, List.map_append]; rfl
theorem mem_acc {L : Al α} {a b : α} {s : Rat} (h : b ∈ keys L) : b ∈ keys (acc L a s) := by
  by_cases e : a ∈ keys L
  · rw [keys_in e]; exact h
  · rw [keys_new e]; exact List.mem_append_left _ h
theorem self_acc {L : Al α} {a : α} {s : Rat} : a ∈ keys (acc L a s) := by
  by_cases e : a ∈ keys L
  · rw [keys_in e]; exact e
  · rw [keys_new e]; simp
theorem nodup_acc {L : Al α} {a : α} {s : Rat} (h : (keys L).Nodup) : (keys (acc L a s)).Nodup := by
  by_cases e : a ∈ keys L
  · rw [keys_in e]; exact h
  · rw [keys_new e, List.nodup_append]
    exact ⟨h, by simp, fun x hx y hy z => by
      rw [List.mem_singleton] at hy
      subst hy z
      exact e hx⟩
theorem acc_acc {L : Al α} {a : α} {s t : Rat} : acc (acc L a s) a t = acc L a (s + t) := by
  rw [acc_in self_acc]
  by_cases e : a ∈ keys L
  · rw [acc_in e, acc_in e, List.map_map]
    refine List.map_congr_left fun x _ => ?_
    simp only [Function.comp_apply]
    by_cases h : x.1 = a
    · simp [h, Rat.add_assoc]
    · simp [h]
  · rw [acc_new e, acc_new e, List.map_append]
    congr 1
    · have : ∀ x ∈ L, ¬ x.1 = a := fun x hx z => e (List.mem_map.mpr ⟨x, hx, z⟩)
      calc L.map (fun x => if x.1 = a then (x.1, x.2 + t) else x) = L.map id := List.map_congr_left fun x hx => by simp [this x hx]
        _ = L := List.map_id L
    · simp
theorem acc_comm {L : Al α} {a b : α} {s c : Rat} (h : a ∈ keys L) (hn : a ≠ b) : acc (acc L b c) a s = acc (acc L a s) b c := by
  rw [acc_in (mem_acc h)]
  by_cases e : b ∈ keys L
  · rw [acc_in e, acc_in (mem_acc e), acc_in h, List.map_map, List.map_map]
    refine List.map_congr_left fun x _ => ?_
    simp only [Function.comp_apply]
    by_cases h1 : x.1 = a
    · have : ¬ x.1 = b := fun z => hn (h1.symm.trans z)
      simp [h1, hn]
    · by_cases h2 : x.1 = b
      · simp [h2, Ne.symm hn]
      · simp [h1, h2]
  · rw [acc_new e, acc_new (by rw [keys_in h]; exact e), acc_in h, List.map_append]
    simp [Ne.symm hn]
def addAll (L M : Al α) : Al α := M.foldl (fun L x => acc L x.1 x.2) L
@[simp] theorem addAll_nil {L : Al α} : addAll L [] = L := rfl
theorem addAll_cons {L M : Al α} {x : α × Rat} : addAll L (x :: M) = addAll (acc L x.1 x.2) M := rfl
theorem addAll_app {L M N : Al α} : addAll L (M ++ N) = addAll (addAll L M) N := by simp [addAll, List.foldl_append]
theorem mem_addAll {a : α} : ∀ {M : Al α} {L : Al α}, a ∈ keys L → a ∈ keys (addAll L M)
  | [], _, h => h
  | _ :: M, _, h => mem_addAll (M := M) (mem_acc h)
theorem nodup_addAll : ∀ {M L : Al α}, (keys L).Nodup → (keys (addAll L M)).Nodup
  | [], _, h => h
  | _ :: M, _, h => nodup_addAll (M := M) (nodup_acc h)
theorem addAll_acc {a : α} {s : Rat} : ∀ {M L : Al α}, a ∈ keys L → a ∉ keys M → acc (addAll L M) a s = addAll (acc L a s) M
  | [], _, _, _ => rfl
  | (b, c) :: M, L, h, hm => by
    have h1 : a ≠ b := fun z => hm (by simp [keys, z])
    have h2 : a ∉ keys M := fun z => hm (List.mem_cons_of_mem _ z)
    rw [addAll_cons, addAll_cons, addAll_acc (M := M) (mem_acc h) h2, acc_comm h h1]
def sc (s : Rat) (M : Al α) : Al α := M.map fun x => (x.1, s * x.2)
theorem keys_sc {s : Rat} {M : Al α} : keys (sc s M) = keys M := by simp [keys, sc, Function.comp_def]
theorem addAll_sc {L C : Al α} {s m : Rat} {a : α} (hC : (keys C).Nodup) : addAll L (sc s (acc C a m)) = acc (addAll L (sc s C)) a (s * m) := by
  by_cases e : a ∈ keys C
  · obtain ⟨x, hx, rfl⟩ := List.mem_map.mp e
    obtain ⟨C1, C2, rfl⟩ := List.append_of_mem hx
    obtain ⟨a, c⟩ := x
    have e1 : keys (C1 ++ (a, c) :: C2) = keys C1 ++ a :: keys C2 := by simp [keys]
    rw [e1, List.nodup_append, List.nodup_cons] at hC
    have n1 : a ∉ keys C1 := fun z => hC.2.2 a z a List.mem_cons_self rfl
    have n2 : a ∉ keys C2 := hC.2.1.1
    have id1 : ∀ {D : Al α}, a ∉ keys D → (D.map fun x => if x.1 = a then (x.1, x.2 + m) else x) = D := fun {D} hD => by
      have : ∀ x ∈ D, ¬ x.1 = a := fun x hx z => hD (List.mem_map.mpr ⟨x, hx, z⟩)
      calc D.map (fun x => if x.1 = a then (x.1, x.2 + m) else x) = D.map id := List.map_congr_left fun x hx => by simp [this x hx]
        _ = D := List.map_id D
    have ea : acc (C1 ++ (a, c) :: C2) a m = C1 ++ (a, c + m) :: C2 := by
      rw [acc_in e, List.map_append, List.map_cons, id1 n1, id1 n2]
      simp
    rw [ea]
    have sa : ∀ y : Rat, sc s (C1 ++ (a, y) :: C2) = sc s C1 ++ (a, s * y) :: sc s C2 := fun y => by simp [sc]
    rw [sa, sa, addAll_app, addAll_app, addAll_cons, addAll_cons, addAll_acc self_acc (by rw [keys_sc]; exact n2)]
    show addAll (acc _ a (s * (c + m))) _ = addAll (acc (acc _ a (s * c)) a (s * m)) _
    rw [acc_acc, Rat.mul_add]
  · rw [acc_new e]
    have : sc s (C ++ [(a, m)]) = sc s C ++ [(a, s * m)] := by simp [sc]
    rw [this, addAll_app]
    rfl
theorem addAll_coll' {L : Al α} {s : Rat} : ∀ {M C : Al α}, (keys C).Nodup → addAll L (sc s (addAll C M)) = addAll (addAll L (sc s C)) (sc s M)
  | [], _, _ => rfl
  | x :: M, C, h => by
    rw [addAll_cons, addAll_coll' (M := M) (nodup_acc h), addAll_sc h]
    rfl
def coll (M : Al α) : Al α := addAll [] M
theorem nodup_coll (M : Al α) : (keys (coll M)).Nodup := nodup_addAll (by simp [keys])
theorem addAll_coll {L M : Al α} {s : Rat} : addAll L (sc s (coll M)) = addAll L (sc s M) := addAll_coll' (by simp [keys])
theorem addAll_flat {β : Type} {f : β → Rat} {g : β → Al α} : ∀ {ws : List β} {L : Al α}, addAll L (ws.flatMap fun w => sc (f w) (coll (g w))) = addAll L (ws.flatMap fun w => sc (f w) (g w))
  | [], _ => rfl
  | w :: ws, L => by
    rw [List.flatMap_cons, List.flatMap_cons, addAll_app, addAll_app, addAll_coll, addAll_flat (ws := ws)]
def tot (L : Al α) : Rat := sumQ (L.map (·.2))
theorem tot_app {L M : Al α} : tot (L ++ M) = tot L + tot M := by simp [tot, sumQ_append]
theorem tot_acc {L : Al α} {a : α} {s : Rat} (h : (keys L).Nodup) : tot (acc L a s) = tot L + s := by
  by_cases e : a ∈ keys L
  · rw [acc_in e]
    obtain ⟨x, hx, rfl⟩ := List.mem_map.mp e
    obtain ⟨C1, C2, rfl⟩ := List.append_of_mem hx
    obtain ⟨a, c⟩ := x
    have e1 : keys (C1 ++ (a, c) :: C2) = keys C1 ++ a :: keys C2 := by simp [keys]
    rw [e1, List.nodup_append, List.nodup_cons] at h
    have n1 : a ∉ keys C1 := fun z => h.2.2 a z a List.mem_cons_self rfl
    have n2 : a ∉ keys C2 := h.2.1.1
    have id1 : ∀ {D : Al α}, a ∉ keys D → (D.map fun x => if x.1 = a then (x.1, x.2 + s) else x) = D := fun {D} hD => by
      have : ∀ x ∈ D, ¬ x.1 = a := fun x hx z => hD (List.mem_map.mpr ⟨x, hx, z⟩)
      calc D.map (fun x => if x.1 = a then (x.1, x.2 + s) else x) = D.map id := List.map_congr_left fun x hx => by simp [this x hx]
        _ = D := List.map_id D
    rw [List.map_append, List.map_cons, id1 n1, id1 n2, tot_app, tot_app]
    simp only [tot, List.map_cons, sumQ, if_true]
    grind
  · rw [acc_new e, tot_app]
    simp [tot, sumQ, Rat.add_zero]
theorem tot_addAll : ∀ {M L : Al α}, (keys L).Nodup → tot (addAll L M) = tot L + tot M
  | [], L, _ => by simp [tot, sumQ, Rat.add_zero]
  | x :: M, L, h => by
    rw [addAll_cons, tot_addAll (M := M) (nodup_acc h), tot_acc h]
    simp only [tot, List.map_cons, sumQ]
    grind
theorem tot_coll {M : Al α} : tot (coll M) = tot M := by
  rw [coll, tot_addAll (by simp [keys])]
  simp [tot, sumQ, Rat.zero_add]
theorem tot_sc {s : Rat} : ∀ {M : Al α}, tot (sc s M) = s * tot M
  | [] => by simp [tot, sc, sumQ, Rat.mul_zero]
  | x :: M => by
    have ih := tot_sc (s := s) (M := M)
    simp only [tot, sc, List.map_cons, sumQ] at ih ⊢
    rw [ih, Rat.mul_add]
/-- all keys but once -/
theorem addAll_nodup : ∀ {M L : Al α}, (keys (L ++ M)).Nodup → addAll L M = L ++ M
  | [], L, _ => by simp
  | x :: M, L, h => by
    have h1 : x.1 ∉ keys L := fun z => by
      have e2 : keys (L ++ x :: M) = keys L ++ x.1 :: keys M := by simp [keys]
      rw [e2, List.nodup_append] at h
      exact h.2.2 _ z _ List.mem_cons_self rfl
    have e : L ++ x :: M = (L ++ [x]) ++ M := by simp
    rw [addAll_cons, acc_new h1, e]
    rw [e] at h
    exact addAll_nodup (M := M) h
theorem coll_nodup {M : Al α} (h : (keys M).Nodup) : coll M = M := by
  have := addAll_nodup (M := M) (L := []) (by simpa using h)
  simpa [coll] using this
/-! sizes -/
def SzL (k : Nat) (L : Al α) : Prop := ∀ x ∈ L, Sz k x.2
theorem szL_acc {L : Al α} {a : α} {s : Rat} {m n : Nat} (h : SzL m L) (hs : Sz n s) : SzL (m + n + 1) (acc L a s) := by
  intro x hx
  by_cases e : a ∈ keys L
  · rw [acc_in e] at hx
    obtain ⟨y, hy, rfl⟩ := List.mem_map.mp hx
    by_cases z : y.1 = a
    · simp only [z, if_true]; exact sz_add2 (h y hy) hs
    · simp only [z, if_false]; exact (h y hy).mono (by omega)
  · rw [acc_new e] at hx
    rcases List.mem_append.mp hx with hx | hx
    · exact (h x hx).mono (by omega)
    · rw [List.mem_singleton.mp hx]; exact hs.mono (by omega)
theorem szL_addAll {n : Nat} : ∀ {M L : Al α} {m : Nat}, SzL m L → SzL n M → SzL (m + M.length * (n + 1)) (addAll L M)
  | [], L, m, h, _ => by simpa using h
  | x :: M, L, m, h, k => by
    have := szL_addAll (M := M) (szL_acc (a := x.1) h (k x List.mem_cons_self)) fun y hy => k y (List.mem_cons_of_mem _ hy)
    intro y hy
    refine (this y hy).mono ?_
    rw [List.length_cons, Nat.succ_mul]
    omega
theorem szL_coll {M : Al α} {n : Nat} (h : SzL n M) : SzL (1 + M.length * (n + 1)) (coll M) := szL_addAll (fun x hx => by cases hx) h
theorem sz_mul2 {p q : Rat} {m n : Nat} (hp : Sz m p) (hq : Sz n q) : Sz (m + n) (p * q) := by
  rw [mul_divInt]
  exact sz_divInt (den_mul_ne p q) (mul_lt_pow hp.1 hq.1) (mul_lt_pow (by simpa using hp.2) (by simpa using hq.2))
theorem szL_sc {M : Al α} {s : Rat} {m n : Nat} (hs : Sz m s) (h : SzL n M) : SzL (m + n) (sc s M) := by
  intro x hx
  obtain ⟨y, hy, rfl⟩ := List.mem_map.mp hx
  exact sz_mul2 hs (h y hy)
theorem len_acc {L : Al α} {a : α} {s : Rat} : (acc L a s).length ≤ L.length + 1 := by
  by_cases e : a ∈ keys L
  · rw [acc_in e]; simp
  · rw [acc_new e]; simp
theorem len_addAll : ∀ {M L : Al α}, (addAll L M).length ≤ L.length + M.length
  | [], L => by simp
  | x :: M, L => by
    have a := len_addAll (M := M) (L := acc L x.1 x.2)
    have b := len_acc (L := L) (a := x.1) (s := x.2)
    rw [addAll_cons, List.length_cons]
    omega
theorem len_coll {M : Al α} : (coll M).length ≤ M.length := by
  have := len_addAll (M := M) (L := [])
  simpa [coll] using this
/-! in a dict -/
def getQ (L : Al α) (a : α) : Rat := ((L.find? fun x => decide (x.1 = a)).map (·.2)).getD 0
variable {enc : α → PyData}
theorem pair_of_nodup {L : Al α} (h : (keys L).Nodup) : L.Pairwise fun x y => x.1 ≠ y.1 := (List.pairwise_map (f := fun x : α × Rat => x.1)).mp h
theorem getQ_mem {L : Al α} (h : (keys L).Nodup) {x : α × Rat} (hx : x ∈ L) : getQ L x.1 = x.2 := by
  unfold getQ
  rw [find_mem (pair_of_nodup h) hx]
  rfl
theorem getQ_new {L : Al α} {a : α} (h : a ∉ keys L) : getQ L a = 0 := by
  unfold getQ
  rw [find_none fun x hx z => h (List.mem_map.mpr ⟨x, hx, z⟩)]
  rfl
theorem dget_q (hi : ∀ a b, kN (enc a) = kN (enc b) → a = b) (L : Al α) (a : α) : (dget (encL enc qD L) (enc a)).getD (qD 0) = qD (getQ L a) := by
  rw [dget_enc hi, getQ]
  cases L.find? fun x => decide (x.1 = a) <;> rfl
theorem dget_in (hi : ∀ a b, kN (enc a) = kN (enc b) → a = b) {L : Al α} (h : (keys L).Nodup) {x : α × Rat} (hx : x ∈ L) : dget (encL enc qD L) (enc x.1) = some (qD x.2) := by
  rw [dget_enc hi, find_mem (pair_of_nodup h) hx]
  rfl
theorem dput_acc (hi : ∀ a b, kN (enc a) = kN (enc b) → a = b) {L : Al α} (h : (keys L).Nodup) (a : α) (s : Rat) : dput (encL enc qD L) (enc a) (qD (getQ L a + s)) = encL enc qD (acc L a s) := by
  by_cases e : a ∈ keys L
  · obtain ⟨x, hx, rfl⟩ := List.mem_map.mp e
    unfold dput
    rw [dget_in hi h hx, if_pos (by rfl), acc_in e, encL, encL, List.map_map, List.map_map, getQ_mem h hx]
    refine List.map_congr_left fun y hy => ?_
    simp only [Function.comp_apply]
    by_cases z : y.1 = x.1
    · have : y.2 = x.2 := by rw [← getQ_mem h hy, ← getQ_mem h hx, z]
      simp [z, this]
    · have z2 : ¬ kN (enc y.1) = kN (enc x.1) := fun q => z (hi _ _ q)
      simp [z, z2]
  · rw [getQ_new e, Rat.zero_add, acc_new e, dput_new (b := s) hi fun x hx z => e (List.mem_map.mpr ⟨x, hx, z⟩)]
theorem keyAt_q (ho : ∀ a, okKey (enc a) = true) (ht : ∀ a, isTup (enc a) = true) (L : Al α) (a : α) : keyAt (encL enc qD L) (enc a) = true := keyAt_enc (ho a) fun x _ => by rw [ht, ht]
end
theorem times_q2 {p q : Rat} {m n : Nat} (h0 : 0 < m) (h1 : 0 < n) (h : m + n ≤ 8999) (hp : Sz m p) (hq : Sz n q) : d_times [.val (qD p), .val (qD q)] = .ok (.val (qD (p * q))) := by
  have pd : ((p.den : Int)).natAbs < 2 ^ m := by simpa using hp.2
  have qd : ((q.den : Int)).natAbs < 2 ^ n := by simpa using hq.2
  rw [mul_divInt]
  have hn : m + n ≤ 60000000 := by omega
  simp [d_times, mDef, b_times, start0, mul_in2 h0 h1 hn hp.1 hq.1, mul_in2 h0 h1 hn pd qd]
  rw [ratio_ok (den_mul_ne p q) (log_mul2 h0 h pd qd)]
  simp
end Pg
/-! DF2: folded -/
namespace Pg
open PySem L2 DL
theorem sz_0 : Sz 1 0 := ⟨by decide, by decide⟩
section
variable {α : Type} [DecidableEq α] {enc : α → PyData}
theorem szQ {L : Al α} {m : Nat} {a : α} (hm : 0 < m) (h : SzL m L) : Sz m (getQ L a) := by
  unfold getQ
  cases e : L.find? fun x => decide (x.1 = a) with
  | none => exact sz_0.mono hm
  | some x => exact h x (List.mem_of_find?_eq_some e)
def wD (enc : α → PyData) (x : α × Rat) : PyData := .tuple [qD x.2, enc x.1]
def nfD (enc : α → PyData) (nm : PyData) (C : Al α) : PyData := match C with
  | [x] => enc x.1
  | C => .tuple [.str "deal", nm, .tuple (C.map (wD enc))]
theorem nfD_one {nm : PyData} {C : Al α} (h : C.length = 1) : ∃ x, C = [x] ∧ nfD enc nm C = enc x.1 := by
  match C, h with
  | [x], _ => exact ⟨x, rfl, rfl⟩
theorem nfD_not {nm : PyData} {C : Al α} (h : C.length ≠ 1) : nfD enc nm C = .tuple [.str "deal", nm, .tuple (C.map (wD enc))] := by
  match C, h with
  | [], _ => rfl
  | [x], h => exact absurd rfl h
  | _ :: _ :: _, _ => rfl
theorem coll_take {M : Al α} {i : Nat} (hi : i < M.length) : coll (M.take (i + 1)) = acc (coll (M.take i)) M[i].1 M[i].2 := by
  rw [List.take_add_one, List.getElem?_eq_getElem hi, coll, Option.toList_some, addAll_app]
  rfl
theorem szL_take {M : Al α} {k i : Nat} (h : SzL k M) (hi : i ≤ M.length) : SzL (1 + M.length * (k + 1)) (coll (M.take i)) := by
  intro x hx
  have a := szL_coll (M := M.take i) (n := k) (fun y hy => h y (List.mem_of_mem_take hy)) x hx
  refine a.mono ?_
  have : (M.take i).length ≤ M.length := by rw [List.length_take]; exact Nat.min_le_right _ _
  have := Nat.mul_le_mul_right (k + 1) this
  omega
theorem szq_gen {M : Al α} {k : Nat} (hM : SzL k M) : ∀ i (h : i < M.length), Sz (1 + M.length * (k + 1)) (getQ (coll (M.take i)) M[i].1) := fun i h => szQ (by omega) (szL_take hM (Nat.le_of_lt h))
theorem szq_nodup {M : Al α} (hM : (keys M).Nodup) : ∀ i (h : i < M.length), Sz 1 (getQ (coll (M.take i)) M[i].1) := fun i h => by
  have e : M.take i ++ M[i] :: M.drop (i + 1) = M := by rw [← List.drop_eq_getElem_cons h, List.take_append_drop]
  rw [← e] at hM
  have e2 : keys (M.take i ++ M[i] :: M.drop (i + 1)) = keys (M.take i) ++ M[i].1 :: keys (M.drop (i + 1)) := by unfold keys; rw [List.map_append, List.map_cons]
  rw [e2, List.nodup_append] at hM
  rw [coll_nodup hM.1, getQ_new fun z => hM.2.2 _ z _ List.mem_cons_self rfl]
  exact sz_0
variable (hi : ∀ a b, kN (enc a) = kN (enc b) → a = b) (ho : ∀ a, okKey (enc a) = true) (ht : ∀ a, isTup (enc a) = true)
include hi ho ht
theorem folded_deal_ok {nm : PyData} {M : Al α} {k kq : Nat} (hk : 0 < k) (hM : SzL k M) (hkq : 0 < kq) (hq : ∀ i (h : i < M.length), Sz kq (getQ (coll (M.take i)) M[i].1)) (hs : kq + k ≤ 8900) (hl : M.length ≤ 1000) : d_folded_deal [.val nm, .val (.list (M.map (wD enc)))] = .ok (.val (nfD enc nm (coll M))) := by
  have e0 : d_folded_deal [.val nm, .val (.list (M.map (wD enc)))] = (b_folded_deal [some (.val nm), some (.val (.list (M.map (wD enc)))), none, none, none]).res := rfl
  rw [e0]
  unfold b_folded_deal
  rw [seq_nx (δ' := [some (.val nm), some (.val (.list (M.map (wD enc)))), some (.own (.dict (encL enc qD (coll (M.take 0))))), none, none]) (by rfl)]
  have F1 := for_ix (g := mgT 2 (mgCons (mgN 3) (mgCons (mgN 4) mgNil))) (it := miV 1) (b := L_folded_deal_1) (enc := wD enc) M (fun i δ => ∃ o3 o4, δ = [some (.val nm), some (.val (.list (M.map (wD enc)))), some (.own (.dict (encL enc qD (coll (M.take i))))), o3, o4]) (δ := [some (.val nm), some (.val (.list (M.map (wD enc)))), some (.own (.dict (encL enc qD (coll (M.take 0))))), none, none]) rfl (by
    rintro i hi' δ ⟨o3, o4, rfl⟩
    refine ⟨[some (.val nm), some (.val (.list (M.map (wD enc)))), some (.own (.dict (encL enc qD (coll (M.take i))))), some (.val (qD M[i].2)), some (.val (enc M[i].1))], rfl, _, ?_, ⟨some (.val (qD M[i].2)), some (.val (enc M[i].1)), rfl⟩⟩
    have hk2 := keyAt_q ho ht (coll (M.take i)) M[i].1
    have hg := dget_q hi (coll (M.take i)) M[i].1
    have hp := plus_q2 hkq hk (by omega) (hq i hi') (hM M[i] (List.getElem_mem hi'))
    have hd := dput_acc hi (nodup_coll (M.take i)) M[i].1 M[i].2
    have hlen : (encL enc qD (coll (M.take i))).length < sizeLine := by
      rw [encL_len]
      have a := len_coll (M := M.take i)
      have b : (M.take i).length ≤ M.length := by rw [List.length_take]; exact Nat.min_le_right _ _
      exact lt_sizeLine (by omega)
    have e01 : PyData.tuple [.int 0, .int 1] = qD 0 := rfl
    rw [coll_take hi', ← hd]
    simp [L_folded_deal_1, fits_of, e01, hk2, hg, hp, hlen]) ⟨none, none, rfl⟩
  obtain ⟨δ1, e1, o3, o4, rfl⟩ := F1
  rw [seq_nx e1, List.take_length]
  have hcl := len_coll (M := M)
  have hnd := nodup_coll M
  generalize coll M = C at hcl hnd
  by_cases h1 : C.length = 1
  · obtain ⟨x, rfl, e2⟩ := nfD_one (enc := enc) (nm := nm) h1
    rw [e2]
    simp [encL]
  · rw [nfD_not h1]
    have h1' : ¬ (C.length : Int) = 1 := by omega
    have hc : compR (mgN 4) mYes (mV (mTup (mCons (mV (mB gxF (mR (mVar 2)) (mR (mVar 4)))) (mCons (mV (mVar 4)) mNil)))) [some (.val nm), some (.val (.list (M.map (wD enc)))), some (.val (.dict (encL enc qD C))), o3, none] (C.map fun x => enc x.1) = .ok (C.map (wD enc)) := by
      refine compR_map fun x hx => ⟨_, rfl, rfl, ?_⟩
      have a := keyAt_q ho ht C x.1
      have b := dget_in hi hnd hx
      simp [a, b, fits_of, wD]
    have hf : fits (C.map fun x => enc x.1) = true := fits_of (by simp; omega)
    have hm : (encL enc qD C).map (·.1) = C.map fun x => enc x.1 := by simp [encL, Function.comp_def]
    simp [encL_len, h1', hm, hf, hc, fits_of]
end
end Pg
/-! DF3: folded, of deals and ends -/
namespace Pg
open PySem L2 DL
def endQ (q : Rat) : PyData := (Gm.fin q).d
theorem endQ_eq (q : Rat) : endQ q = .tuple [.str "end", .tuple [.int q.num, .int (q.den : Int)]] := by rw [endQ, Gm.d_fin]; rfl
theorem kN_endQ (q : Rat) : kN (endQ q) = .tup [.text "end", .tup [.num q.num, .num (q.den : Int)]] := by rw [endQ_eq]; rfl
theorem endQ_inj : ∀ a b : Rat, kN (endQ a) = kN (endQ b) → a = b := by
  intro a b h
  rw [kN_endQ, kN_endQ] at h
  injection h with h
  injection h with _ h
  injection h with h _
  injection h with h
  injection h with h1 h
  injection h with h2 _
  injection h1 with h1
  injection h2 with h2
  exact Rat.ext h1 (by omega)
theorem endQ_tup (q : Rat) : isTup (endQ q) = true := by rw [endQ_eq]; rfl
theorem endQ_ok (q : Rat) : okKey (endQ q) = true := by
  unfold okKey
  rw [kN_endQ, endQ_eq]
  simp [isTup, isKey, isKeys, NestedKey.depth, NestedKey.depthAll, flatKey]
theorem in_loop {rc : F} {D W p i : PyData} {s : Rat} {ks kc : Nat} (h0 : 0 < ks) (h1 : 0 < kc) (hk : ks + kc ≤ 8999) (hs : Sz ks s) : ∀ (C : Al Rat) (M : List PyData) (o5 o6 o7 : Option DL.Slot), SzL kc C → M.length + C.length ≤ 1000 → ∃ o5' o6', loopO (mgT 2 (mgCons (mgN 5) (mgCons (mgN 6) mgNil))) (L_folded_1 rc) (C.map (wD endQ)) [some (.val D), some (.own (.list M)), some (.val (qD s)), some (.val p), some (.val i), o5, o6, o7] = .nx [some (.val D), some (.own (.list (M ++ (sc s C).map (wD endQ)))), some (.val (qD s)), some (.val p), some (.val i), o5', o6', o7]
  | [], M, o5, o6, o7, _, _ => ⟨o5, o6, by simp [sc]⟩
  | x :: C, M, o5, o6, o7, hC, hl => by
    obtain ⟨o5', o6', e⟩ := in_loop (rc := rc) (D := D) (W := W) (p := p) (i := i) h0 h1 hk hs C (M ++ [wD endQ (x.1, s * x.2)]) (some (.val (qD x.2))) (some (.val (endQ x.1))) o7 (fun y hy => hC y (List.mem_cons_of_mem _ hy)) (by simp at hl ⊢; omega)
    refine ⟨o5', o6', ?_⟩
    have ht := times_q2 h0 h1 hk hs (hC x List.mem_cons_self)
    have hz : M.length < sizeLine := lt_sizeLine (by omega)
    have e2 : M ++ (sc s (x :: C)).map (wD endQ) = (M ++ [wD endQ (x.1, s * x.2)]) ++ (sc s C).map (wD endQ) := by simp [sc]
    rw [e2, ← e]
    simp [L_folded_1, wD, ht, hz, fits_of]
theorem folded_step {m : Nat} {nm : Str} {ws : List (Rat × Gm)} (Cs : Gm → Al Rat) {ks kc kq : Nat} (h0 : 0 < ks) (h1 : 0 < kc) (hk : ks + kc ≤ 8999)
    (h : ∀ w ∈ ws, Sz ks w.1 ∧ SzL kc (Cs w.2) ∧ ((Cs w.2).length = 1 → ∀ x ∈ Cs w.2, x.2 = 1) ∧ ∃ nd, d_folded m [.val w.2.d] = .ok (.val (nfD endQ nd (Cs w.2))))
    (hl : (ws.flatMap fun w => sc w.1 (Cs w.2)).length ≤ 1000) (hkq : 0 < kq) (hq : ∀ i (h : i < (ws.flatMap fun w => sc w.1 (Cs w.2)).length), Sz kq (getQ (coll ((ws.flatMap fun w => sc w.1 (Cs w.2)).take i)) (ws.flatMap fun w => sc w.1 (Cs w.2))[i].1)) (hs : kq + (ks + kc) ≤ 8900) :
    d_folded (m + 1) [.val (Gm.deal nm ws).d] = .ok (.val (nfD endQ (.str nm) (coll (ws.flatMap fun w => sc w.1 (Cs w.2))))) := by
  have e0 : d_folded (m + 1) [.val (Gm.deal nm ws).d] = (b_folded (d_folded m) [some (.val (Gm.deal nm ws).d), none, none, none, none, none, none, none]).res := rfl
  rw [e0]
  rw [Gm.d_deal]
  generalize hG : PyData.tuple [.str "deal", .str nm, .tuple (ws.map fun w => .tuple [qD w.1, w.2.d])] = G
  unfold b_folded
  rw [seq_nx (δ' := [some (.val G), none, none, none, none, none, none, none]) (by subst hG; simp), seq_nx (δ' := [some (.val G), none, none, none, none, none, none, none]) (by subst hG; simp), seq_nx (δ' := [some (.val G), some (.own (.list [])), none, none, none, none, none, none]) (by rfl)]
  have F1 := for_ix (g := mgT 2 (mgCons (mgN 2) (mgCons (mgN 3) mgNil))) (it := miQ (mV (mB ixF (mR (mVar 0)) (mR (mC (.int 2)))))) (b := L_folded_2 (d_folded m)) (enc := fun w : Rat × Gm => .tuple [qD w.1, w.2.d]) ws (fun i δ => ∃ o2 o3 o4 o5 o6 o7, δ = [some (.val G), some (.own (.list (((ws.take i).flatMap fun w => sc w.1 (Cs w.2)).map (wD endQ)))), o2, o3, o4, o5, o6, o7]) (δ := [some (.val G), some (.own (.list [])), none, none, none, none, none, none]) (by subst hG; simp) (by
    rintro i hi δ ⟨o2, o3, o4, o5, o6, o7, rfl⟩
    refine ⟨_, rfl, ?_⟩
    obtain ⟨z1, z2, z3, nd, z4⟩ := h ws[i] (List.getElem_mem hi)
    have ei : (ws.take (i + 1)).flatMap (fun w => sc w.1 (Cs w.2)) = (ws.take i).flatMap (fun w => sc w.1 (Cs w.2)) ++ sc ws[i].1 (Cs ws[i].2) := by
      rw [List.take_add_one, List.getElem?_eq_getElem hi, Option.toList_some, List.flatMap_append]
      simp
    have hlt : ((ws.take (i + 1)).flatMap fun w => sc w.1 (Cs w.2)).length ≤ 1000 := by
      refine Nat.le_trans (List.Sublist.length_le ?_) hl
      conv => rhs; rw [← List.take_append_drop (i + 1) ws, List.flatMap_append]
      exact List.sublist_append_left _ _
    rw [ei, List.length_append] at hlt
    generalize (ws.take i).flatMap (fun w => sc w.1 (Cs w.2)) = M at ei hlt
    rw [ei]
    have hsl : (sc ws[i].1 (Cs ws[i].2)).length = (Cs ws[i].2).length := by simp [sc]
    generalize ws[i] = w at *
    obtain ⟨s, p⟩ := w
    simp only at *
    generalize Cs p = C at *
    have hMz : (M.map (wD endQ)).length < sizeLine := by rw [List.length_map]; exact lt_sizeLine (by omega)
    unfold L_folded_2
    by_cases hc : C.length = 1
    · obtain ⟨x, rfl, e2⟩ := nfD_one (enc := endQ) (nm := nd) hc
      rw [e2] at z4
      have hx1 := z3 rfl x List.mem_cons_self
      have he : sc s [x] = [(x.1, s)] := by simp [sc, hx1, Rat.mul_one]
      rw [he]
      refine ⟨[some (.val G), some (.own (.list ((M ++ [(x.1, s)]).map (wD endQ)))), some (.val (qD s)), some (.val p.d), some (.val (endQ x.1)), o5, o6, o7], ?_, ⟨_, _, _, _, _, _, rfl⟩⟩
      rw [seq_nx (δ' := [some (.val G), some (.own (.list (M.map (wD endQ)))), some (.val (qD s)), some (.val p.d), some (.val (endQ x.1)), o5, o6, o7]) (by simp [z4])]
      have ht : mTest (mB eqF (mR (mB ixF (mR (mVar 4)) (mR (mC (.int 0))))) (mR (mC (.str "deal")))) [some (.val G), some (.own (.list (M.map (wD endQ)))), some (.val (qD s)), some (.val p.d), some (.val (endQ x.1)), o5, o6, o7] = .ok false := by
        rw [endQ_eq]
        simp
      rw [mIf_ap, ht, out_ok', if_neg (by decide)]
      have hMz' : M.length < sizeLine := by simpa using hMz
      simp [frz, hMz', fits_of, wD]
    · rw [nfD_not hc] at z4
      obtain ⟨o5', o6', e3⟩ := in_loop (rc := d_folded m) (D := G) (W := G) (p := p.d) (i := .tuple [.str "deal", nd, .tuple (C.map (wD endQ))]) h0 h1 hk z1 C (M.map (wD endQ)) o5 o6 o7 z2 (by simp; omega)
      refine ⟨[some (.val G), some (.own (.list ((M ++ sc s C).map (wD endQ)))), some (.val (qD s)), some (.val p.d), some (.val (.tuple [.str "deal", nd, .tuple (C.map (wD endQ))])), o5', o6', o7], ?_, ⟨_, _, _, _, _, _, rfl⟩⟩
      rw [seq_nx (δ' := [some (.val G), some (.own (.list (M.map (wD endQ)))), some (.val (qD s)), some (.val p.d), some (.val (.tuple [.str "deal", nd, .tuple (C.map (wD endQ))])), o5, o6, o7]) (by simp [z4])]
      have ht : mTest (mB eqF (mR (mB ixF (mR (mVar 4)) (mR (mC (.int 0))))) (mR (mC (.str "deal")))) [some (.val G), some (.own (.list (M.map (wD endQ)))), some (.val (qD s)), some (.val p.d), some (.val (.tuple [.str "deal", nd, .tuple (C.map (wD endQ))])), o5, o6, o7] = .ok true := by simp
      rw [mIf_ap, ht, out_ok', if_pos rfl, List.map_append, ← e3]
      simp) ⟨_, _, _, _, _, _, rfl⟩
  obtain ⟨δ1, e1, o2, o3, o4, o5, o6, o7, rfl⟩ := F1
  rw [seq_nx e1, List.take_length]
  have hM : SzL (ks + kc) (ws.flatMap fun w => sc w.1 (Cs w.2)) := by
    intro x hx
    obtain ⟨w, hw, hx⟩ := List.mem_flatMap.mp hx
    exact szL_sc (h w hw).1 (h w hw).2.1 x hx
  have hd := folded_deal_ok endQ_inj endQ_ok endQ_tup (nm := .str nm) (k := ks + kc) (by omega) hM hkq hq hs hl
  subst hG
  simp [frz, hd]
theorem folded_fin {m : Nat} {q : Rat} : d_folded (m + 1) [.val (endQ q)] = .ok (.val (endQ q)) := by
  have e0 : d_folded (m + 1) [.val (endQ q)] = (b_folded (d_folded m) [some (.val (endQ q)), none, none, none, none, none, none, none]).res := rfl
  rw [e0, endQ_eq]
  simp [b_folded]
end Pg
/-! DI: what is a name, a place, a game -/
namespace Pg
open PySem L2 DL TL
/-- a walk that stops at the first that is none -/
theorem loop_chk {α : Type} {g : MG} {b : MS} {enc : α → PyData} {p : α → Bool} {mk : Option DL.Slot → DEnv} : ∀ {xs : List α} (o : Option DL.Slot), (∀ x ∈ xs, ∀ o, ∃ δ1, g (enc x) (mk o) = some δ1 ∧ b δ1 = if p x = true then .nx (mk (some (.val (enc x)))) else .rt (.val (.bool false)) (mk (some (.val (enc x))))) → ∃ o', loopO g b (xs.map enc) (mk o) = if xs.all p = true then .nx (mk o') else .rt (.val (.bool false)) (mk o')
  | [], o, _ => ⟨o, by simp⟩
  | x :: xs, o, h => by
    obtain ⟨δ1, e1, e2⟩ := h x List.mem_cons_self o
    rw [List.map_cons, loopO_cons, e1]
    simp only [e2]
    by_cases hp : p x = true
    · obtain ⟨o', e⟩ := loop_chk (xs := xs) (some (.val (enc x))) fun y hy => h y (List.mem_cons_of_mem _ hy)
      refine ⟨o', ?_⟩
      simp only [hp, if_true, e, List.all_cons, Bool.true_and]
    · refine ⟨some (.val (enc x)), ?_⟩
      simp [hp]
def sgnB (c : Nat) : Bool := strIn ⟨#[c]⟩ S36
def isNameB : PyData → Bool
  | .str z => decide (1 ≤ z.length ∧ z.length ≤ 8) && (tl z).all sgnB
  | _ => false
def shortB : PyData → Bool
  | .str z => decide (z.length ≤ 10000)
  | _ => true
theorem name_any {d : PyData} (h : shortB d = true) : d_is_name [.val d] = .ok (.val (.bool (isNameB d))) := by
  cases d with
  | str z =>
    have hz : z.length ≤ 10000 := of_decide_eq_true h
    have el := lenF_str hz
    have e0 : d_is_name [.val (.str z)] = (b_is_name [some (.val (.str z)), none]).res := rfl
    rw [e0]
    unfold b_is_name
    by_cases hl : 1 ≤ z.length ∧ z.length ≤ 8
    · rw [seq_nx (δ' := [some (.val (.str z)), none]) (by
        have h1 : (1 : Int) ≤ (z.length : Int) := by omega
        have h2 : (z.length : Int) ≤ 8 := by omega
        have h3 := hl.1
        have h4 := hl.2
        simp [el, h1, h2])]
      obtain ⟨o', e⟩ := loop_chk (g := mgN 1) (b := mIf (mTest (mB (inF true) (mR (mVar 1)) (mR (mC (.str S36))))) (mRet (mC (.bool false))) mNext) (enc := fun c : Nat => .str ⟨#[c]⟩) (p := sgnB) (mk := fun o => [some (.val (.str z)), o]) (xs := tl z) none (by
        intro c _ o
        refine ⟨_, rfl, ?_⟩
        cases hs : sgnB c <;> simp [inF_str, show strIn ⟨#[c]⟩ S36 = sgnB c from rfl, hs])
      have e' : mFor (mgN 1) (miV 0) (mIf (mTest (mB (inF true) (mR (mVar 1)) (mR (mC (.str S36))))) (mRet (mC (.bool false))) mNext) [some (.val (.str z)), none] = if (tl z).all sgnB = true then .nx [some (.val (.str z)), o'] else .rt (.val (.bool false)) [some (.val (.str z)), o'] := e
      cases hall : (tl z).all sgnB
      · rw [seq_rt (by rw [e', hall, if_neg (by decide)])]
        simp [isNameB, hall]
      · rw [seq_nx (by rw [e', hall, if_pos rfl])]
        simp [isNameB, hall, hl.1, hl.2]
    · have eb : isNameB (.str z) = false := by simp [isNameB, hl]
      rw [eb]
      rw [seq_rt (s := .val (.bool false)) (δ' := [some (.val (.str z)), none]) (by
        by_cases h1 : 1 ≤ z.length
        · have h2 : ¬ z.length ≤ 8 := fun q => hl ⟨h1, q⟩
          have h1' : (1 : Int) ≤ (z.length : Int) := by omega
          have h2' : ¬ (z.length : Int) ≤ 8 := by omega
          simp [el, h1', h2']
        · have h1' : ¬ (1 : Int) ≤ (z.length : Int) := by omega
          simp [el, h1'])]
      rfl
  | none => simp [d_is_name, mDef, b_is_name, start0, isNameB]
  | bool _ => simp [d_is_name, mDef, b_is_name, start0, isNameB]
  | int _ => simp [d_is_name, mDef, b_is_name, start0, isNameB]
  | list _ => simp [d_is_name, mDef, b_is_name, start0, isNameB]
  | tuple _ => simp [d_is_name, mDef, b_is_name, start0, isNameB]
  | dict _ => simp [d_is_name, mDef, b_is_name, start0, isNameB]
def pairO : PyData → Option (PyData × PyData)
  | .tuple [a, b] => some (a, b)
  | _ => none
def pairsB (d : PyData) (most : Nat) : Bool := match d with
  | .tuple ds => decide (1 ≤ ds.length ∧ ds.length ≤ most) && ds.all fun x => (pairO x).isSome
  | _ => false
theorem pairO_len {ds : List PyData} : (pairO (.tuple ds)).isSome = decide (ds.length = 2) := by
  match ds with
  | [] => rfl
  | [_] => rfl
  | [_, _] => rfl
  | _ :: _ :: _ :: _ => simp [pairO]
theorem pairs_any (d : PyData) (most : Nat) : d_are_pairs [.val d, .val (.int (most : Int))] = .ok (.val (.bool (pairsB d most))) := by
  cases d with
  | tuple ds =>
    have e0 : d_are_pairs [.val (.tuple ds), .val (.int (most : Int))] = (b_are_pairs [some (.val (.tuple ds)), some (.val (.int (most : Int))), none]).res := rfl
    rw [e0]
    unfold b_are_pairs
    by_cases hl : 1 ≤ ds.length ∧ ds.length ≤ most
    · rw [seq_nx (δ' := [some (.val (.tuple ds)), some (.val (.int (most : Int))), none]) (by
        have h1 : (1 : Int) ≤ (ds.length : Int) := by omega
        have h3 := hl.2
        simp [h1, h3])]
      obtain ⟨o', e⟩ := loop_chk (g := mgN 2) (b := mIf (mOr (mNot (mTest (mIsi "tuple" (mR (mVar 2))))) (mTest (mB neF (mR (mBi lenF (mCons (mR (mVar 2)) mNil))) (mR (mC (.int 2)))))) (mRet (mC (.bool false))) mNext) (enc := fun x : PyData => x) (p := fun x => (pairO x).isSome) (mk := fun o => [some (.val (.tuple ds)), some (.val (.int (most : Int))), o]) (xs := ds) none (by
        intro x _ o
        refine ⟨_, rfl, ?_⟩
        cases x with
        | tuple zs =>
          rw [pairO_len]
          by_cases hz : zs.length = 2
          · simp [hz]
          · have hz' : ¬ (zs.length : Int) = 2 := by omega
            simp [hz, hz']
        | none => simp [pairO]
        | bool _ => simp [pairO]
        | int _ => simp [pairO]
        | str _ => simp [pairO]
        | list _ => simp [pairO]
        | dict _ => simp [pairO])
      rw [List.map_id'] at e
      have e' : mFor (mgN 2) (miV 0) (mIf (mOr (mNot (mTest (mIsi "tuple" (mR (mVar 2))))) (mTest (mB neF (mR (mBi lenF (mCons (mR (mVar 2)) mNil))) (mR (mC (.int 2)))))) (mRet (mC (.bool false))) mNext) [some (.val (.tuple ds)), some (.val (.int (most : Int))), none] = if (ds.all fun x => (pairO x).isSome) = true then .nx [some (.val (.tuple ds)), some (.val (.int (most : Int))), o'] else .rt (.val (.bool false)) [some (.val (.tuple ds)), some (.val (.int (most : Int))), o'] := e
      cases hall : (ds.all fun x => (pairO x).isSome)
      · rw [seq_rt (by rw [e', hall, if_neg (by decide)])]
        simp [pairsB, hall]
      · rw [seq_nx (by rw [e', hall, if_pos rfl])]
        simp [pairsB, hall, hl.1, hl.2]
    · have eb : pairsB (.tuple ds) most = false := by simp [pairsB, hl]
      rw [eb]
      rw [seq_rt (s := .val (.bool false)) (δ' := [some (.val (.tuple ds)), some (.val (.int (most : Int))), none]) (by
        by_cases h1 : 1 ≤ ds.length
        · have h2 : ¬ ds.length ≤ most := fun q => hl ⟨h1, q⟩
          have h1' : (1 : Int) ≤ (ds.length : Int) := by omega
          simp [h1', h2]
        · have h1' : ¬ (1 : Int) ≤ (ds.length : Int) := by omega
          simp [h1'])]
      rfl
  | none => simp [d_are_pairs, mDef, b_are_pairs, start0, pairsB]
  | bool _ => simp [d_are_pairs, mDef, b_are_pairs, start0, pairsB]
  | int _ => simp [d_are_pairs, mDef, b_are_pairs, start0, pairsB]
  | str _ => simp [d_are_pairs, mDef, b_are_pairs, start0, pairsB]
  | list _ => simp [d_are_pairs, mDef, b_are_pairs, start0, pairsB]
  | dict _ => simp [d_are_pairs, mDef, b_are_pairs, start0, pairsB]
def wholeB : PyData → Bool
  | .int _ => true
  | _ => false
theorem whole_any (d : PyData) : d_is_whole [.val d] = .ok (.val (.bool (wholeB d))) := by
  cases d <;> simp [wholeB]
def ratioB : PyData → Bool
  | .tuple [.int t, .int b] => decide (1 ≤ b ∧ Int.gcd t b = 1)
  | _ => false
theorem ratio_any (d : PyData) : d_is_ratio [.val d] = .ok (.val (.bool (ratioB d))) := by
  cases d with
  | tuple ds =>
    by_cases hl : ds.length = 2
    · obtain ⟨x, y, rfl⟩ : ∃ x y, ds = [x, y] := by
        match ds, hl with
        | [x, y], _ => exact ⟨x, y, rfl⟩
      cases hx : wholeB x
      · rw [is_ratio_no (.inl (by rw [whole_any, hx]))]
        cases x <;> first | rfl | (cases hx)
      · cases hy : wholeB y
        · rw [is_ratio_no (.inr ⟨by rw [whole_any, hx], by rw [whole_any, hy]⟩)]
          cases x <;> first | (cases hx; done) | skip
          cases y <;> first | rfl | (cases hy)
        · cases x <;> first | (cases hx; done) | skip
          cases y <;> first | (cases hy; done) | skip
          rw [is_ratio_two]
          rfl
    · rw [is_ratio_len hl]
      match ds, hl with
      | [], _ => rfl
      | [_], _ => simp [ratioB]
      | [_, _], h => exact absurd rfl h
      | _ :: _ :: _ :: _, _ => simp [ratioB]
  | none => simp [ratioB]
  | bool _ => simp [ratioB]
  | int _ => simp [ratioB]
  | str _ => simp [ratioB]
  | list _ => simp [ratioB]
  | dict _ => simp [ratioB]
/-! a place -/
def rowsOf : PyData → List (PyData × PyData)
  | .tuple ds => ds.filterMap pairO
  | _ => []
def textO : PyData → Option Str
  | .str z => some z
  | _ => none
def sideB : PyData → Bool
  | .int i => decide (i = 1 ∨ i = 2)
  | _ => false
def labelsOf (W : PyData) : List PyData := (rowsOf W).map (·.1)
def wordsOf (W : PyData) : List Str := (labelsOf W).filterMap textO
def isPlaceB : PyData → Bool
  | .tuple (.str t :: r) =>
    if (t == ("end" : Str)) = true then (match r with | [q] => ratioB q | _ => false)
    else if (t == ("deal" : Str)) = true then (match r with | [nm, W] => isNameB nm && (pairsB W 64 && (labelsOf W).all ratioB) | _ => false)
    else if (t == ("move" : Str)) = true then (match r with | [s, nm, W] => sideB s && (isNameB nm && (pairsB W 6 && ((labelsOf W).all isNameB && decide (wordsOf W).Nodup))) | _ => false)
    else false
  | _ => false
/-- what the walk over it can read -/
def okPB : PyData → Bool
  | .tuple (.str t :: r) => PyData.strOk t && r.all fun x => shortB x && (labelsOf x).all shortB
  | _ => true
theorem filterPair {ds : List PyData} (h : (ds.all fun x => (pairO x).isSome) = true) : ds = (ds.filterMap pairO).map fun p => .tuple [p.1, p.2] := by
  induction ds with
  | nil => rfl
  | cons x ds ih =>
    simp only [List.all_cons, Bool.and_eq_true] at h
    obtain ⟨p, hp⟩ := Option.isSome_iff_exists.mp h.1
    rw [List.filterMap_cons_some hp, List.map_cons, ← ih h.2]
    congr 1
    match x, hp with
    | .tuple [a, b], hp => simp only [pairO, Option.some.injEq] at hp; subst hp; rfl
theorem pairs_rows {W : PyData} {most : Nat} (h : pairsB W most = true) : W = .tuple ((rowsOf W).map fun p => .tuple [p.1, p.2]) ∧ 1 ≤ (rowsOf W).length ∧ (rowsOf W).length ≤ most := by
  cases W with
  | tuple ds =>
    simp only [pairsB, Bool.and_eq_true, decide_eq_true_eq] at h
    have e := filterPair h.2
    refine ⟨by rw [rowsOf, ← e], ?_⟩
    have : (rowsOf (.tuple ds)).length = ds.length := by
      conv => rhs; rw [e, List.length_map]
      rfl
    rw [this]
    exact h.1
  | none => cases h
  | bool _ => cases h
  | int _ => cases h
  | str _ => cases h
  | list _ => cases h
  | dict _ => cases h
theorem all_texts : ∀ {ls : List PyData}, ls.all isNameB = true → ls = (ls.filterMap textO).map PyData.str
  | [], _ => rfl
  | x :: ls, h => by
    simp only [List.all_cons, Bool.and_eq_true] at h
    cases x with
    | str z =>
      have e : (PyData.str z :: ls).filterMap textO = z :: ls.filterMap textO := rfl
      rw [e, List.map_cons, ← all_texts h.2]
    | none => exact absurd h.1 (by simp [isNameB])
    | bool _ => exact absurd h.1 (by simp [isNameB])
    | int _ => exact absurd h.1 (by simp [isNameB])
    | list _ => exact absurd h.1 (by simp [isNameB])
    | tuple _ => exact absurd h.1 (by simp [isNameB])
    | dict _ => exact absurd h.1 (by simp [isNameB])
theorem in12 {i : Int} : inF true (.int i) (.tuple [.int 1, .int 2]) = .ok (.val (.bool (!decide (i = 1 ∨ i = 2)))) := by
  have h1 : SeqAt.shaped (.tuple [.int 1, .int 2]) = true := by simp [SeqAt.shaped, PyData.canLay0, PyData.canLayAll0, PyData.depth, PyData.depthAll]
  show (if SeqAt.shaped (.int i) = true ∧ SeqAt.shaped (.tuple [.int 1, .int 2]) = true then okB (true != [PyData.int 1, .int 2].any fun z => PyData.eqv z (.int i)) else .stuck) = _
  rw [if_pos ⟨shaped_int i, h1⟩]
  have e : ∀ a : Int, PyData.eqv (.int a) (.int i) = (a == i) := fun a => rfl
  simp only [List.any_cons, List.any_nil, e, Bool.or_false]
  by_cases a : i = 1
  · subst a; rfl
  · by_cases b : i = 2
    · subst b; rfl
    · have a' : ((1 : Int) == i) = false := beq_false_of_ne fun z => a z.symm
      have b' : ((2 : Int) == i) = false := beq_false_of_ne fun z => b z.symm
      rw [a', b']
      simp [a, b]
@[simp] theorem at_43 {α : Type} {x y z w : α} : atI [x, y, z, w] 3 = some w := rfl
theorem place_eq (d : PyData) : d_is_place [.val d] = (b_is_place [some (.val d), none, none, none, none]).res := rfl
theorem comp_map {g : MG} {m : MD} {δ : DEnv} {α : Type} {f h : α → PyData} {xs : List α} (H : ∀ x ∈ xs, ∃ δ1, g (f x) δ = some δ1 ∧ m δ1 = .ok (h x)) : compR g mYes m δ (xs.map f) = .ok (xs.map h) := compR_map fun x hx => by
  obtain ⟨δ1, e1, e2⟩ := H x hx
  exact ⟨δ1, e1, rfl, e2⟩
theorem place_deal {nm W : PyData} (hn : shortB nm = true) : d_is_place [.val (.tuple [.str "deal", nm, W])] = .ok (.val (.bool (isNameB nm && (pairsB W 64 && (labelsOf W).all ratioB)))) := by
  have e1 := name_any hn
  have e2 := pairs_any W 64
  have e2' : d_are_pairs [.val W, .val (.int 64)] = .ok (.val (.bool (pairsB W 64))) := e2
  rw [place_eq]
  cases h1 : isNameB nm
  · rw [h1] at e1
    simp [b_is_place, e1]
  · rw [h1] at e1
    cases h2 : pairsB W 64
    · rw [h2] at e2'
      simp [b_is_place, e1, e2']
    · rw [h2] at e2'
      obtain ⟨ew, l1, l2⟩ := pairs_rows h2
      have c : ∀ D : PyData, compR (mgT 2 (mgCons (mgN 2) (mgCons (mgN 3) mgNil))) mYes (mV (mCall Pg.d_is_ratio (mACons (mVar 2) mANil))) [some (.val D), none, none, none, none] ((rowsOf W).map fun p => .tuple [p.1, p.2]) = .ok ((rowsOf W).map fun p => .bool (ratioB p.1)) := fun D => comp_map fun p hp => ⟨_, rfl, by simp [ratio_any]⟩
      have ha := allF_map ((rowsOf W).map fun p => ratioB p.1)
      have ea : ((rowsOf W).map fun p => ratioB p.1).all id = (labelsOf W).all ratioB := by simp [labelsOf, List.all_map, Function.comp_def]
      rw [ea, List.map_map] at ha
      have hf : fits ((rowsOf W).map fun p => PyData.tuple [p.1, p.2]) = true := fits_of (by simp; omega)
      have ha' : allF [.list ((rowsOf W).map fun p => .bool (ratioB p.1))] = .ok (.val (.bool ((labelsOf W).all ratioB))) := ha
      have c' := c (.tuple [.str "deal", nm, W])
      have es : seqOf W = .ok ((rowsOf W).map fun p => .tuple [p.1, p.2]) := by
        conv => lhs; rw [ew]
        rfl
      generalize ((rowsOf W).map fun p => PyData.tuple [p.1, p.2]) = rs at *
      generalize ((rowsOf W).map fun p => PyData.bool (ratioB p.1)) = bs at *
      simp [b_is_place, e1, e2', es, hf, c', ha']
theorem place_move {s nm W : PyData} (hn : shortB nm = true) (hw : (labelsOf W).all shortB = true) : d_is_place [.val (.tuple [.str "move", s, nm, W])] = .ok (.val (.bool (sideB s && (isNameB nm && (pairsB W 6 && ((labelsOf W).all isNameB && decide (wordsOf W).Nodup)))))) := by
  have e0 := whole_any s
  have e1 := name_any hn
  have e2 : d_are_pairs [.val W, .val (.int 6)] = .ok (.val (.bool (pairsB W 6))) := pairs_any W 6
  rw [place_eq]
  cases hs : sideB s
  · have : wholeB s = false ∨ ∃ i, s = .int i ∧ ¬ (i = 1 ∨ i = 2) := by
      cases s <;> first | exact .inl rfl | exact .inr ⟨_, rfl, by simpa [sideB] using hs⟩
    rcases this with h | ⟨i, rfl, h⟩
    · rw [h] at e0
      simp [b_is_place, e0]
    · have e3 := in12 (i := i)
      rw [decide_eq_false h] at e3
      simp [b_is_place, e3, fits_of]
  · obtain ⟨i, rfl, hi⟩ : ∃ i, s = .int i ∧ (i = 1 ∨ i = 2) := by
      cases s <;> first | exact ⟨_, rfl, by simpa [sideB] using hs⟩ | (exact absurd hs (by simp [sideB]))
    have e3 := in12 (i := i)
    rw [decide_eq_true hi] at e3
    cases h1 : isNameB nm
    · rw [h1] at e1
      simp [b_is_place, e3, e1, fits_of]
    · rw [h1] at e1
      cases h2 : pairsB W 6
      · rw [h2] at e2
        simp [b_is_place, e3, e1, e2, fits_of]
      · rw [h2] at e2
        obtain ⟨ew, l1, l2⟩ := pairs_rows h2
        have hf : fits ((rowsOf W).map fun p => PyData.tuple [p.1, p.2]) = true := fits_of (by simp; omega)
        have es : seqOf W = .ok ((rowsOf W).map fun p => .tuple [p.1, p.2]) := by
          conv => lhs; rw [ew]
          rfl
        have c1 : compR (mgT 2 (mgCons (mgN 4) (mgCons (mgN 3) mgNil))) mYes (mV (mVar 4)) [some (.val (.tuple [.str "move", .int i, nm, W])), none, none, none, none] ((rowsOf W).map fun p => .tuple [p.1, p.2]) = .ok ((rowsOf W).map fun p => p.1) := comp_map fun p hp => ⟨_, rfl, by simp⟩
        have hl : (labelsOf W).length ≤ 6 := by rw [labelsOf, List.length_map]; exact l2
        have c1' : compR (mgT 2 (mgCons (mgN 4) (mgCons (mgN 3) mgNil))) mYes (mV (mVar 4)) [some (.val (.tuple [.str "move", .int i, nm, W])), none, none, none, none] ((rowsOf W).map fun p => .tuple [p.1, p.2]) = .ok (labelsOf W) := c1
        have c2 : compR (mgN 4) mYes (mV (mCall Pg.d_is_name (mACons (mVar 4) mANil))) [some (.val (.tuple [.str "move", .int i, nm, W])), some (.val (.list (labelsOf W))), none, none, none] ((labelsOf W).map fun x => x) = .ok ((labelsOf W).map fun x => .bool (isNameB x)) := comp_map fun x hx => ⟨_, rfl, by simp [name_any (List.all_eq_true.mp hw x hx)]⟩
        rw [List.map_id'] at c2
        have ha := allF_map ((labelsOf W).map isNameB)
        have ea : ((labelsOf W).map isNameB).all id = (labelsOf W).all isNameB := by simp [List.all_map, Function.comp_def]
        rw [ea, List.map_map] at ha
        have ha' : allF [.list ((labelsOf W).map fun x => .bool (isNameB x))] = .ok (.val (.bool ((labelsOf W).all isNameB))) := ha
        have hf2 : fits (labelsOf W) = true := fits_of (by omega)
        have hls : (labelsOf W).all isNameB = true → lenSetF (.list (labelsOf W)) = .ok (.val (.int (unl (wordsOf W) (wordsOf W).length : Nat))) ∧ (labelsOf W).length = (wordsOf W).length := fun h => by
          have e := all_texts h
          have e3 : (labelsOf W).length = (wordsOf W).length := by
            conv => lhs; rw [e, List.length_map]
            rfl
          refine ⟨?_, e3⟩
          conv => lhs; rw [e]
          exact lenSetF_map (by show (wordsOf W).length ≤ 1000; omega)
        generalize labelsOf W = ls at *
        generalize ((rowsOf W).map fun p => PyData.tuple [p.1, p.2]) = rs at *
        generalize (ls.map fun x => PyData.bool (isNameB x)) = bs at *
        cases h3 : ls.all isNameB
        · rw [h3] at ha'
          simp [b_is_place, e3, e1, e2, fits_of, es, hf, c1', frz, hf2, c2, ha']
        · rw [h3] at ha'
          obtain ⟨q1, q2⟩ := hls h3
          have q3 := unl_nodup (xs := wordsOf W)
          have q4 : ((unl (wordsOf W) (wordsOf W).length : Nat) : Int) = (ls.length : Int) ↔ (wordsOf W).Nodup := by rw [q2, ← q3]; omega
          generalize ((unl (wordsOf W) (wordsOf W).length : Nat) : Int) = k at *
          by_cases hn : (wordsOf W).Nodup
          · have := q4.2 hn
            simp [b_is_place, e3, e1, e2, fits_of, es, hf, c1', frz, hf2, c2, ha', q1, this, hn]
          · have : ¬ k = (ls.length : Int) := fun z => hn (q4.1 z)
            simp [b_is_place, e3, e1, e2, fits_of, es, hf, c1', frz, hf2, c2, ha', q1, this, hn]
theorem place_any {d : PyData} (h : okPB d = true) : d_is_place [.val d] = .ok (.val (.bool (isPlaceB d))) := by
  cases d with
  | tuple ds =>
    match ds, h with
    | [], _ => rw [place_eq]; simp [b_is_place, isPlaceB]
    | [x], _ =>
      have e : isPlaceB (.tuple [x]) = false := by
        cases x <;> first | rfl | skip
        simp only [isPlaceB]
        split <;> (try split) <;> (try split) <;> rfl
      rw [place_eq, e]; simp [b_is_place]
    | x :: y :: r, h =>
      have hl2 : ¬ ((x :: y :: r).length : Int) < 2 := by simp only [List.length_cons]; omega
      by_cases hx : ∃ t, x = .str t
      · obtain ⟨t, rfl⟩ := hx
        simp only [okPB, Bool.and_eq_true] at h
        obtain ⟨ht, hr⟩ := h
        have hlt : lenF [.tuple (.str t :: y :: r)] = .ok (.val (.int ((r.length + 1 + 1 : Nat) : Int))) := rfl
        have hk : ¬ ((r.length + 1 + 1 : Nat) : Int) < 2 := by omega
        by_cases h1 : (t == ("end" : Str)) = true
        · have et : t = "end" := by simpa using h1
          subst et
          match r, hr with
          | [], hr =>
            have e : isPlaceB (.tuple [.str "end", y]) = ratioB y := by simp [isPlaceB]
            rw [place_eq, e]
            simp [b_is_place, ratio_any]
          | z :: r, hr =>
            have e : isPlaceB (.tuple (.str "end" :: y :: z :: r)) = false := by simp [isPlaceB]
            have hk2 : ¬ ((z :: r).length + 1 + 1 : Nat) = 2 := by simp
            rw [place_eq, e]
            have hn : ¬ (r.length : Int) + 1 + 1 + 1 < 2 := by omega
            have hn2 : ¬ (r.length : Int) + 1 + 1 + 1 = 2 := by omega
            simp [b_is_place, hn, hn2]
        · have h1' : (t == ("end" : Str)) = false := by simpa using h1
          by_cases h2 : (t == ("deal" : Str)) = true
          · have et : t = "deal" := by simpa using h2
            subst et
            match r, hr with
            | [W], hr =>
              simp only [List.all_cons, List.all_nil, Bool.and_eq_true] at hr
              have e : isPlaceB (.tuple [.str "deal", y, W]) = (isNameB y && (pairsB W 64 && (labelsOf W).all ratioB)) := by simp [isPlaceB]
              rw [e, place_deal hr.1.1]
            | [], hr =>
              have e : isPlaceB (.tuple [.str "deal", y]) = false := by simp [isPlaceB]
              rw [place_eq, e]
              simp [b_is_place]
            | a :: b :: r, hr =>
              have e : isPlaceB (.tuple (.str "deal" :: y :: a :: b :: r)) = false := by simp [isPlaceB]
              rw [place_eq, e]
              have hn : ¬ (r.length : Int) + 1 + 1 + 1 + 1 < 2 := by omega
              have hn2 : ¬ (r.length : Int) + 1 + 1 + 1 + 1 = 3 := by omega
              simp [b_is_place, hn, hn2]
          · have h2' : (t == ("deal" : Str)) = false := by simpa using h2
            have hn0 : ¬ (r.length : Int) + 1 + 1 < 2 := by omega
            by_cases h3 : (t == ("move" : Str)) = true
            · have et : t = "move" := by simpa using h3
              subst et
              match r, hr with
              | [nm, W], hr =>
                simp only [List.all_cons, List.all_nil, Bool.and_eq_true] at hr
                have e : isPlaceB (.tuple [.str "move", y, nm, W]) = (sideB y && (isNameB nm && (pairsB W 6 && ((labelsOf W).all isNameB && decide (wordsOf W).Nodup)))) := by simp [isPlaceB]
                rw [e, place_move hr.2.1.1 hr.2.2.1.2]
              | [], hr =>
                have e : isPlaceB (.tuple [.str "move", y]) = false := by simp [isPlaceB]
                rw [place_eq, e]
                simp [b_is_place]
              | [a], hr =>
                have e : isPlaceB (.tuple [.str "move", y, a]) = false := by simp [isPlaceB]
                rw [place_eq, e]
                simp [b_is_place]
              | a :: b :: c :: r, hr =>
                have e : isPlaceB (.tuple (.str "move" :: y :: a :: b :: c :: r)) = false := by simp [isPlaceB]
                rw [place_eq, e]
                have hn : ¬ (r.length : Int) + 1 + 1 + 1 + 1 + 1 < 2 := by omega
                have hn2 : ¬ (r.length : Int) + 1 + 1 + 1 + 1 + 1 = 4 := by omega
                simp [b_is_place, hn, hn2]
            · have h3' : (t == ("move" : Str)) = false := by simpa using h3
              have e : isPlaceB (.tuple (.str t :: y :: r)) = false := by simp only [isPlaceB, h1', h2', h3']; simp
              rw [place_eq, e]
              simp [b_is_place, hn0, ht, h1', h2', h3']
      · have e : isPlaceB (.tuple (x :: y :: r)) = false := by
          cases x <;> first | rfl | exact absurd ⟨_, rfl⟩ hx
        have hn0 : ¬ (r.length : Int) + 1 + 1 < 2 := by omega
        rw [place_eq, e]
        cases x <;> first | exact absurd ⟨_, rfl⟩ hx | simp [b_is_place, hn0]
  | none => rw [place_eq]; simp [b_is_place, isPlaceB]
  | bool _ => rw [place_eq]; simp [b_is_place, isPlaceB]
  | int _ => rw [place_eq]; simp [b_is_place, isPlaceB]
  | str _ => rw [place_eq]; simp [b_is_place, isPlaceB]
  | list _ => rw [place_eq]; simp [b_is_place, isPlaceB]
  | dict _ => rw [place_eq]; simp [b_is_place, isPlaceB]
/-! what stands behind a place -/
def partsB : PyData → List PyData
  | .tuple [.str _, _, W] => (rowsOf W).map (·.2)
  | .tuple [.str _, _, _, W] => (rowsOf W).map (·.2)
  | _ => []
theorem parts_eq (d : PyData) : d_parts_of [.val d] = (b_parts_of [some (.val d), none, none]).res := rfl
theorem parts_any {d : PyData} (h : isPlaceB d = true) : d_parts_of [.val d] = .ok (.own (.list (partsB d))) := by
  cases d with
  | tuple ds =>
    match ds, h with
    | .str t :: r, h =>
      have go : ∀ {W : PyData} {most : Nat}, most ≤ 64 → pairsB W most = true → ∀ D : PyData, seqOf W = .ok ((rowsOf W).map fun p => .tuple [p.1, p.2]) ∧ fits ((rowsOf W).map fun p => PyData.tuple [p.1, p.2]) = true ∧ compR (mgT 2 (mgCons (mgN 1) (mgCons (mgN 2) mgNil))) mYes (mV (mVar 2)) [some (.val D), none, none] ((rowsOf W).map fun p => .tuple [p.1, p.2]) = .ok ((rowsOf W).map fun p => p.2) := fun {W most} hm h2 D => by
        obtain ⟨ew, l1, l2⟩ := pairs_rows h2
        refine ⟨?_, fits_of (by simp; omega), comp_map fun p hp => ⟨_, rfl, by simp⟩⟩
        conv => lhs; rw [ew]
        rfl
      simp only [isPlaceB] at h
      by_cases h1 : (t == ("end" : Str)) = true
      · have et : t = "end" := by simpa using h1
        subst et
        rw [if_pos h1] at h
        match r, h with
        | [q], _ => rw [parts_eq]; simp [b_parts_of, partsB]
      · rw [if_neg h1] at h
        by_cases h2 : (t == ("deal" : Str)) = true
        · have et : t = "deal" := by simpa using h2
          subst et
          rw [if_pos h2] at h
          match r, h with
          | [nm, W], h =>
            simp only [Bool.and_eq_true] at h
            obtain ⟨a, b, c⟩ := go (by decide) h.2.1 (.tuple [.str "deal", nm, W])
            rw [parts_eq]
            have e : partsB (.tuple [.str "deal", nm, W]) = (rowsOf W).map fun p => p.2 := rfl
            rw [e]
            generalize ((rowsOf W).map fun p => PyData.tuple [p.1, p.2]) = rs at *
            simp [b_parts_of, a, b, c]
        · rw [if_neg h2] at h
          by_cases h3 : (t == ("move" : Str)) = true
          · have et : t = "move" := by simpa using h3
            subst et
            rw [if_pos h3] at h
            match r, h with
            | [s, nm, W], h =>
              simp only [Bool.and_eq_true] at h
              obtain ⟨a, b, c⟩ := go (by decide) h.2.2.1 (.tuple [.str "move", s, nm, W])
              rw [parts_eq]
              have e : partsB (.tuple [.str "move", s, nm, W]) = (rowsOf W).map fun p => p.2 := rfl
              rw [e]
              generalize ((rowsOf W).map fun p => PyData.tuple [p.1, p.2]) = rs at *
              simp [b_parts_of, a, b, c]
          · rw [if_neg h3] at h; cases h
  | none => cases h
  | bool _ => cases h
  | int _ => cases h
  | str _ => cases h
  | list _ => cases h
  | dict _ => cases h
/-! a game -/
def isGameF : Nat → PyData → Bool
  | 0, _ => false
  | n + 1, d => isPlaceB d && (partsB d).all (isGameF n)
def fitF : Nat → PyData → Bool
  | 0, _ => false
  | n + 1, d => okPB d && (!isPlaceB d || (partsB d).all (fitF n))
def nodesF : Nat → PyData → Nat
  | 0, _ => 1
  | n + 1, d => 1 + if isPlaceB d = true then ((partsB d).map (nodesF n)).sum else 0
theorem nodes_pos : ∀ n d, 1 ≤ nodesF n d
  | 0, _ => Nat.le_refl 1
  | n + 1, d => by show 1 ≤ 1 + _; omega
abbrev Wt := List (Nat × PyData)
def wsum (ps : Wt) : Nat := (ps.map fun p => nodesF p.1 p.2).sum
theorem wsum_app (a b : Wt) : wsum (a ++ b) = wsum a + wsum b := by simp [wsum]
theorem wsum_len : ∀ ps : Wt, ps.length ≤ wsum ps
  | [] => Nat.le_refl 0
  | p :: ps => by
    have := wsum_len ps
    have := nodes_pos p.1 p.2
    simp only [wsum, List.map_cons, List.sum_cons, List.length_cons] at *
    omega
theorem can_mem : ∀ {ds : List PyData} {x : PyData}, x ∈ ds → PyData.canLayAll0 ds = true → x.canLay0 = true
  | y :: ds, x, h, c => by
    simp only [PyData.canLayAll0, Bool.and_eq_true] at c
    rcases List.mem_cons.mp h with rfl | h
    · exact c.1
    · exact can_mem h c.2
theorem depth_mem : ∀ {ds : List PyData} {x : PyData}, x ∈ ds → x.depth ≤ PyData.depthAll ds
  | y :: ds, x, h => by
    simp only [PyData.depthAll]
    rcases List.mem_cons.mp h with rfl | h
    · omega
    · have := depth_mem h
      omega
theorem rows_mem {W : PyData} {p : PyData × PyData} (h : p ∈ rowsOf W) (c : W.canLay0 = true) : p.2.canLay0 = true ∧ p.2.depth ≤ W.depth := by
  cases W with
  | tuple ds =>
    obtain ⟨x, hx, e⟩ := List.mem_filterMap.mp h
    match x, e with
    | .tuple [a, b], e =>
      simp only [pairO, Option.some.injEq] at e
      subst e
      simp only [PyData.canLay0] at c
      have c1 := can_mem hx c
      simp only [PyData.canLay0] at c1
      have d1 := depth_mem hx
      have d2 : b.depth ≤ PyData.depthAll [a, b] := depth_mem (by simp)
      refine ⟨can_mem (x := b) (by simp) c1, ?_⟩
      simp only [PyData.depth] at d1 ⊢
      omega
  | none => cases h
  | bool _ => cases h
  | int _ => cases h
  | str _ => cases h
  | list _ => cases h
  | dict _ => cases h
theorem parts_can {d x : PyData} (h : x ∈ partsB d) (c : d.canLay0 = true) : x.canLay0 = true ∧ x.depth ≤ d.depth := by
  match d, h with
  | .tuple [.str t, nm, W], h =>
    obtain ⟨p, hp, rfl⟩ := List.mem_map.mp h
    simp only [PyData.canLay0] at c
    obtain ⟨a, b⟩ := rows_mem hp (can_mem (x := W) (by simp) c)
    have d2 : W.depth ≤ PyData.depthAll [.str t, nm, W] := depth_mem (by simp)
    refine ⟨a, ?_⟩
    simp only [PyData.depth] at *
    omega
  | .tuple [.str t, s, nm, W], h =>
    obtain ⟨p, hp, rfl⟩ := List.mem_map.mp h
    simp only [PyData.canLay0] at c
    obtain ⟨a, b⟩ := rows_mem hp (can_mem (x := W) (by simp) c)
    have d2 : W.depth ≤ PyData.depthAll [.str t, s, nm, W] := depth_mem (by simp)
    refine ⟨a, ?_⟩
    simp only [PyData.depth] at *
    omega
theorem game_loop {G : PyData} : ∀ (N : Nat) (ps : Wt) (o : Option DL.Slot), wsum ps ≤ N → N ≤ 9990 → (∀ p ∈ ps, fitF p.1 p.2 = true) →
    ∃ δ, mWhile C_is_game_1 L_is_game_2 [some (.val G), some (.own (.list (ps.map (·.2)))), o] = if (ps.all fun p => isGameF p.1 p.2) = true then .nx δ else .rt (.val (.bool false)) δ := by
  intro N
  induction N with
  | zero =>
    intro ps o hN h9 hf
    have hl := wsum_len ps
    have : ps = [] := List.eq_nil_of_length_eq_zero (by omega)
    subst this
    refine ⟨[some (.val G), some (.own (.list [])), o], ?_⟩
    rw [mWhile_eq, List.map_nil]
    have e : C_is_game_1 [some (.val G), some (.own (.list [])), o] = .ok false := by simp [C_is_game_1, neG_nil]
    rw [e]
    rfl
  | succ N ih =>
    intro ps o hN h9 hf
    rcases List.eq_nil_or_concat ps with rfl | ⟨qs, p, rfl⟩
    · refine ⟨[some (.val G), some (.own (.list [])), o], ?_⟩
      rw [mWhile_eq, List.map_nil]
      have e : C_is_game_1 [some (.val G), some (.own (.list [])), o] = .ok false := by simp [C_is_game_1, neG_nil]
      rw [e]
      rfl
    · rw [List.concat_eq_append] at hN hf ⊢
      obtain ⟨n, d⟩ := p
      have hfp := hf (n, d) (by simp)
      cases n with
      | zero => cases hfp
      | succ n =>
        simp only [fitF, Bool.and_eq_true, Bool.or_eq_true, Bool.not_eq_true'] at hfp
        have ep := place_any hfp.1
        have ne := neG_nil (ds := (qs ++ [(n + 1, d)]).map (·.2))
        have ec : C_is_game_1 [some (.val G), some (.own (.list ((qs ++ [(n + 1, d)]).map (·.2)))), o] = .ok true := by
          have h0 : ((qs ++ [(n + 1, d)]).map (·.2)).isEmpty = false := by simp
          rw [h0] at ne
          generalize (qs ++ [(n + 1, d)]).map (·.2) = L at ne
          simp [C_is_game_1, ne]
        have hpop : mPopG 1 (mgN 2) [some (.val G), some (.own (.list ((qs ++ [(n + 1, d)]).map (·.2)))), o] = .nx [some (.val G), some (.own (.list (qs.map (·.2)))), some (.val d)] := by
          simp [mPopG, popD, tgtO]
        rw [mWhile_eq, ec, out_ok', if_pos rfl]
        cases hp : isPlaceB d
        · rw [hp] at ep
          refine ⟨[some (.val G), some (.own (.list (qs.map (·.2)))), some (.val d)], ?_⟩
          have eb : L_is_game_2 [some (.val G), some (.own (.list ((qs ++ [(n + 1, d)]).map (·.2)))), o] = .rt (.val (.bool false)) [some (.val G), some (.own (.list (qs.map (·.2)))), some (.val d)] := by
            unfold L_is_game_2
            rw [seq_nx hpop]
            simp [frz, ep]
          rw [eb]
          have ef : ((qs ++ [(n + 1, d)]).all fun p => isGameF p.1 p.2) = false := by simp [isGameF, hp]
          rw [ef, if_neg (by decide)]
          rfl
        · rw [hp] at ep
          have eq := parts_any hp
          have hfx : ∀ x ∈ partsB d, fitF n x = true := by
            rcases hfp.2 with h | h
            · rw [hp] at h; cases h
            · exact List.all_eq_true.mp h
          have hsum : wsum (qs ++ (partsB d).map fun x => (n, x)) + 1 = wsum (qs ++ [(n + 1, d)]) := by
            rw [wsum_app, wsum_app]
            have e1 : wsum ((partsB d).map fun x => (n, x)) = ((partsB d).map (nodesF n)).sum := by simp [wsum, Function.comp_def]
            have e2 : wsum [(n + 1, d)] = 1 + ((partsB d).map (nodesF n)).sum := by simp [wsum, nodesF, hp]
            rw [e1, e2]
            omega
          have hlen := wsum_len (qs ++ (partsB d).map fun x => (n, x))
          have hlen2 : qs.length + (partsB d).length ≤ 10000 := by
            rw [List.length_append, List.length_map] at hlen
            omega
          obtain ⟨δ, e⟩ := ih (qs ++ (partsB d).map fun x => (n, x)) (some (.val d)) (by omega) (by omega) (fun p hp => by
            rcases List.mem_append.mp hp with hp | hp
            · exact hf p (List.mem_append_left _ hp)
            · obtain ⟨x, hx, rfl⟩ := List.mem_map.mp hp
              exact hfx x hx)
          refine ⟨δ, ?_⟩
          have eb : L_is_game_2 [some (.val G), some (.own (.list ((qs ++ [(n + 1, d)]).map (·.2)))), o] = .nx [some (.val G), some (.own (.list ((qs ++ (partsB d).map fun x => (n, x)).map (·.2)))), some (.val d)] := by
            unfold L_is_game_2
            rw [seq_nx hpop]
            have hm : (qs ++ (partsB d).map fun x => (n, x)).map (·.2) = qs.map (·.2) ++ partsB d := by simp [Function.comp_def]
            rw [hm]
            simp [frz, ep, eq, hlen2]
          rw [eb]
          show mWhile _ _ _ = _
          rw [e]
          have ef : ((qs ++ [(n + 1, d)]).all fun p => isGameF p.1 p.2) = ((qs ++ (partsB d).map fun x => (n, x)).all fun p => isGameF p.1 p.2) := by
            simp [isGameF, hp, List.all_map, Function.comp_def]
          rw [ef]
theorem game_any {n : Nat} {d : PyData} (hf : fitF n d = true) (hn : nodesF n d ≤ 9990) : d_is_game [.val d] = .ok (.val (.bool (isGameF n d))) := by
  obtain ⟨δ, e⟩ := game_loop (G := d) 9990 [(n, d)] none (by simpa [wsum] using hn) (Nat.le_refl _) (by simpa using hf)
  have e0 : d_is_game [.val d] = (b_is_game [some (.val d), none, none]).res := rfl
  rw [e0]
  unfold b_is_game
  rw [seq_nx (δ' := [some (.val d), some (.own (.list [d])), none]) (by simp)]
  have e1 : ([(n, d)] : Wt).map (·.2) = [d] := rfl
  rw [e1] at e
  have e2 : (([(n, d)] : Wt).all fun p => isGameF p.1 p.2) = isGameF n d := by simp
  rw [e2] at e
  cases h : isGameF n d
  · rw [h, if_neg (by decide)] at e
    rw [seq_rt e]
    rfl
  · rw [h, if_pos rfl] at e
    rw [seq_nx e]
    simp
end Pg
/-! DS: places seen with records, the table -/
namespace Pg
open PySem L2 DL
@[simp] theorem at_43s {α : Type} {x y z w : α} : atI [x, y, z, w] 3 = some w := rfl
abbrev Rec := List (Str × Str)
abbrev Rc := Rec × Rec
def prD (p : Str × Str) : PyData := .tuple [.str p.1, .str p.2]
def recD (r : Rec) : PyData := .tuple (r.map prD)
def rcD (r : Rc) : PyData := .tuple [recD r.1, recD r.2]
def addR (s : Int) (nm w : Str) (r : Rc) : Rc := if s = 1 then (r.1 ++ [(nm, w)], r.2) else (r.1, r.2 ++ [(nm, w)])
def Gm.brs (g : Gm) (r : Rc) : List (Gm × Rc) := match g with
  | .fin _ => []
  | .deal _ ws => ws.map fun w => (w.2, r)
  | .move s nm ws => ws.map fun w => (w.2, addR s nm w.1 r)
theorem Gm.brs_parts (g : Gm) (r : Rc) : (g.brs r).map (·.1) = g.parts := by
  cases g <;> simp [Gm.brs, Gm.parts, Function.comp_def]
theorem Gm.brs_len (g : Gm) (r : Rc) : (g.brs r).length = g.parts.length := by rw [← g.brs_parts r, List.length_map]
def brD (x : Gm × Rc) : PyData := .tuple [x.1.d, rcD x.2]
def RcB (k : Nat) (r : Rc) : Prop := r.1.length ≤ k ∧ r.2.length ≤ k
theorem RcB.mono {k m : Nat} {r : Rc} (h : RcB k r) (hm : k ≤ m) : RcB m r := ⟨Nat.le_trans h.1 hm, Nat.le_trans h.2 hm⟩
theorem RcB.add {k : Nat} {r : Rc} {s : Int} {nm w : Str} (h : RcB k r) : RcB (k + 1) (addR s nm w r) := by
  unfold addR
  split
  · exact ⟨by simp; exact h.1, Nat.le_succ_of_le h.2⟩
  · exact ⟨Nat.le_succ_of_le h.1, by simp; exact h.2⟩
theorem RcB.brs {k : Nat} {r : Rc} {g : Gm} (h : RcB k r) : ∀ x ∈ g.brs r, RcB (k + 1) x.2 := by
  intro x hx
  cases g with
  | fin _ => simp [Gm.brs] at hx
  | deal nm ws =>
    obtain ⟨w, _, rfl⟩ := List.mem_map.mp hx
    exact h.mono (by omega)
  | move s nm ws =>
    obtain ⟨w, _, rfl⟩ := List.mem_map.mp hx
    exact h.add
theorem rec_snoc {r : Rec} {p : Str × Str} (h : r.length ≤ 9000) : addF (recD r) (.tuple [prD p]) = .ok (.val (recD (r ++ [p]))) := by
  have : (r.map prD).length + [prD p].length ≤ 10000 := by simp; omega
  simp only [recD, addF_tup this, List.map_append, List.map_cons, List.map_nil]
theorem behind_ok {s : Int} {nm w : Str} {W : PyData} {r : Rc} {k : Nat} (hk : k ≤ 9000) (h : RcB k r) : d_behind [.val (rcD r), .val (.tuple [.str "move", .int s, .str nm, W]), .val (.str w)] = .ok (.val (rcD (addR s nm w r))) := by
  have a1 := rec_snoc (r := r.1) (p := (nm, w)) (Nat.le_trans h.1 hk)
  have a2 := rec_snoc (r := r.2) (p := (nm, w)) (Nat.le_trans h.2 hk)
  obtain ⟨r1, r2⟩ := r
  have ep : prD (nm, w) = .tuple [.str nm, .str w] := rfl
  rw [ep] at a1 a2
  unfold addR
  by_cases hs : s = 1
  · subst hs
    simp [d_behind, mDef, b_behind, start0, rcD, a1]
  · simp [d_behind, mDef, b_behind, start0, rcD, a2, hs]
theorem branches_ok {g : Gm} {r : Rc} {k : Nat} (hk : k ≤ 9000) (hl : g.parts.length ≤ 64) (h : RcB k r) : d_branches [.val g.d, .val (rcD r)] = .ok (.own (.list ((g.brs r).map brD))) := by
  cases g with
  | fin q =>
    rw [Gm.d_fin]
    simp [d_branches, mDef, b_branches, start0, Gm.brs]
  | deal nm ws =>
    rw [Gm.d_deal]
    generalize hG : PyData.tuple [.str "deal", .str nm, .tuple (ws.map fun w => .tuple [qD w.1, w.2.d])] = G
    have c : compR (mgT 2 (mgCons (mgN 2) (mgCons (mgN 3) mgNil))) mYes (mV (mTup (mCons (mV (mVar 3)) (mCons (mV (mVar 1)) mNil)))) [some (.val G), some (.val (rcD r)), none, none, none] (ws.map fun w => .tuple [qD w.1, w.2.d]) = .ok (ws.map fun w => brD (w.2, r)) := compR_map fun w hw => ⟨_, rfl, rfl, by simp [brD, fits_of]⟩
    have hfit : fits (ws.map fun w : Rat × Gm => PyData.tuple [qD w.1, w.2.d]) = true := fits_of (by simp [Gm.parts] at hl; simp; omega)
    have e : ((Gm.deal nm ws).brs r).map brD = ws.map fun w => brD (w.2, r) := by simp [Gm.brs]
    rw [e]
    have e0 : d_branches [.val G, .val (rcD r)] = (b_branches [some (.val G), some (.val (rcD r)), none, none, none]).res := rfl
    rw [e0]
    subst hG
    simp [b_branches, c, hfit]
  | move s nm ws =>
    rw [Gm.d_move]
    generalize hG : PyData.tuple [.str "move", .int s, .str nm, .tuple (ws.map fun w => .tuple [.str w.1, w.2.d])] = G
    have c : compR (mgT 2 (mgCons (mgN 4) (mgCons (mgN 3) mgNil))) mYes (mV (mTup (mCons (mV (mVar 3)) (mCons (mV (mCall Pg.d_behind (mACons (mVar 1) (mACons (mVar 0) (mACons (mVar 4) mANil))))) mNil)))) [some (.val G), some (.val (rcD r)), none, none, none] (ws.map fun w => .tuple [.str w.1, w.2.d]) = .ok (ws.map fun w => brD (w.2, addR s nm w.1 r)) := compR_map fun w hw => by
      have b := behind_ok (s := s) (nm := nm) (w := w.1) (W := .tuple (ws.map fun w => .tuple [.str w.1, w.2.d])) hk h
      rw [hG] at b
      exact ⟨_, rfl, rfl, by simp [brD, fits_of, b]⟩
    have hfit : fits (ws.map fun w : Str × Gm => PyData.tuple [.str w.1, w.2.d]) = true := fits_of (by simp [Gm.parts] at hl; simp; omega)
    have e : ((Gm.move s nm ws).brs r).map brD = ws.map fun w => brD (w.2, addR s nm w.1 r) := by simp [Gm.brs]
    rw [e]
    have e0 : d_branches [.val G, .val (rcD r)] = (b_branches [some (.val G), some (.val (rcD r)), none, none, none]).res := rfl
    rw [e0]
    subst hG
    simp [b_branches, c, hfit]
/-! the places with the records there -/
abbrev Pc := List Int × Gm × Rc
def pcD (x : Pc) : PyData := .tuple [wayD x.1, x.2.1.d, rcD x.2.2]
def kidsRAt (w : List Int) : Nat → List (Gm × Rc) → List Pc
  | _, [] => []
  | i, p :: ps => (w ++ [(i : Int)], p.1, p.2) :: kidsRAt w (i + 1) ps
def kidsR (x : Pc) : List Pc := kidsRAt x.1 0 (x.2.1.brs x.2.2)
theorem kidsRAt_len (w : List Int) : ∀ (i : Nat) (ps : List (Gm × Rc)), (kidsRAt w i ps).length = ps.length
  | _, [] => rfl
  | i, p :: ps => by simp [kidsRAt, kidsRAt_len w (i + 1) ps]
theorem kidsRAt_mem {w : List Int} : ∀ {i : Nat} {ps : List (Gm × Rc)} {y : Pc}, y ∈ kidsRAt w i ps → ∃ j, j < ps.length ∧ y.1 = w ++ [((i + j : Nat) : Int)] ∧ ps[j]? = some (y.2.1, y.2.2)
  | _, [], y, h => by simp [kidsRAt] at h
  | i, p :: ps, y, h => by
    simp only [kidsRAt, List.mem_cons] at h
    rcases h with rfl | h
    · exact ⟨0, by simp, by simp, by simp⟩
    · obtain ⟨j, hj, e1, e2⟩ := kidsRAt_mem h
      exact ⟨j + 1, by simp; omega, by rw [e1, show i + (j + 1) = i + 1 + j by omega], by simpa using e2⟩
theorem kidsRAt_get {w : List Int} : ∀ {i j : Nat} {ps : List (Gm × Rc)} {p : Gm × Rc}, ps[j]? = some p → (kidsRAt w i ps)[j]? = some (w ++ [((i + j : Nat) : Int)], p.1, p.2)
  | i, 0, q :: ps, p, h => by simp at h; subst h; simp [kidsRAt]
  | i, j + 1, q :: ps, p, h => by
    have := kidsRAt_get (w := w) (i := i + 1) (j := j) (ps := ps) (p := p) (by simpa using h)
    simp only [kidsRAt, List.getElem?_cons_succ, this, show i + 1 + j = i + (j + 1) by omega]
  | i, j, [], p, h => by simp at h
theorem kidsR_br {x y : Pc} (h : y ∈ kidsR x) : (y.2.1, y.2.2) ∈ x.2.1.brs x.2.2 := by
  obtain ⟨j, hj, _, e⟩ := kidsRAt_mem h
  exact List.mem_of_getElem? e
theorem kidsR_mem {x y : Pc} (h : y ∈ kidsR x) : y.2.1 ∈ x.2.1.parts := by
  rw [← Gm.brs_parts x.2.1 x.2.2]
  exact List.mem_map.mpr ⟨_, kidsR_br h, rfl⟩
def seenP (x : Pc) : List Pc := x :: (kidsR x).attach.flatMap fun y => seenP y.1
termination_by sizeOf x.2.1
decreasing_by exact Gm.part_lt (kidsR_mem y.2)
theorem seenP_eq (x : Pc) : seenP x = x :: (kidsR x).flatMap seenP := by
  rw [seenP]
  congr 1
  have : (kidsR x).attach.flatMap (fun y => seenP y.1) = ((kidsR x).attach.map Subtype.val).flatMap seenP := by rw [List.flatMap_map]
  rw [this, List.attach_map_subtype_val]
theorem kidsRAt_map2 (w : List Int) : ∀ (i : Nat) (ps : List (Gm × Rc)), (kidsRAt w i ps).map (·.2.1) = ps.map (·.1)
  | _, [] => rfl
  | i, p :: ps => by simp [kidsRAt, kidsRAt_map2 w (i + 1) ps]
theorem seenP_len (x : Pc) : (seenP x).length = x.2.1.many := by
  obtain ⟨w, g, r⟩ := x
  induction g using Gm.ind generalizing w r with
  | h g ih =>
    rw [seenP_eq, Gm.many_eq, List.length_cons, List.length_flatMap]
    have : (kidsR (w, g, r)).map (fun a => (seenP a).length) = g.parts.map Gm.many := by
      have e : g.parts = (kidsR (w, g, r)).map (·.2.1) := by
        unfold kidsR
        rw [kidsRAt_map2, ← Gm.brs_parts g r]
      rw [e, List.map_map]
      refine List.map_congr_left fun y hy => ?_
      exact ih y.2.1 (kidsR_mem (x := (w, g, r)) hy) y.1 y.2.2
    rw [this, Nat.add_comm]
/-- a place in a game: how deep it may go on -/
def Gq (n : Nat) (x : Pc) : Prop := ∃ m, x.2.1.Good m ∧ x.1.length + m ≤ n ∧ RcB x.1.length x.2.2
theorem Gq.kid {n : Nat} {x y : Pc} (h : Gq n x) (hy : y ∈ kidsR x) : Gq n y := by
  obtain ⟨m, hg, hl, hr⟩ := h
  obtain ⟨k, rfl, hk⟩ := hg.part (kidsR_mem hy)
  obtain ⟨j, _, e, _⟩ := kidsRAt_mem hy
  have el : y.1.length = x.1.length + 1 := by rw [e]; simp
  refine ⟨k, hk, by omega, ?_⟩
  rw [el]
  exact hr.brs (y.2.1, y.2.2) (kidsR_br hy)
theorem Gq.all {n : Nat} {x : Pc} (h : Gq n x) : ∀ y ∈ seenP x, Gq n y := by
  obtain ⟨w, g, r⟩ := x
  induction g using Gm.ind generalizing w r with
  | h g ih =>
    intro y hy
    rw [seenP_eq] at hy
    rcases List.mem_cons.mp hy with rfl | hy
    · exact h
    · obtain ⟨z, hz, hy⟩ := List.mem_flatMap.mp hy
      exact ih z.2.1 (kidsR_mem hz) z.1 z.2.2 (h.kid hz) y hy
theorem seen_in {G B : PyData} {F : List PyData} {g : Gm} {w : List Int} {r : Rc} (hw : w.length ≤ 9000) (hl : g.parts.length ≤ 64) : ∀ (n : Nat) (W : List PyData) (o : Option DL.Slot), n ≤ g.parts.length → W.length + n < sizeLine → ∃ o', loopO (mgN 8) L_seen_places_1 (down n) [some (.val G), some (.val B), some (.own (.list F)), some (.own (.list W)), some (.val (wayD w)), some (.val g.d), some (.val (rcD r)), some (.own (.list ((g.brs r).map brD))), o] = .nx [some (.val G), some (.val B), some (.own (.list F)), some (.own (.list (W ++ (((kidsR (w, g, r)).take n).reverse.map pcD)))), some (.val (wayD w)), some (.val g.d), some (.val (rcD r)), some (.own (.list ((g.brs r).map brD))), o']
  | 0, W, o, _, _ => ⟨o, by simp [down, loopO]⟩
  | n + 1, W, o, h, hz => by
    have hb := g.brs_len r
    have hn : n < (g.brs r).length := by omega
    obtain ⟨o', e⟩ := seen_in (G := G) (B := B) (F := F) (g := g) (w := w) (r := r) hw hl n (W ++ [pcD (w ++ [(n : Int)], (g.brs r)[n].1, (g.brs r)[n].2)]) (some (.val (.int (n : Int)))) (by omega) (by simp; omega)
    refine ⟨o', ?_⟩
    have a1 : atI ((g.brs r).map brD) (n : Int) = some (brD (g.brs r)[n]) := by rw [atI_of (by simp; omega)]; simp
    have a2 : (kidsR (w, g, r)).take (n + 1) = (kidsR (w, g, r)).take n ++ [(w ++ [(n : Int)], (g.brs r)[n].1, (g.brs r)[n].2)] := by
      have := kidsRAt_get (w := w) (i := 0) (j := n) (ps := g.brs r) (p := (g.brs r)[n]) (List.getElem?_eq_getElem hn)
      rw [List.take_add_one, kidsR, this]
      simp
    have a3 := wayD_snoc (i := (n : Int)) hw
    have a4 : W.length < sizeLine := by omega
    rw [down_succ, a2]
    simp only [List.reverse_append, List.map_append, List.reverse_cons, List.reverse_nil, List.nil_append, List.map_cons, List.map_nil, List.cons_append]
    rw [List.append_assoc, List.cons_append, List.nil_append] at e
    rw [← e]
    generalize (g.brs r)[n] = p at *
    simp [L_seen_places_1, a1, a3, a4, fits_of, pcD, brD]
def SeenI (G : PyData) (b : Bool) (n : Nat) (R : List PyData) (k : Nat) (δ : DEnv) : Prop := ∃ (L : List Pc) (F : List PyData) (o4 o5 o6 o7 o8 : Option DL.Slot), δ = [some (.val G), some (.val (.bool b)), some (.own (.list F)), some (.own (.list (L.reverse.map pcD))), o4, o5, o6, o7, o8] ∧ (L.flatMap seenP).length ≤ k ∧ (∀ x ∈ L, Gq n x) ∧ F.length + 65 * k + L.length + 65 < sizeLine ∧ R = F ++ (L.flatMap seenP).map pcD ∧ (b = true → R.length ≤ 64 ∧ n ≤ 12)
theorem seen_loop {G : PyData} {b : Bool} {n : Nat} {R : List PyData} (hn : n ≤ 9000) (k : Nat) (δ : DEnv) (h : SeenI G b n R k δ) : Nx (mWhile C_seen_places_2 L_seen_places_3 δ) fun δ => ∃ o3 o4 o5 o6 o7 o8, δ = [some (.val G), some (.val (.bool b)), some (.own (.list R)), o3, o4, o5, o6, o7, o8] := by
  refine while_nx (I := SeenI G b n R) ?_ k δ h
  rintro k δ ⟨L, F, o4, o5, o6, o7, o8, rfl, hk, hg, hz, rfl, hb⟩
  cases L with
  | nil =>
    left
    refine ⟨by simp [C_seen_places_2, neG_nil], ?_⟩
    exact ⟨_, o4, o5, o6, o7, o8, by simp; rfl⟩
  | cons x L =>
    right
    obtain ⟨w, g, r⟩ := x
    have hgx := hg _ List.mem_cons_self
    obtain ⟨m, hgm, hlm, hrm⟩ : ∃ m, g.Good m ∧ w.length + m ≤ n ∧ RcB w.length r := hgx
    have hl := hgm.len
    have ef : ((w, g, r) :: L).flatMap seenP = (w, g, r) :: (kidsR (w, g, r) ++ L).flatMap seenP := by
      rw [List.flatMap_cons, seenP_eq, List.flatMap_append]; rfl
    rw [ef] at hb
    rw [ef, List.length_cons] at hk
    have hkl : (kidsR (w, g, r)).length = g.parts.length := by rw [kidsR, kidsRAt_len, Gm.brs_len]
    have hln : L.length + 1 + 65 * k < sizeLine := by simp at hz; omega
    have hw : w.length ≤ 9000 := by omega
    obtain ⟨o', e⟩ := seen_in (G := G) (B := .bool b) (F := F ++ [pcD (w, g, r)]) (g := g) (w := w) (r := r) hw hl g.parts.length (L.reverse.map pcD) o8 (by omega) (by simp; omega)
    have ht : (kidsR (w, g, r)).take g.parts.length = kidsR (w, g, r) := List.take_of_length_le (by omega)
    rw [ht] at e
    have ed : dwn (.int (((g.brs r).map brD).length : Int)) = .ok (down g.parts.length) := by
      rw [List.length_map, Gm.brs_len]
      exact dwn_of (by omega)
    have hlz : L.length < sizeLine := by omega
    have hfz : F.length < sizeLine := by omega
    have ep := branches_ok (g := g) (r := r) hw hl hrm
    have ne : ((L.map pcD).reverse ++ [pcD (w, g, r)]).isEmpty = false := by cases (L.map pcD).reverse <;> rfl
    have hbt : mAnd (mTest (mVar 1)) (mOr (mTest (mB eqF (mR (mBi lenF (mCons (mR (mVar 2)) mNil))) (mR (mC (.int 64))))) (mTest (mB gtF (mR (mBi lenF (mCons (mR (mVar 4)) mNil))) (mR (mC (.int 12)))))) [some (.val G), some (.val (.bool b)), some (.own (.list F)), some (.own (.list (L.reverse.map pcD))), some (.val (wayD w)), some (.val g.d), some (.val (rcD r)), o7, o8] = .ok false := by
      cases b with
      | false => simp
      | true =>
        have hb' := hb rfl
        simp only [List.length_append, List.map_cons, List.length_cons] at hb'
        have q1 : ¬ (F.length : Int) = 64 := by omega
        have q2 : ¬ (12 : Int) < (w.length : Int) := by omega
        simp [q1, q2, wayD]
    refine ⟨by simp [C_seen_places_2, neG_nil, ne], k - 1, by omega, ?_⟩
    refine ⟨[some (.val G), some (.val (.bool b)), some (.own (.list (F ++ [pcD (w, g, r)]))), some (.own (.list ((kidsR (w, g, r) ++ L).reverse.map pcD))), some (.val (wayD w)), some (.val g.d), some (.val (rcD r)), some (.own (.list ((g.brs r).map brD))), o'], ?_, ?_⟩
    · unfold L_seen_places_3
      have e' : ((kidsR (w, g, r) ++ L).reverse.map pcD) = L.reverse.map pcD ++ (kidsR (w, g, r)).reverse.map pcD := by simp
      rw [e', ← e, seq_nx (δ' := [some (.val G), some (.val (.bool b)), some (.own (.list F)), some (.own (.list (L.reverse.map pcD))), some (.val (wayD w)), some (.val g.d), some (.val (rcD r)), o7, o8]) (by simp [pcD, mPopG, popD, tgtO]),
        seq_nx (δ' := [some (.val G), some (.val (.bool b)), some (.own (.list F)), some (.own (.list (L.reverse.map pcD))), some (.val (wayD w)), some (.val g.d), some (.val (rcD r)), o7, o8]) (by rw [mIf_ap, hbt]; rfl),
        seq_nx (δ' := [some (.val G), some (.val (.bool b)), some (.own (.list (F ++ [pcD (w, g, r)]))), some (.own (.list (L.reverse.map pcD))), some (.val (wayD w)), some (.val g.d), some (.val (rcD r)), o7, o8]) (by simp [pcD, hfz, fits_of]),
        seq_nx (δ' := [some (.val G), some (.val (.bool b)), some (.own (.list (F ++ [pcD (w, g, r)]))), some (.own (.list (L.reverse.map pcD))), some (.val (wayD w)), some (.val g.d), some (.val (rcD r)), some (.own (.list ((g.brs r).map brD))), o8]) (by simp [ep])]
      generalize hbr : (g.brs r).map brD = br at ed ⊢
      simp [ed]
    · refine ⟨kidsR (w, g, r) ++ L, F ++ [pcD (w, g, r)], _, _, _, _, _, rfl, by omega, ?_, ?_, ?_, ?_⟩
      · intro x hx
        rcases List.mem_append.mp hx with hx | hx
        · exact (hg _ List.mem_cons_self).kid hx
        · exact hg _ (List.mem_cons_of_mem _ hx)
      · have e1 : (F ++ [pcD (w, g, r)]).length = F.length + 1 := by simp
        have e2 : (kidsR (w, g, r) ++ L).length = g.parts.length + L.length := by rw [List.length_append, hkl]
        rw [e1, e2]
        simp only [List.length_cons] at hz
        omega
      · rw [ef]
        simp
      · rw [ef]
        exact hb
def root (g : Gm) : Pc := ([], g, [], [])
theorem seen_ok {n : Nat} {g : Gm} {b : Bool} (hn : n ≤ 9000) (h : g.Good n) (hm : g.many ≤ 200000) (hb : b = true → g.many ≤ 64 ∧ n ≤ 12) : d_seen_places [.val g.d, .val (.bool b)] = .ok (.own (.list ((seenP (root g)).map pcD))) := by
  have A := seen_loop (G := g.d) (b := b) (R := (seenP (root g)).map pcD) hn g.many [some (.val g.d), some (.val (.bool b)), some (.own (.list [])), some (.own (.list [pcD (root g)])), none, none, none, none, none]
    ⟨[root g], [], none, none, none, none, none, by simp, by simp [seenP_len, root], by
      intro x hx
      rw [List.mem_singleton.mp hx]
      exact ⟨n, h, by simp [root], by simp [root, RcB]⟩, by simp; exact Nat.lt_of_le_of_lt (Nat.mul_le_mul_left 65 hm |> fun z => Nat.add_le_add_right z 66) (by decide), by simp, by
      intro z
      rw [List.length_map, seenP_len]
      exact hb z⟩
  unfold d_seen_places
  obtain ⟨δ, e, o3, o4, o5, o6, o7, o8, rfl⟩ := A
  have ew : pcD (root g) = .tuple [.tuple [], g.d, .tuple [.tuple [], .tuple []]] := rfl
  rw [ew] at e
  simp [mDef, b_seen_places, start0, fits_of, e]
end Pg
/-! DS2: first places, rows, the table -/
namespace Pg
open PySem L2 DL
abbrev Ky := Int × Str
def kyD (k : Ky) : PyData := .tuple [.int k.1, .str k.2]
theorem ky_inj : ∀ a b : Ky, kN (kyD a) = kN (kyD b) → a = b := by
  rintro ⟨s, n⟩ ⟨t, m⟩ h
  have h' : NestedKey.tup [.num s, .text n] = .tup [.num t, .text m] := h
  injection h' with h'
  injection h' with h1 h2
  injection h1 with h1
  injection h2 with h2 _
  injection h2 with h2
  rw [h1, h2]
theorem ky_ok (k : Ky) : okKey (kyD k) = true := by
  obtain ⟨s, n⟩ := k
  have e : kN (kyD (s, n)) = .tup [.num s, .text n] := rfl
  unfold okKey
  rw [e]
  simp [kyD, isTup, isKey, isKeys, NestedKey.depth, NestedKey.depthAll, flatKey]
theorem ky_tup (k : Ky) : isTup (kyD k) = true := rfl
abbrev Fs := List (Ky × Pc)
def fkeys (L : Fs) : List Ky := L.map (·.1)
def keyP (x : Pc) : Option Ky := match x.2.1 with
  | .move s nm _ => some (s, nm)
  | _ => none
def fput (L : Fs) (x : Pc) : Fs := match keyP x with
  | some k => if k ∈ fkeys L then L else L ++ [(k, x)]
  | none => L
def firstsOf (ps : List Pc) : Fs := ps.foldl fput []
theorem fput_nodup {L : Fs} {x : Pc} (h : (fkeys L).Nodup) : (fkeys (fput L x)).Nodup := by
  unfold fput
  split
  · rename_i k e
    by_cases hk : k ∈ fkeys L
    · rw [if_pos hk]; exact h
    · rw [if_neg hk]
      simp only [fkeys, List.map_append, List.map_cons, List.map_nil]
      rw [List.nodup_append]
      exact ⟨h, by simp, fun a ha b hb z => by
        rw [List.mem_singleton] at hb
        subst hb z
        exact hk ha⟩
  · exact h
theorem fput_len {L : Fs} {x : Pc} : (fput L x).length ≤ L.length + 1 := by
  unfold fput
  split
  · split <;> simp
  · simp
theorem firsts_nodup' : ∀ (ps : List Pc) (L : Fs), (fkeys L).Nodup → (fkeys (ps.foldl fput L)).Nodup
  | [], _, h => h
  | x :: ps, L, h => firsts_nodup' ps (fput L x) (fput_nodup h)
theorem firsts_nodup (ps : List Pc) : (fkeys (firstsOf ps)).Nodup := firsts_nodup' ps [] (by simp [fkeys])
theorem firsts_len' : ∀ (ps : List Pc) (L : Fs), (ps.foldl fput L).length ≤ L.length + ps.length
  | [], _ => by simp
  | x :: ps, L => by
    have := firsts_len' ps (fput L x)
    have := fput_len (L := L) (x := x)
    simp only [List.foldl_cons, List.length_cons]
    omega
theorem firsts_len (ps : List Pc) : (firstsOf ps).length ≤ ps.length := by simpa [firstsOf] using firsts_len' ps []
theorem firsts_key' : ∀ (ps : List Pc) (L : Fs) (P : Ky × Pc → Prop), (∀ y ∈ L, P y) → (∀ x ∈ ps, ∀ k, keyP x = some k → P (k, x)) → ∀ y ∈ ps.foldl fput L, P y
  | [], _, _, h, _ => h
  | x :: ps, L, P, h, g => by
    refine firsts_key' ps (fput L x) P (fun y hy => ?_) fun x hx => g x (List.mem_cons_of_mem _ hx)
    unfold fput at hy
    split at hy
    · rename_i k e
      split at hy
      · exact h y hy
      · rcases List.mem_append.mp hy with hy | hy
        · exact h y hy
        · rw [List.mem_singleton.mp hy]; exact g x List.mem_cons_self k e
    · exact h y hy
theorem firsts_key {ps : List Pc} {P : Ky × Pc → Prop} (g : ∀ x ∈ ps, ∀ k, keyP x = some k → P (k, x)) : ∀ y ∈ firstsOf ps, P y := firsts_key' ps [] P (fun y hy => by cases hy) g
theorem pair_fkeys {L : Fs} (h : (fkeys L).Nodup) : L.Pairwise fun x y => x.1 ≠ y.1 := (List.pairwise_map (f := fun x : Ky × Pc => x.1)).mp h
theorem dget_fs {L : Fs} {k : Ky} : (dget (encL kyD pcD L) (kyD k)).isSome = decide (k ∈ fkeys L) := by
  rw [dget_enc ky_inj]
  by_cases h : k ∈ fkeys L
  · obtain ⟨y, hy, rfl⟩ := List.mem_map.mp h
    rw [decide_eq_true h, Option.isSome_map, List.find?_isSome]
    exact ⟨y, hy, by simp⟩
  · rw [decide_eq_false h, find_none fun x hx z => h (List.mem_map.mpr ⟨x, hx, z⟩)]
    rfl
theorem keyAt_fs (L : Fs) (k : Ky) : keyAt (encL kyD pcD L) (kyD k) = true := keyAt_enc (ky_ok k) fun x _ => by rw [ky_tup, ky_tup]
theorem firsts_step {ps : PyData} {L : Fs} {x : Pc} (hl : L.length < sizeLine) : L_first_places_1 [some (.val ps), some (.own (.dict (encL kyD pcD L))), some (.val (wayD x.1)), some (.val x.2.1.d), some (.val (rcD x.2.2))] = .nx [some (.val ps), some (.own (.dict (encL kyD pcD (fput L x)))), some (.val (wayD x.1)), some (.val x.2.1.d), some (.val (rcD x.2.2))] := by
  obtain ⟨w, g, r⟩ := x
  cases g with
  | fin q => rw [Gm.d_fin]; simp [L_first_places_1, fput, keyP]
  | deal nm ws => rw [Gm.d_deal]; simp [L_first_places_1, fput, keyP]
  | move s nm ws =>
    have hk := keyAt_fs L (s, nm)
    have hg := dget_fs (L := L) (k := (s, nm))
    have hl' : (encL kyD pcD L).length < sizeLine := by rw [encL_len]; exact hl
    have ek : PyData.tuple [.int s, .str nm] = kyD (s, nm) := rfl
    have ep : pcD (w, Gm.move s nm ws, r) = .tuple [wayD w, (Gm.move s nm ws).d, rcD r] := rfl
    unfold fput
    simp only [keyP]
    by_cases hm : (s, nm) ∈ fkeys L
    · rw [if_pos hm]
      rw [decide_eq_true hm] at hg
      obtain ⟨z, hz⟩ := Option.isSome_iff_exists.mp hg
      rw [Gm.d_move]
      simp [L_first_places_1, mDropM, fits_of, ek, hk, hl', hz]
    · rw [if_neg hm, ← dput_new (f := pcD) ky_inj fun y hy z => hm (List.mem_map.mpr ⟨y, hy, z⟩)]
      rw [decide_eq_false hm] at hg
      have hg' := Option.not_isSome_iff_eq_none.mp (by rw [hg]; decide)
      rw [ep, Gm.d_move]
      simp [L_first_places_1, mDropM, fits_of, ek, hk, hl', hg']
theorem firsts_ok {ps : List Pc} (hl : ps.length ≤ 200000) : d_first_places [.val (.list (ps.map pcD))] = .ok (.own (.dict (encL kyD pcD (firstsOf ps)))) := by
  have e0 : d_first_places [.val (.list (ps.map pcD))] = (b_first_places [some (.val (.list (ps.map pcD))), none, none, none, none]).res := rfl
  rw [e0]
  unfold b_first_places
  rw [seq_nx (δ' := [some (.val (.list (ps.map pcD))), some (.own (.dict (encL kyD pcD (firstsOf (ps.take 0))))), none, none, none]) (by rfl)]
  have F1 := for_ix (g := mgT 3 (mgCons (mgN 2) (mgCons (mgN 3) (mgCons (mgN 4) mgNil)))) (it := miV 0) (b := L_first_places_1) (enc := pcD) ps (fun i δ => ∃ o2 o3 o4, δ = [some (.val (.list (ps.map pcD))), some (.own (.dict (encL kyD pcD (firstsOf (ps.take i))))), o2, o3, o4]) (δ := [some (.val (.list (ps.map pcD))), some (.own (.dict (encL kyD pcD (firstsOf (ps.take 0))))), none, none, none]) rfl (by
    rintro i hi δ ⟨o2, o3, o4, rfl⟩
    refine ⟨_, rfl, _, firsts_step (x := ps[i]) (L := firstsOf (ps.take i)) ?_, ?_⟩
    · have := firsts_len (ps.take i)
      have := List.length_take_le i ps
      exact Nat.lt_of_le_of_lt (m := 200000) (by omega) (by decide)
    · have : firstsOf (ps.take (i + 1)) = fput (firstsOf (ps.take i)) ps[i] := by
        rw [List.take_add_one, List.getElem?_eq_getElem hi, firstsOf, Option.toList_some, List.foldl_append]
        rfl
      rw [this]
      exact ⟨_, _, _, rfl⟩) ⟨_, _, _, rfl⟩
  obtain ⟨δ1, e1, o2, o3, o4, rfl⟩ := F1
  rw [seq_nx e1, List.take_length]
  simp
/-! rows -/
abbrev Row := Int × Str × List Str × Rec
def rowD (x : Row) : PyData := .tuple [.int x.1, .str x.2.1, .tuple (x.2.2.1.map PyData.str), recD x.2.2.2]
def gwords : Gm → List Str
  | .move _ _ ws => ws.map (·.1)
  | _ => []
def recOf (s : Int) (r : Rc) : Rec := if s = 1 then r.1 else r.2
def rowOf (y : Ky × Pc) : Row := (y.1.1, y.1.2, gwords y.2.2.1, recOf y.1.1 y.2.2.2)
def rowsBy (ps : List Pc) : List Row := (firstsOf ps).map rowOf
theorem words_ok {s : Int} {nm : Str} {ws : List (Str × Gm)} (hl : ws.length ≤ 64) : d_words_of [.val (Gm.move s nm ws).d] = .ok (.val (.tuple (ws.map fun w => .str w.1))) := by
  rw [Gm.d_move]
  generalize hG : PyData.tuple [.str "move", .int s, .str nm, .tuple (ws.map fun w => .tuple [.str w.1, w.2.d])] = G
  have c : compR (mgT 2 (mgCons (mgN 1) (mgCons (mgN 2) mgNil))) mYes (mV (mVar 1)) [some (.val G), none, none] (ws.map fun w => .tuple [.str w.1, w.2.d]) = .ok (ws.map fun w => PyData.str w.1) := compR_map fun w hw => ⟨_, rfl, rfl, by simp⟩
  have hfit : fits (ws.map fun w : Str × Gm => PyData.tuple [.str w.1, w.2.d]) = true := fits_of (by simp; omega)
  have e0 : d_words_of [.val G] = (b_words_of [some (.val G), none, none]).res := rfl
  rw [e0]
  subst hG
  simp [b_words_of, c, hfit]
theorem keyP_move {x : Pc} {k : Ky} (h : keyP x = some k) : ∃ ws, x.2.1 = .move k.1 k.2 ws := by
  unfold keyP at h
  split at h
  · rename_i s nm ws e
    injection h with h
    subst h
    exact ⟨ws, e⟩
  · cases h
def SideOk (x : Pc) : Prop := ∀ k, keyP x = some k → k.1 = 1 ∨ k.1 = 2
theorem row_step {ps : PyData} {R : List Row} {y : Ky × Pc} (hy : keyP y.2 = some y.1) (hs : y.1.1 = 1 ∨ y.1.1 = 2) (hw : y.2.2.1.parts.length ≤ 64) (hl : R.length < sizeLine) : L_rows_by_1 [some (.val ps), some (.own (.list (R.map rowD))), some (.val (kyD y.1)), some (.val (pcD y.2))] = .nx [some (.val ps), some (.own (.list ((R ++ [rowOf y]).map rowD))), some (.val (kyD y.1)), some (.val (pcD y.2))] := by
  obtain ⟨⟨s, nm⟩, w, g, r⟩ := y
  obtain ⟨ws, rfl⟩ : ∃ ws, g = .move s nm ws := keyP_move hy
  have hw' : ws.length ≤ 64 := by simpa [Gm.parts] using hw
  have e1 := words_ok (s := s) (nm := nm) hw'
  have e2 : ws.map (fun w => PyData.str w.1) = (ws.map (·.1)).map PyData.str := by simp [Function.comp_def]
  rw [e2] at e1
  simp only at hs
  generalize hD : (Gm.move s nm ws).d = D at e1
  have ep : pcD (w, Gm.move s nm ws, r) = .tuple [wayD w, D, rcD r] := by rw [← hD]; rfl
  simp only [ep]
  have er : rowD (rowOf ((s, nm), w, Gm.move s nm ws, r)) = .tuple [.int s, .str nm, .tuple ((ws.map (·.1)).map PyData.str), recD (recOf s r)] := rfl
  rw [List.map_append, List.map_cons, List.map_nil, er]
  generalize (ws.map (·.1)).map PyData.str = wl at e1 ⊢
  have hl' : (R.map rowD).length < sizeLine := by rw [List.length_map]; exact hl
  generalize R.map rowD = RD at hl' ⊢
  obtain ⟨r1, r2⟩ := r
  rcases hs with rfl | rfl
  · simp [L_rows_by_1, kyD, e1, rcD, hl', fits_of, recOf]
  · simp [L_rows_by_1, kyD, e1, rcD, hl', fits_of, recOf]
theorem rows_ok {ps : List Pc} (hl : ps.length ≤ 200000) (hs : ∀ x ∈ ps, SideOk x ∧ x.2.1.parts.length ≤ 64) : d_rows_by [.val (.list (ps.map pcD))] = .ok (.own (.list ((rowsBy ps).map rowD))) := by
  have e0 : d_rows_by [.val (.list (ps.map pcD))] = (b_rows_by [some (.val (.list (ps.map pcD))), none, none, none]).res := rfl
  rw [e0]
  have ef := firsts_ok hl
  have hk : ∀ y ∈ firstsOf ps, keyP y.2 = some y.1 ∧ (y.1.1 = 1 ∨ y.1.1 = 2) ∧ y.2.2.1.parts.length ≤ 64 := firsts_key fun x hx k e => ⟨e, (hs x hx).1 k e, (hs x hx).2⟩
  have hfl := firsts_len ps
  unfold rowsBy
  generalize firstsOf ps = L at ef hk hfl
  generalize hP : PyData.list (ps.map pcD) = P at ef
  unfold b_rows_by
  rw [seq_nx (δ' := [some (.val P), some (.own (.list (((L.take 0).map rowOf).map rowD))), none, none]) (by rfl)]
  have F1 := for_ix (g := mgT 2 (mgCons (mgN 2) (mgCons (mgN 3) mgNil))) (it := miD pairD (mV (mCall Pg.d_first_places (mACons (mVar 0) mANil)))) (b := L_rows_by_1) (enc := fun y : Ky × Pc => pairD (kyD y.1, pcD y.2)) L (fun i δ => ∃ o2 o3, δ = [some (.val P), some (.own (.list (((L.take i).map rowOf).map rowD))), o2, o3]) (δ := [some (.val P), some (.own (.list (((L.take 0).map rowOf).map rowD))), none, none]) (by simp [ef, encL, Function.comp_def]) (by
    rintro i hi δ ⟨o2, o3, rfl⟩
    obtain ⟨h1, h2, h3⟩ := hk L[i] (List.getElem_mem hi)
    refine ⟨_, rfl, _, row_step (y := L[i]) (R := (L.take i).map rowOf) h1 h2 h3 ?_, ?_⟩
    · have := List.length_take_le i L
      rw [List.length_map]
      exact Nat.lt_of_le_of_lt (m := 200000) (by omega) (by decide)
    · have : (L.take (i + 1)).map rowOf = (L.take i).map rowOf ++ [rowOf L[i]] := by
        rw [List.take_add_one, List.getElem?_eq_getElem hi, Option.toList_some, List.map_append]
        rfl
      rw [this]
      exact ⟨_, _, rfl⟩) ⟨_, _, rfl⟩
  obtain ⟨δ1, e1, o2, o3, rfl⟩ := F1
  rw [seq_nx e1, List.take_length]
  simp
/-! the table of a game -/
def Sides (g : Gm) : Prop := ∀ x ∈ seenP (root g), SideOk x
def table (g : Gm) : List Row := rowsBy (seenP (root g))
theorem seen_good {n : Nat} {g : Gm} (h : g.Good n) : ∀ x ∈ seenP (root g), Gq n x := Gq.all ⟨n, h, by simp [root], by simp [root, RcB]⟩
theorem table_ok {n : Nat} {g : Gm} (hn : n ≤ 9000) (h : g.Good n) (hm : g.many ≤ 200000) (hs : Sides g) : d_table_of [.val g.d] = .ok (.own (.list ((table g).map rowD))) := by
  have e1 := seen_ok (b := false) hn h hm (by simp)
  have hx : ∀ x ∈ seenP (root g), SideOk x ∧ x.2.1.parts.length ≤ 64 := fun x hx => ⟨hs x hx, by
    obtain ⟨m, hg, _⟩ := seen_good h x hx
    exact hg.len⟩
  have e2 := rows_ok (ps := seenP (root g)) (by rw [seenP_len]; exact hm) hx
  have e0 : d_table_of [.val g.d] = (b_table_of [some (.val g.d)]).res := rfl
  rw [e0]
  unfold table
  generalize (rowsBy (seenP (root g))).map rowD = R at e2 ⊢
  generalize (seenP (root g)).map pcD = P at e1 e2
  simp [b_table_of, e1, e2]
def tableS (g : Gm) (s : Int) : List Row := (table g).filter fun x => decide (x.1 = s)
theorem rows_of_ok {n : Nat} {g : Gm} {s : Int} (hn : n ≤ 9000) (h : g.Good n) (hm : g.many ≤ 10000) (hs : Sides g) : d_rows_of [.val g.d, .val (.int s)] = .ok (.own (.list ((tableS g s).map rowD))) := by
  have e1 := table_ok hn h (by omega) hs
  have hl : (table g).length ≤ 10000 := by
    have := firsts_len (seenP (root g))
    rw [seenP_len] at this
    simp only [table, rowsBy, List.length_map, root] at this ⊢
    omega
  have e0 : d_rows_of [.val g.d, .val (.int s)] = (b_rows_of [some (.val g.d), some (.val (.int s)), none]).res := rfl
  rw [e0]
  unfold tableS
  generalize table g = T at e1 hl
  have c : compR (mgN 2) (mTest (mB eqF (mR (mB ixF (mR (mVar 2)) (mR (mC (.int 0))))) (mR (mVar 1)))) (mV (mVar 2)) [some (.val g.d), some (.val (.int s)), none] (T.map rowD) = .ok ((T.filter fun x => decide (x.1 = s)).map rowD) := by
    clear e1 hl
    induction T with
    | nil => rfl
    | cons x T ih =>
      by_cases hx : x.1 = s
      · simp [compR, rowD, hx, ih]
      · have hb : (x.1 == s) = false := by simpa using hx
        simp [compR, rowD, hx, ih, hb]
  have hfit : fits (T.map rowD) = true := fits_of (by simp; omega)
  simp [b_rows_of, e1, c, hfit]
end Pg
/-! DS3: shares, plans -/
namespace Pg
open PySem L2 DL TL
def qOf : PyData → Rat
  | .tuple [.int a, .int b] => Rat.divInt a b
  | _ => 0
theorem qD_qOf {d : PyData} (h : ratioB d = true) : d = qD (qOf d) := by
  unfold ratioB at h
  split at h
  · rename_i t b
    have h' := of_decide_eq_true h
    have h1 : 0 < b := by omega
    show _ = qD (Rat.divInt t b)
    rw [qD_low h1, h'.2]
    simp
  · cases h
theorem qOf_qD (q : Rat) : qOf (qD q) = q := by
  show Rat.divInt q.num q.den = q
  exact Rat.num_divInt_den q
theorem ratioB_q (q : Rat) : ratioB (qD q) = true := by
  show decide _ = true
  exact decide_eq_true ⟨q_pos q, q_gcd q⟩
def nnB (d : PyData) : Bool := ratioB d && decide (0 ≤ qOf d)
def sharesB (d : PyData) (m : Nat) : Bool := match d with
  | .tuple ds => decide (ds.length = m) && (ds.all nnB && decide (sumQ (ds.map qOf) = 1))
  | _ => false
/-- numbers of a fit size -/
def szB (n : Nat) (d : PyData) : Prop := ∀ ds, d = .tuple ds → ∀ x ∈ ds, ratioB x = true → Sz n (qOf x)
theorem shares_eq (d : PyData) (m : Nat) : d_are_shares [.val d, .val (.int (m : Int))] = (b_are_shares [some (.val d), some (.val (.int (m : Int))), none]).res := rfl
theorem under_0 {d : PyData} {n : Nat} (h0 : 0 < n) (hn : n ≤ 1000) (hr : ratioB d = true) (hs : Sz n (qOf d)) : d_under [.val d, .val (.tuple [.int 0, .int 1])] = .ok (.val (.bool (!decide (0 ≤ qOf d)))) := by
  have e0 : PyData.tuple [.int 0, .int 1] = qD 0 := rfl
  have e1 := qD_qOf hr
  rw [e0]
  generalize qOf d = q at *
  rw [e1, under_q h0 (by omega) hs (Sz.mono (m := 1) ⟨by decide, by decide⟩ h0)]
  by_cases h : 0 ≤ q
  · simp [h, Rat.not_lt.mpr h]
  · simp [h, Rat.not_le.mp h]
theorem shares_any {d : PyData} {m n : Nat} (h0 : 0 < n) (hn : n ≤ 100) (hm : m ≤ 64) (hs : szB n d) : d_are_shares [.val d, .val (.int (m : Int))] = .ok (.val (.bool (sharesB d m))) := by
  rw [shares_eq]
  cases d with
  | tuple ds =>
    by_cases hl : ds.length = m
    · have hs' := hs ds rfl
      subst hl
      unfold b_are_shares
      rw [seq_nx (δ' := [some (.val (.tuple ds)), some (.val (.int (ds.length : Int))), none]) (by simp)]
      obtain ⟨o', e⟩ := loop_chk (g := mgN 2) (b := mIf (mOr (mNot (mTest (mCall Pg.d_is_ratio (mACons (mVar 2) mANil)))) (mTest (mCall Pg.d_under (mACons (mVar 2) (mACons (mTup (mCons (mV (mC (.int 0))) (mCons (mV (mC (.int 1))) mNil))) mANil))))) (mRet (mC (.bool false))) mNext) (enc := fun x : PyData => x) (p := nnB) (mk := fun o => [some (.val (.tuple ds)), some (.val (.int (ds.length : Int))), o]) (xs := ds) none (by
        intro x hx o
        refine ⟨_, rfl, ?_⟩
        have er := ratio_any x
        cases hr : ratioB x
        · rw [hr] at er
          simp [er, nnB, hr]
        · rw [hr] at er
          have eu := under_0 h0 (by omega) hr (hs' x hx hr)
          cases hq : decide (0 ≤ qOf x)
          · rw [hq] at eu
            simp [er, eu, nnB, hr, hq, fits_of]
          · rw [hq] at eu
            simp [er, eu, nnB, hr, hq, fits_of])
      rw [List.map_id'] at e
      have e' : mFor (mgN 2) (miV 0) (mIf (mOr (mNot (mTest (mCall Pg.d_is_ratio (mACons (mVar 2) mANil)))) (mTest (mCall Pg.d_under (mACons (mVar 2) (mACons (mTup (mCons (mV (mC (.int 0))) (mCons (mV (mC (.int 1))) mNil))) mANil))))) (mRet (mC (.bool false))) mNext) [some (.val (.tuple ds)), some (.val (.int (ds.length : Int))), none] = if ds.all nnB = true then .nx [some (.val (.tuple ds)), some (.val (.int (ds.length : Int))), o'] else .rt (.val (.bool false)) [some (.val (.tuple ds)), some (.val (.int (ds.length : Int))), o'] := e
      cases hall : ds.all nnB
      · rw [seq_rt (by rw [e', hall, if_neg (by decide)])]
        simp [sharesB, hall]
      · rw [seq_nx (by rw [e', hall, if_pos rfl])]
        have ed : ds = (ds.map qOf).map qD := by
          rw [List.map_map]
          have : ds.map (qD ∘ qOf) = ds.map id := List.map_congr_left fun x hx => by
            have hx' := List.all_eq_true.mp hall x hx
            simp only [nnB, Bool.and_eq_true] at hx'
            exact (qD_qOf hx'.1).symm
          rw [this, List.map_id]
        have et := total_q (n := n) (qs := ds.map qOf) (.inl rfl) h0 (by
          intro q hq
          obtain ⟨x, hx, rfl⟩ := List.mem_map.mp hq
          have hx' := List.all_eq_true.mp hall x hx
          simp only [nnB, Bool.and_eq_true] at hx'
          exact hs' x hx hx'.1) (by
          rw [List.length_map]
          have := Nat.mul_le_mul hm (Nat.add_le_add_right hn 1)
          omega)
        rw [← ed] at et
        have e1 : PyData.tuple [.int 1, .int 1] = qD 1 := rfl
        have hf : fits ds = true := fits_of (by omega)
        simp [sharesB, hall, hf, et, e1, fits_of]
    · have hl' : ¬ (ds.length : Int) = (m : Int) := by omega
      simp [b_are_shares, sharesB, hl, hl']
  | none => simp [b_are_shares, sharesB]
  | bool _ => simp [b_are_shares, sharesB]
  | int _ => simp [b_are_shares, sharesB]
  | list _ => simp [b_are_shares, sharesB]
  | str _ => simp [b_are_shares, sharesB]
  | dict _ => simp [b_are_shares, sharesB]
/-! what is a plan -/
def nmD (z : Str) : PyData := .str z
theorem nm_inj : ∀ a b : Str, kN (nmD a) = kN (nmD b) → a = b := by
  intro a b h
  have h' : NestedKey.text a = .text b := h
  injection h'
theorem nm_ok (z : Str) : okKey (nmD z) = true := by
  have e : kN (nmD z) = .text z := rfl
  unfold okKey
  rw [e]
  simp [nmD, flatKey, NestedKey.depth]
/-- a dict whose keys are no tuples -/
def flatD (ds : List (PyData × PyData)) : Bool := ds.all fun p => !isTup p.1
theorem keyAt_nm {ds : List (PyData × PyData)} (h : flatD ds = true) (z : Str) : keyAt ds (nmD z) = true := by
  unfold keyAt
  rw [nm_ok]
  simp only [kindOk, Bool.true_and, List.all_eq_true]
  intro x hx
  have := List.all_eq_true.mp h x hx
  have e : isTup (nmD z) = false := rfl
  rw [e]
  simpa using this
def rowB (ds : List (PyData × PyData)) (r : Row) : Bool := match dget ds (nmD r.2.1) with
  | some d => sharesB d r.2.2.1.length
  | none => false
def planB (ds : List (PyData × PyData)) (rows : List Row) : Bool := decide (ds.length = rows.length) && rows.all (rowB ds)
theorem is_plan_ok {k n : Nat} {g : Gm} {s : Int} {ds : List (PyData × PyData)} {sl : DL.Slot} (hsl : sl = .val (.dict ds) ∨ sl = .bor (.dict ds)) (hk : k ≤ 9000) (h : g.Good k) (hm : g.many ≤ 10000) (hs : Sides g) (hf : flatD ds = true) (h0 : 0 < n) (hn : n ≤ 100) (hz : ∀ r ∈ tableS g s, r.2.2.1.length ≤ 64 ∧ ∀ d, dget ds (nmD r.2.1) = some d → szB n d) : d_is_plan [.val g.d, .val (.int s), sl] = .ok (.val (.bool (planB ds (tableS g s)))) := by
  have e1 := rows_of_ok (s := s) hk h hm hs
  have e0 : d_is_plan [.val g.d, .val (.int s), sl] = (b_is_plan [some (.val g.d), some (.val (.int s)), some sl, none, none]).res := rfl
  rw [e0]
  generalize tableS g s = T at *
  generalize g.d = G at *
  unfold b_is_plan
  rw [seq_nx (δ' := [some (.val G), some (.val (.int s)), some sl, some (.own (.list (T.map rowD))), none]) (by simp [e1])]
  by_cases hl : ds.length = T.length
  · have hl' : (ds.length : Int) = (T.length : Int) := by omega
    rw [seq_nx (δ' := [some (.val G), some (.val (.int s)), some sl, some (.own (.list (T.map rowD))), none]) (by rcases hsl with rfl | rfl <;> simp [hl'])]
    obtain ⟨o', e⟩ := loop_chk (g := mgN 4) (b := L_is_plan_1) (enc := rowD) (p := rowB ds) (mk := fun o => [some (.val G), some (.val (.int s)), some sl, some (.val (.list (T.map rowD))), o]) (xs := T) none (by
      intro r hr o
      obtain ⟨z1, z2⟩ := hz r hr
      refine ⟨_, rfl, ?_⟩
      have hka := keyAt_nm hf r.2.1
      unfold rowB
      have en : PyData.str r.2.1 = nmD r.2.1 := rfl
      cases hd : dget ds (nmD r.2.1) with
      | none => rcases hsl with rfl | rfl <;> simp [L_is_plan_1, rowD, en, hka, hd]
      | some d =>
        have es := shares_any h0 hn z1 (z2 d hd)
        cases hb : sharesB d r.2.2.1.length
        · rw [hb] at es
          rcases hsl with rfl | rfl <;> simp [L_is_plan_1, rowD, en, hka, hd, es, hb]
        · rw [hb] at es
          rcases hsl with rfl | rfl <;> simp [L_is_plan_1, rowD, en, hka, hd, es, hb])
    have e' : mFrz 3 (mFor (mgN 4) (miV 3) L_is_plan_1) [some (.val G), some (.val (.int s)), some sl, some (.own (.list (T.map rowD))), none] = if T.all (rowB ds) = true then .nx [some (.val G), some (.val (.int s)), some sl, some (.val (.list (T.map rowD))), o'] else .rt (.val (.bool false)) [some (.val G), some (.val (.int s)), some sl, some (.val (.list (T.map rowD))), o'] := e
    cases hall : T.all (rowB ds)
    · rw [seq_rt (by rw [e', hall, if_neg (by decide)])]
      simp [planB, hall]
    · rw [seq_nx (by rw [e', hall, if_pos rfl])]
      simp [planB, hall, hl]
  · have hl' : ¬ (ds.length : Int) = (T.length : Int) := by omega
    rcases hsl with rfl | rfl <;> simp [hl', planB, hl]
end Pg
/-! DS4: plans asked, shown, read -/
namespace Pg
open PySem L2 DL TL
theorem ask_plan_ok {k n : Nat} {g : Gm} {s : Int} {ds : List (PyData × PyData)} {sl : DL.Slot} (hsl : sl = .val (.dict ds) ∨ sl = .bor (.dict ds)) (hk : k ≤ 9000) (h : g.Good k) (hm : g.many ≤ 10000) (hs : Sides g) (hf : flatD ds = true) (h0 : 0 < n) (hn : n ≤ 100) (hz : ∀ r ∈ tableS g s, r.2.2.1.length ≤ 64 ∧ ∀ d, dget ds (nmD r.2.1) = some d → szB n d) (hp : planB ds (tableS g s) = true) : d_ask_plan [.val g.d, .val (.int s), sl] = .ok (.val .none) := by
  have e1 := is_plan_ok (s := s) hsl hk h hm hs hf h0 hn hz
  rw [hp] at e1
  rcases hsl with rfl | rfl <;> simp [d_ask_plan, mDef, b_ask_plan, start0, e1]
theorem ask_plan_no {k n : Nat} {g : Gm} {s : Int} {ds : List (PyData × PyData)} {sl : DL.Slot} (hsl : sl = .val (.dict ds) ∨ sl = .bor (.dict ds)) (hk : k ≤ 9000) (h : g.Good k) (hm : g.many ≤ 10000) (hs : Sides g) (hf : flatD ds = true) (h0 : 0 < n) (hn : n ≤ 100) (hz : ∀ r ∈ tableS g s, r.2.2.1.length ≤ 64 ∧ ∀ d, dget ds (nmD r.2.1) = some d → szB n d) (hp : planB ds (tableS g s) = false) : d_ask_plan [.val g.d, .val (.int s), sl] = .exc ⟨.NoPlan, []⟩ := by
  have e1 := is_plan_ok (s := s) hsl hk h hm hs hf h0 hn hz
  rw [hp] at e1
  rcases hsl with rfl | rfl <;> simp [d_ask_plan, mDef, b_ask_plan, start0, e1]
/-! plans that are good -/
abbrev Plan := List (Str × List Rat)
def qsD (qs : List Rat) : PyData := .tuple (qs.map qD)
def planE (P : Plan) : List (PyData × PyData) := encL nmD qsD P
def pkeys (P : Plan) : List Str := P.map (·.1)
def look (P : Plan) (nm : Str) : List Rat := ((P.find? fun x => decide (x.1 = nm)).map (·.2)).getD []
theorem flat_plan (P : Plan) : flatD (planE P) = true := by
  unfold flatD planE encL
  rw [List.all_map, List.all_eq_true]
  intro x _
  rfl
theorem dget_plan (P : Plan) (nm : Str) : dget (planE P) (nmD nm) = (P.find? fun x => decide (x.1 = nm)).map fun x => qsD x.2 := dget_enc nm_inj P nm
theorem dget_key {P : Plan} {nm : Str} (h : nm ∈ pkeys P) : dget (planE P) (nmD nm) = some (qsD (look P nm)) := by
  rw [dget_plan, look]
  obtain ⟨x, hx, rfl⟩ := List.mem_map.mp h
  have : (P.find? fun y => decide (y.1 = x.1)).isSome = true := List.find?_isSome.mpr ⟨x, hx, by simp⟩
  obtain ⟨y, hy⟩ := Option.isSome_iff_exists.mp this
  rw [hy]
  rfl
theorem dget_nokey {P : Plan} {nm : Str} (h : nm ∉ pkeys P) : dget (planE P) (nmD nm) = none := by
  rw [dget_plan, find_none fun x hx z => h (List.mem_map.mpr ⟨x, hx, z⟩)]
  rfl
def Shares (qs : List Rat) (m : Nat) : Prop := qs.length = m ∧ (∀ q ∈ qs, 0 ≤ q) ∧ sumQ qs = 1
theorem shares_q {qs : List Rat} {m : Nat} (h : Shares qs m) : sharesB (qsD qs) m = true := by
  obtain ⟨h1, h2, h3⟩ := h
  have e : (qs.map qD).map qOf = qs := by
    rw [List.map_map]
    have : qs.map (qOf ∘ qD) = qs.map id := List.map_congr_left fun q _ => qOf_qD q
    rw [this, List.map_id]
  simp only [sharesB, qsD, e]
  rw [decide_eq_true (by simpa using h1), decide_eq_true h3]
  simp only [Bool.true_and, Bool.and_true, List.all_eq_true]
  intro x hx
  obtain ⟨q, hq, rfl⟩ := List.mem_map.mp hx
  simp [nnB, ratioB_q, qOf_qD, h2 q hq]
def PlanOk (P : Plan) (T : List Row) : Prop := P.length = T.length ∧ ∀ r ∈ T, r.2.1 ∈ pkeys P ∧ Shares (look P r.2.1) r.2.2.1.length
theorem planB_of {P : Plan} {T : List Row} (h : PlanOk P T) : planB (planE P) T = true := by
  unfold planB
  rw [decide_eq_true (by rw [planE, encL_len]; exact h.1)]
  simp only [Bool.true_and, List.all_eq_true]
  intro r hr
  obtain ⟨h1, h2⟩ := h.2 r hr
  unfold rowB
  rw [dget_key h1]
  exact shares_q h2
/-- all numbers of a fit size -/
def PlanSz (n : Nat) (P : Plan) : Prop := ∀ x ∈ P, ∀ q ∈ x.2, Sz n q
theorem look_mem {P : Plan} {nm : Str} (h : nm ∈ pkeys P) : ∃ x ∈ P, look P nm = x.2 := by
  unfold look
  obtain ⟨x, hx, rfl⟩ := List.mem_map.mp h
  have : (P.find? fun y => decide (y.1 = x.1)).isSome = true := List.find?_isSome.mpr ⟨x, hx, by simp⟩
  obtain ⟨y, hy⟩ := Option.isSome_iff_exists.mp this
  rw [hy]
  exact ⟨y, List.mem_of_find?_eq_some hy, rfl⟩
theorem plan_szB {n : Nat} {P : Plan} (h : PlanSz n P) {nm : Str} {d : PyData} (e : dget (planE P) (nmD nm) = some d) : szB n d := by
  by_cases hk : nm ∈ pkeys P
  · rw [dget_key hk] at e
    injection e with e
    subst e
    intro ds hd x hx _
    injection hd with hd
    subst hd
    obtain ⟨q, hq, rfl⟩ := List.mem_map.mp hx
    obtain ⟨y, hy, ey⟩ := look_mem hk
    rw [qOf_qD]
    exact h y hy q (ey ▸ hq)
  · rw [dget_nokey hk] at e
    cases e
/-! texts -/
theorem joinL_len (S : List Nat) : ∀ L : List (List Nat), (joinL S L).length ≤ (L.map (·.length)).sum + L.length * S.length
  | [] => by simp [joinL]
  | [p] => by simp [joinL]
  | p :: q :: r => by
    have := joinL_len S (q :: r)
    simp only [joinL, List.length_append, List.map_cons, List.sum_cons, List.length_cons] at this ⊢
    rw [Nat.add_mul (r.length + 1) 1, Nat.one_mul]
    omega
theorem join_len (y : Str) (L : List Str) : (Txt.join y L).length ≤ (L.map (·.length)).sum + L.length * y.length := by
  have := joinL_len (tl y) (L.map tl)
  rw [join_eq, len_tl, tl_join, len_tl y]
  rw [List.map_map, List.length_map] at this
  have e : L.map (List.length ∘ tl) = L.map (·.length) := List.map_congr_left fun x _ => (len_tl x).symm
  rw [e] at this
  exact this
theorem join_ok {y : Str} {L : List Str} {m : Nat} (h : ∀ x ∈ L, x.length ≤ m) (hy : y.length ≤ 16) (hm : L.length * (m + 16) ≤ 16777216) : joinF (.str y) (.list (L.map PyData.str)) = .ok (.val (.str (Txt.join y L))) := by
  show (match strsOf (L.map PyData.str) with
    | some ys => if (ys.map (fun s : Str => s.length)).sum + ys.length * y.length ≤ 16777216 then okV (.str (Txt.join y ys)) else .stuck
    | none => .stuck) = _
  rw [strsOf_map]
  have h1 : (L.map (fun s : Str => s.length)).sum ≤ L.length * m := by
    have := Gm.sum_le (xs := L.map (fun s : Str => s.length)) (k := m) fun z hz => by
      obtain ⟨x, hx, rfl⟩ := List.mem_map.mp hz
      exact h x hx
    rwa [List.length_map] at this
  have h2 := Nat.mul_le_mul_left L.length hy
  rw [Nat.mul_add] at hm
  have hb : (L.map (fun s : Str => s.length)).sum + L.length * y.length ≤ 16777216 := by omega
  simp only [if_pos hb]
  rfl
theorem showQ_len {q : Rat} {k : Nat} (hk : 0 < k) (hn : q.num.natAbs < 10 ^ k) (hd : q.den < 10 ^ k) : (showQ q).length ≤ 2 * k + 3 := by
  have l1 := len_int hk hn
  have l2 := len_int (i := (q.den : Int)) hk (by simpa using hd)
  unfold showQ
  split
  · omega
  · have : (tl ("/" : Str)).length = 1 := by decide
    rw [len_tl, tl_append, tl_append, List.length_append, List.length_append, ← len_tl, ← len_tl (iS _), this]
    omega
def rowText (nm : Str) (qs : List Rat) : Str := Txt.join " " (nm :: qs.map showQ)
def planText (P : Plan) (nms : List Str) : Str := Txt.join "; " (nms.map fun nm => rowText nm (look P nm))
/-- numbers of a fit count of figures -/
def Fig (k : Nat) (q : Rat) : Prop := q.num.natAbs < 10 ^ k ∧ q.den < 10 ^ k
theorem rowText_len {nm : Str} {qs : List Rat} {k a b : Nat} (hk : 0 < k) (hn : nm.length ≤ a) (hq : ∀ q ∈ qs, Fig k q) (hl : qs.length ≤ b) : (rowText nm qs).length ≤ a + 1 + b * (2 * k + 4) := by
  have h := join_len " " (nm :: qs.map showQ)
  have e1 : (" " : Str).length = 1 := by decide
  rw [e1, List.map_cons, List.sum_cons, List.length_cons, List.length_map, List.map_map] at h
  have h1 := Gm.sum_le (xs := qs.map ((fun s : Str => s.length) ∘ showQ)) (k := 2 * k + 3) fun z hz => by
    obtain ⟨q, hq', rfl⟩ := List.mem_map.mp hz
    exact showQ_len hk (hq q hq').1 (hq q hq').2
  rw [List.length_map] at h1
  have h2 : qs.length * (2 * k + 4) = qs.length * (2 * k + 3) + qs.length := by rw [← Nat.mul_succ]
  have h3 := Nat.mul_le_mul_right (2 * k + 4) hl
  unfold rowText
  omega
theorem row_join {nm : Str} {qs : List Rat} {k : Nat} (hk : 0 < k) (hk5 : k ≤ 500) (hn : nm.length ≤ 1000) (hq : ∀ q ∈ qs, Fig k q) (hl : qs.length ≤ 64) : joinF (.str " ") (.list (PyData.str nm :: qs.map fun q => PyData.str (showQ q))) = .ok (.val (.str (rowText nm qs))) := by
  have := join_ok (y := " ") (L := nm :: qs.map showQ) (m := 2000) (fun x hx => by
    rcases List.mem_cons.mp hx with rfl | hx
    · omega
    · obtain ⟨q, hq', rfl⟩ := List.mem_map.mp hx
      have := showQ_len hk (hq q hq').1 (hq q hq').2
      omega) (by decide) (by
    simp only [List.length_cons, List.length_map]
    have := Nat.mul_le_mul_right 2016 (Nat.add_le_add_right hl 1)
    omega)
  rw [List.map_cons, List.map_map] at this
  exact this
theorem comp_all {α : Type} {g : MG} {m : MD} {δ : DEnv} {f h : α → PyData} {xs : List α} (H : ∀ x ∈ xs, ∃ δ1, g (f x) δ = some δ1 ∧ m δ1 = .ok (h x)) : compR g mYes m δ (xs.map f) = .ok (xs.map h) := compR_map fun x hx => by
  obtain ⟨δ1, e1, e2⟩ := H x hx
  exact ⟨δ1, e1, rfl, e2⟩
theorem fig_500 {k : Nat} {q : Rat} (hk5 : k ≤ 500) (h : Fig k q) : Fig 500 q := ⟨Nat.lt_of_lt_of_le h.1 (Nat.pow_le_pow_right (by decide) hk5), Nat.lt_of_lt_of_le h.2 (Nat.pow_le_pow_right (by decide) hk5)⟩
theorem show_plan_ok {k n f : Nat} {g : Gm} {s : Int} {P : Plan} {sl : DL.Slot} (hsl : sl = .val (.dict (planE P)) ∨ sl = .bor (.dict (planE P))) (hk : k ≤ 9000) (h : g.Good k) (hm : g.many ≤ 10000) (hs : Sides g) (h0 : 0 < n) (hn : n ≤ 100) (hz : ∀ r ∈ tableS g s, r.2.2.1.length ≤ 64 ∧ r.2.1.length ≤ 1000) (hPz : PlanSz n P) (hf0 : 0 < f) (hf : f ≤ 30) (hPf : ∀ x ∈ P, ∀ q ∈ x.2, Fig f q) (hP : PlanOk P (tableS g s)) (hT : (tableS g s).length ≤ 64) : d_show_plan [.val g.d, .val (.int s), sl] = .ok (.val (.str (planText P ((tableS g s).map (·.2.1))))) := by
  have e1 := rows_of_ok (s := s) hk h hm hs
  have e2 := ask_plan_ok (s := s) (ds := planE P) hsl hk h hm hs (flat_plan P) h0 hn (fun r hr => ⟨(hz r hr).1, fun d hd => plan_szB hPz hd⟩) (planB_of hP)
  have e0 : d_show_plan [.val g.d, .val (.int s), sl] = (b_show_plan [some (.val g.d), some (.val (.int s)), some sl, none, none, none, none, none, none]).res := rfl
  rw [e0]
  have hP2 := hP.2
  generalize tableS g s = T at *
  generalize g.d = G at *
  unfold b_show_plan
  rw [seq_nx (δ' := [some (.val G), some (.val (.int s)), some sl, none, none, none, none, none, none]) (by rcases hsl with rfl | rfl <;> simp [e2]),
    seq_nx (δ' := [some (.val G), some (.val (.int s)), some sl, some (.own (.list (((T.take 0).map fun r => rowText r.2.1 (look P r.2.1)).map PyData.str))), none, none, none, none, none]) (by rfl)]
  have F1 := for_ix (g := mgT 4 (mgCons (mgN 4) (mgCons (mgN 5) (mgCons (mgN 6) (mgCons (mgN 7) mgNil))))) (it := miQ (mV (mCall Pg.d_rows_of (mACons (mVar 0) (mACons (mVar 1) mANil))))) (b := L_show_plan_1) (enc := rowD) T (fun i δ => ∃ o4 o5 o6 o7, δ = [some (.val G), some (.val (.int s)), some sl, some (.own (.list (((T.take i).map fun r => rowText r.2.1 (look P r.2.1)).map PyData.str))), o4, o5, o6, o7, none]) (δ := [some (.val G), some (.val (.int s)), some sl, some (.own (.list (((T.take 0).map fun r => rowText r.2.1 (look P r.2.1)).map PyData.str))), none, none, none, none, none]) (by simp [e1]) (by
    rintro i hi δ ⟨o4, o5, o6, o7, rfl⟩
    refine ⟨_, rfl, ?_⟩
    have hr := List.getElem_mem hi
    obtain ⟨z1, z2⟩ := hz _ hr
    obtain ⟨p1, p2, p3, p4⟩ := hP2 _ hr
    have hka := keyAt_nm (flat_plan P) T[i].2.1
    have hgd := dget_key p1
    obtain ⟨x, hx, ex⟩ := look_mem p1
    have hfq : ∀ q ∈ look P T[i].2.1, Fig f q := fun q hq => hPf x hx q (ex ▸ hq)
    have ei : ((T.take (i + 1)).map fun r => rowText r.2.1 (look P r.2.1)).map PyData.str = ((T.take i).map fun r => rowText r.2.1 (look P r.2.1)).map PyData.str ++ [.str (rowText T[i].2.1 (look P T[i].2.1))] := by
      rw [List.take_add_one, List.getElem?_eq_getElem hi, Option.toList_some, List.map_append, List.map_append]
      rfl
    have hRz : (((T.take i).map fun r => rowText r.2.1 (look P r.2.1)).map PyData.str).length < sizeLine := by
      have := List.length_take_le i T
      rw [List.length_map, List.length_map]
      exact Nat.lt_of_le_of_lt (m := 64) (by omega) (by decide)
    rw [ei]
    generalize ((T.take i).map fun r => rowText r.2.1 (look P r.2.1)).map PyData.str = R at hRz ⊢
    generalize T[i] = r at *
    obtain ⟨rs, nm, ws, rc⟩ := r
    simp only at *
    generalize hqs : look P nm = qs at *
    have hj := row_join (nm := nm) hf0 (by omega) z2 hfq (by omega)
    have en : PyData.str nm = nmD nm := rfl
    have hfit : fits (qs.map qD) = true := fits_of (by rw [List.length_map]; omega)
    have c : ∀ a b c d : Option DL.Slot, compR (mgN 8) mYes (mV (mCall Pg.d_show_ratio (mACons (mVar 8) mANil))) [some (.val G), some (.val (.int s)), some sl, some (.own (.list R)), a, b, c, d, none] (qs.map qD) = .ok (qs.map fun q => PyData.str (showQ q)) := fun a b c d => comp_all fun q hq => by
      have := fig_500 (by omega) (hfq q hq)
      exact ⟨_, rfl, by simp [show_q this.1 this.2]⟩
    refine ⟨[some (.val G), some (.val (.int s)), some sl, some (.own (.list (R ++ [.str (rowText nm qs)]))), some (.val (.int rs)), some (.val (.str nm)), some (.val (.tuple (ws.map PyData.str))), some (.val (recD rc)), none], ?_, ⟨_, _, _, _, rfl⟩⟩
    rw [← en] at hgd hka
    have hgd' : dget (planE P) (.str nm) = some (.tuple (qs.map qD)) := hgd
    have c' := c (some (.val (.int rs))) (some (.val (.str nm))) (some (.val (.tuple (ws.map PyData.str)))) (some (.val (recD rc)))
    have hYl : (qs.map fun q => PyData.str (showQ q)).length ≤ 64 := by rw [List.length_map]; omega
    generalize (qs.map fun q => PyData.str (showQ q)) = Y at c' hj hYl
    generalize hX : qs.map qD = X at c' hgd' hfit
    have hadd : addF (.list [.str nm]) (.list Y) = .ok (.own (.list (.str nm :: Y))) := addF_list (by simp; omega)
    generalize Slot.val (.tuple (ws.map PyData.str)) = sw at c' ⊢
    generalize Slot.val (recD rc) = sr at c' ⊢
    unfold L_show_plan_1
    rcases hsl with rfl | rfl <;> simp [hka, hgd', hfit, c', hadd, hj, hRz, fits_of]) ⟨_, _, _, _, rfl⟩
  obtain ⟨δ1, e3, o4, o5, o6, o7, rfl⟩ := F1
  rw [seq_nx e3, List.take_length]
  have hj2 := join_ok (y := "; ") (L := T.map fun r => rowText r.2.1 (look P r.2.1)) (m := 10000) (fun x hx => by
    obtain ⟨r, hr, rfl⟩ := List.mem_map.mp hx
    obtain ⟨p1, p2, p3, p4⟩ := hP2 _ hr
    obtain ⟨x, hx, ex⟩ := look_mem p1
    have := rowText_len (k := f) (b := 64) hf0 (hz r hr).2 (fun q hq => hPf x hx q (ex ▸ hq)) (by have := (hz r hr).1; omega)
    have := Nat.mul_le_mul_left 64 (show 2 * f + 4 ≤ 64 by omega)
    omega) (by decide) (by
    rw [List.length_map]
    have := Nat.mul_le_mul_right 10016 hT
    omega)
  have et : planText P (T.map (·.2.1)) = Txt.join "; " (T.map fun r => rowText r.2.1 (look P r.2.1)) := by
    unfold planText
    rw [List.map_map]
    rfl
  rw [et]
  generalize (T.map fun r => rowText r.2.1 (look P r.2.1)) = R at hj2 ⊢
  simp [hj2]
end Pg
/-! DS5: each once; the names of a table; plans read -/
namespace Pg
open PySem L2 DL TL
section
variable {α β : Type} [DecidableEq α] [DecidableEq β]
/-- each once, in the order in which they come first -/
def ddF (acc xs : List α) : List α := xs.foldl (fun a x => if x ∈ a then a else a ++ [x]) acc
def dd (xs : List α) : List α := ddF [] xs
theorem ddF_cons (acc : List α) (x : α) (xs : List α) : ddF acc (x :: xs) = ddF (if x ∈ acc then acc else acc ++ [x]) xs := rfl
theorem ddF_app (acc xs ys : List α) : ddF acc (xs ++ ys) = ddF (ddF acc xs) ys := List.foldl_append
theorem dd_cons0 (x : α) (xs : List α) : dd (x :: xs) = ddF [x] xs := by
  unfold dd
  rw [ddF_cons]
  simp
theorem ddF_eq : ∀ (xs acc : List α), ddF acc xs = acc ++ (dd xs).filter fun x => decide (x ∉ acc)
  | [], acc => by simp [ddF, dd]
  | x :: xs, acc => by
    rw [ddF_cons, ddF_eq xs, dd_cons0, ddF_eq xs [x]]
    by_cases hx : x ∈ acc
    · rw [if_pos hx, List.filter_append, List.filter_filter]
      have h1 : ([x] : List α).filter (fun y => decide (y ∉ acc)) = [] := by simp [hx]
      rw [h1, List.nil_append]
      congr 1
      refine List.filter_congr fun y _ => ?_
      by_cases hy : y ∈ acc
      · simp [hy]
      · have : y ≠ x := fun z => hy (z ▸ hx)
        simp [hy, this]
    · rw [if_neg hx, List.filter_append, List.filter_filter]
      have h1 : ([x] : List α).filter (fun y => decide (y ∉ acc)) = [x] := by simp [hx]
      rw [h1, List.append_assoc]
      congr 2
      refine List.filter_congr fun y _ => ?_
      by_cases hy : y ∈ acc
      · simp [hy]
      · by_cases hyx : y = x
        · simp [hyx]
        · simp [hy, hyx]
theorem dd_app (xs ys : List α) : dd (xs ++ ys) = dd xs ++ (dd ys).filter fun x => decide (x ∉ dd xs) := by
  unfold dd
  rw [ddF_app, ddF_eq ys]
  rfl
theorem ddF_mem {x : α} : ∀ {xs acc : List α}, x ∈ ddF acc xs ↔ x ∈ acc ∨ x ∈ xs
  | [], acc => by simp [ddF]
  | y :: xs, acc => by
    rw [ddF_cons, ddF_mem]
    by_cases hy : y ∈ acc
    · rw [if_pos hy, List.mem_cons]
      constructor
      · rintro (h | h)
        · exact .inl h
        · exact .inr (.inr h)
      · rintro (h | rfl | h)
        · exact .inl h
        · exact .inl hy
        · exact .inr h
    · rw [if_neg hy, List.mem_append, List.mem_singleton, List.mem_cons, or_assoc]
theorem dd_mem {x : α} {xs : List α} : x ∈ dd xs ↔ x ∈ xs := by
  unfold dd
  rw [ddF_mem]
  simp
theorem ddF_nodup : ∀ {xs acc : List α}, acc.Nodup → (ddF acc xs).Nodup
  | [], acc, h => h
  | y :: xs, acc, h => by
    rw [ddF_cons]
    refine ddF_nodup ?_
    by_cases hy : y ∈ acc
    · rw [if_pos hy]; exact h
    · rw [if_neg hy, List.nodup_append]
      exact ⟨h, by simp, fun a ha b hb z => by
        rw [List.mem_singleton] at hb
        subst hb z
        exact hy ha⟩
theorem dd_nodup (xs : List α) : (dd xs).Nodup := ddF_nodup (by simp)
theorem ddF_filter (p : α → Bool) : ∀ (xs acc : List α), (ddF acc xs).filter p = ddF (acc.filter p) (xs.filter p)
  | [], acc => rfl
  | x :: xs, acc => by
    rw [ddF_cons, ddF_filter p xs]
    cases hp : p x
    · have h1 : (x :: xs).filter p = xs.filter p := by simp [hp]
      rw [h1]
      congr 1
      by_cases hx : x ∈ acc
      · rw [if_pos hx]
      · rw [if_neg hx]; simp [hp]
    · have h1 : (x :: xs).filter p = x :: xs.filter p := by simp [hp]
      rw [h1, ddF_cons]
      congr 1
      by_cases hx : x ∈ acc
      · rw [if_pos hx, if_pos (List.mem_filter.mpr ⟨hx, hp⟩)]
      · rw [if_neg hx, if_neg (fun z => hx (List.mem_filter.mp z).1)]
        simp [hp]
theorem dd_filter (p : α → Bool) (xs : List α) : (dd xs).filter p = dd (xs.filter p) := ddF_filter p xs []
theorem ddF_map {f : α → β} : ∀ {xs acc : List α}, (∀ a ∈ acc ++ xs, ∀ b ∈ acc ++ xs, f a = f b → a = b) → (ddF acc xs).map f = ddF (acc.map f) (xs.map f)
  | [], acc, _ => rfl
  | x :: xs, acc, h => by
    rw [ddF_cons, List.map_cons, ddF_cons]
    have hx : f x ∈ acc.map f ↔ x ∈ acc := by
      constructor
      · intro z
        obtain ⟨y, hy, e⟩ := List.mem_map.mp z
        have := h y (List.mem_append_left _ hy) x (List.mem_append_right _ List.mem_cons_self) e
        exact this ▸ hy
      · exact fun z => List.mem_map.mpr ⟨x, z, rfl⟩
    by_cases hm : x ∈ acc
    · rw [if_pos hm, if_pos (hx.mpr hm)]
      refine ddF_map fun a ha b hb => h a ?_ b ?_
      · rcases List.mem_append.mp ha with q | q
        · exact List.mem_append_left _ q
        · exact List.mem_append_right _ (List.mem_cons_of_mem _ q)
      · rcases List.mem_append.mp hb with q | q
        · exact List.mem_append_left _ q
        · exact List.mem_append_right _ (List.mem_cons_of_mem _ q)
    · rw [if_neg hm, if_neg (fun z => hm (hx.mp z))]
      have := ddF_map (f := f) (xs := xs) (acc := acc ++ [x]) fun a ha b hb => h a (by simpa using ha) b (by simpa using hb)
      rw [this, List.map_append]
      rfl
theorem dd_map {f : α → β} {xs : List α} (h : ∀ a ∈ xs, ∀ b ∈ xs, f a = f b → a = b) : dd (xs.map f) = (dd xs).map f := (ddF_map (acc := []) (by simpa using h)).symm
end
/-! the names of a table -/
def nmsOf (s : Int) (ps : List Pc) : List Str := ((ps.filterMap keyP).filter fun k => decide (k.1 = s)).map (·.2)
theorem nmsOf_app (s : Int) (ps qs : List Pc) : nmsOf s (ps ++ qs) = nmsOf s ps ++ nmsOf s qs := by simp [nmsOf]
theorem fkeys_fold : ∀ (ps : List Pc) (L : Fs), fkeys (ps.foldl fput L) = ddF (fkeys L) (ps.filterMap keyP)
  | [], L => rfl
  | x :: ps, L => by
    rw [List.foldl_cons, fkeys_fold ps]
    unfold fput
    cases hk : keyP x with
    | none => simp [List.filterMap_cons, hk]
    | some k =>
      rw [List.filterMap_cons, hk]
      simp only
      rw [ddF_cons]
      by_cases hm : k ∈ fkeys L
      · rw [if_pos hm, if_pos hm]
      · rw [if_neg hm, if_neg hm]
        simp [fkeys]
theorem fkeys_firsts (ps : List Pc) : fkeys (firstsOf ps) = dd (ps.filterMap keyP) := fkeys_fold ps []
theorem tnames_eq (g : Gm) (s : Int) : (tableS g s).map (·.2.1) = dd (nmsOf s (seenP (root g))) := by
  unfold tableS table rowsBy
  rw [List.filter_map, List.map_map]
  have e1 : ((firstsOf (seenP (root g))).filter ((fun x : Row => decide (x.1 = s)) ∘ rowOf)).map ((fun x : Row => x.2.1) ∘ rowOf) = ((fkeys (firstsOf (seenP (root g)))).filter fun k => decide (k.1 = s)).map (·.2) := by
    unfold fkeys
    rw [List.filter_map, List.map_map]
    rfl
  rw [e1, fkeys_firsts, dd_filter]
  unfold nmsOf
  refine (dd_map fun a ha b hb e => ?_).symm
  have h1 := of_decide_eq_true (List.mem_filter.mp ha).2
  have h2 := of_decide_eq_true (List.mem_filter.mp hb).2
  exact Prod.ext (h1.trans h2.symm) e
/-! what holds of all within -/
inductive Gm.All (P : Gm → Prop) : Gm → Prop
  | mk {g : Gm} : P g → (∀ p ∈ g.parts, Gm.All P p) → Gm.All P g
theorem Gm.All.here {P : Gm → Prop} {g : Gm} (h : Gm.All P g) : P g := by cases h; assumption
theorem Gm.All.part {P : Gm → Prop} {g : Gm} (h : Gm.All P g) : ∀ p ∈ g.parts, Gm.All P p := by cases h; assumption
theorem Gm.All.seen {P : Gm → Prop} {x : Pc} (h : Gm.All P x.2.1) : ∀ y ∈ seenP x, Gm.All P y.2.1 := by
  obtain ⟨w, g, r⟩ := x
  induction g using Gm.ind generalizing w r with
  | h g ih =>
    intro y hy
    rw [seenP_eq] at hy
    rcases List.mem_cons.mp hy with rfl | hy
    · exact h
    · obtain ⟨z, hz, hy⟩ := List.mem_flatMap.mp hy
      have hp := kidsR_mem hz
      exact ih z.2.1 hp z.1 z.2.2 (Gm.All.part h _ hp) y hy
theorem Gm.All.mono {P Q : Gm → Prop} (f : ∀ g, P g → Q g) {g : Gm} (h : Gm.All P g) : Gm.All Q g := by
  induction g using Gm.ind with
  | h g ih => exact ⟨f _ h.here, fun p hp => ih p hp (h.part p hp)⟩
def GSide (g : Gm) : Prop := ∀ s nm ws, g = .move s nm ws → s = 1 ∨ s = 2
theorem sides_of {g : Gm} (h : Gm.All GSide g) : Sides g := fun x hx k hk => by
  obtain ⟨ws, e⟩ := keyP_move hk
  exact (Gm.All.seen (x := root g) h x hx).here _ _ _ e
theorem row_move {g : Gm} {r : Row} (h : r ∈ table g) : ∃ x ∈ seenP (root g), ∃ ws, x.2.1 = .move r.1 r.2.1 ws ∧ r.2.2.1 = ws.map (·.1) ∧ r.2.2.2 = recOf r.1 x.2.2 := by
  obtain ⟨y, hy, rfl⟩ := List.mem_map.mp h
  have := firsts_key (ps := seenP (root g)) (P := fun y => y.2 ∈ seenP (root g) ∧ keyP y.2 = some y.1) (fun x hx k e => ⟨hx, e⟩) y hy
  obtain ⟨ws, e⟩ := keyP_move this.2
  exact ⟨y.2, this.1, ws, e, by simp [rowOf, e, gwords], rfl⟩
theorem rowS_move {g : Gm} {s : Int} {r : Row} (h : r ∈ tableS g s) : r.1 = s ∧ ∃ x ∈ seenP (root g), ∃ ws, x.2.1 = .move s r.2.1 ws ∧ r.2.2.1 = ws.map (·.1) ∧ r.2.2.2 = recOf s x.2.2 := by
  have h1 := List.mem_filter.mp h
  have h2 : r.1 = s := of_decide_eq_true h1.2
  obtain ⟨x, hx, ws, a, b, c⟩ := row_move h1.1
  rw [h2] at a c
  exact ⟨h2, x, hx, ws, a, b, c⟩
theorem tableS_len (g : Gm) (s : Int) : (tableS g s).length ≤ g.many := by
  have h1 := List.length_filter_le (fun x : Row => decide (x.1 = s)) (table g)
  have h2 := firsts_len (seenP (root g))
  rw [seenP_len] at h2
  simp only [tableS, table, rowsBy, List.length_map, root] at h1 h2 ⊢
  omega
/-! names -/
def NmOk (z : Str) : Prop := (1 ≤ z.length ∧ z.length ≤ 8) ∧ ∀ c ∈ tl z, sgnB c = true ∧ 48 ≤ c ∧ c < 128
theorem NmOk.str {z : Str} (h : NmOk z) : PyData.strOk z = true := digits_ok fun c hc => (h.2 c hc).2.2
theorem NmOk.name {z : Str} (h : NmOk z) : isNameB (.str z) = true := by
  simp only [isNameB, Bool.and_eq_true, decide_eq_true_eq, List.all_eq_true]
  exact ⟨h.1, fun c hc => (h.2 c hc).1⟩
theorem NmOk.is {z : Str} (h : NmOk z) : d_is_name [.val (.str z)] = .ok (.val (.bool true)) := by
  rw [name_any (by simp [shortB]; have := h.1.2; omega), h.name]
theorem s36_all : ∀ c ∈ tl S36, sgnB c = true ∧ 48 ≤ c ∧ c < 128 := by decide +kernel
theorem nm_nameS {is : List Nat} (h1 : 1 ≤ is.length) (h2 : is.length ≤ 8) (h : ∀ i ∈ is, i < 36) : NmOk (nameS is) := by
  have e := tl_nameS is
  refine ⟨?_, fun c hc => ?_⟩
  · rw [len_tl, e, List.length_map]
    exact ⟨h1, h2⟩
  · rw [e] at hc
    obtain ⟨i, hi, rfl⟩ := List.mem_map.mp hc
    have hi' : i < (tl S36).length := by rw [s36.1]; exact h i hi
    rw [List.getD_eq_getElem?_getD, List.getElem?_eq_getElem hi']
    exact s36_all _ (List.getElem_mem hi')
/-! the text of a plan read -/
def PT (P : Plan) : Str := Txt.join "; " (P.map fun x => rowText x.1 x.2)
theorem look_self {P : Plan} (h : (pkeys P).Nodup) {x : Str × List Rat} (hx : x ∈ P) : look P x.1 = x.2 := by
  unfold look
  rw [find_mem ((List.pairwise_map (f := fun x : Str × List Rat => x.1)).mp h) hx]
  rfl
theorem planText_self {P : Plan} (h : (pkeys P).Nodup) : planText P (pkeys P) = PT P := by
  unfold planText PT pkeys
  rw [List.map_map]
  congr 1
  exact List.map_congr_left fun x hx => by simp only [Function.comp_apply]; rw [look_self h hx]
theorem showQ_sign (q : Rat) : ∀ c ∈ tl (showQ q), 45 ≤ c ∧ c ≤ 57 := by
  have hn : ∀ n : Nat, ∀ c ∈ tl (tn n), 45 ≤ c ∧ c ≤ 57 := fun n c hc => by
    rw [tl_tn] at hc
    have := numL_digits n c hc
    omega
  have hb : ∀ a b : Nat, ∀ c ∈ tl (bodyS a b), 45 ≤ c ∧ c ≤ 57 := fun a b c hc => by
    unfold bodyS at hc
    split at hc
    · exact hn a c hc
    · rw [tl_append, tl_append, tl_slash] at hc
      rcases List.mem_append.mp hc with hc | hc
      · rcases List.mem_append.mp hc with hc | hc
        · exact hn a c hc
        · rw [List.mem_singleton] at hc; omega
      · exact hn b c hc
  intro c hc
  by_cases h : q.num < 0
  · rw [tl_show_neg h] at hc
    rcases List.mem_cons.mp hc with rfl | hc
    · omega
    · exact hb _ _ c hc
  · rw [show_pos h] at hc
    exact hb _ _ c hc
theorem tl_blank : tl (" " : Str) = [32] := by decide
theorem tl_semi : tl ("; " : Str) = [59, 32] := by decide
theorem joinL_mem {S : List Nat} : ∀ {L : List (List Nat)} {c : Nat}, c ∈ joinL S L → c ∈ S ∨ ∃ l ∈ L, c ∈ l
  | [], c, h => by simp [joinL] at h
  | [p], c, h => .inr ⟨p, List.mem_singleton.mpr rfl, h⟩
  | p :: q :: r, c, h => by
    simp only [joinL, List.mem_append] at h
    rcases h with h | h | h
    · exact .inr ⟨p, List.mem_cons_self, h⟩
    · exact .inl h
    · rcases joinL_mem h with h | ⟨l, hl, h⟩
      · exact .inl h
      · exact .inr ⟨l, List.mem_cons_of_mem _ hl, h⟩
theorem join_mem {y : Str} {L : List Str} {c : Nat} (h : c ∈ tl (Txt.join y L)) : c ∈ tl y ∨ ∃ l ∈ L, c ∈ tl l := by
  rw [join_eq, tl_join] at h
  rcases joinL_mem h with h | ⟨l, hl, h⟩
  · exact .inl h
  · obtain ⟨z, hz, rfl⟩ := List.mem_map.mp hl
    exact .inr ⟨z, hz, h⟩
/-- a row's signs -/
theorem rowText_sign {nm : Str} {qs : List Rat} (h : NmOk nm) : ∀ c ∈ tl (rowText nm qs), c ≠ 59 ∧ c < 128 := fun c hc => by
  rcases join_mem hc with hc | ⟨l, hl, hc2⟩
  · rw [tl_blank, List.mem_singleton] at hc
    omega
  · rcases List.mem_cons.mp hl with rfl | hl
    · have := (h.2 c hc2).2
      constructor
      · rintro rfl
        have h1 := (h.2 59 hc2).1
        revert h1
        decide +kernel
      · omega
    · obtain ⟨q, _, rfl⟩ := List.mem_map.mp hl
      have := showQ_sign q c hc2
      omega
theorem row_split {nm : Str} {qs : List Rat} (h : NmOk nm) : Txt.split (rowText nm qs) " " = nm :: qs.map showQ := by
  unfold rowText
  refine split_join tl_blank (by decide +kernel) (by simp) fun p hp hc => ?_
  rcases List.mem_cons.mp hp with rfl | hp
  · have := (h.2 32 hc).2
    omega
  · obtain ⟨q, _, rfl⟩ := List.mem_map.mp hp
    have := showQ_sign q 32 hc
    omega
theorem pt_split {P : Plan} (h0 : P ≠ []) (h : ∀ x ∈ P, NmOk x.1) : Txt.split (PT P) "; " = P.map fun x => rowText x.1 x.2 := by
  unfold PT
  refine split_join tl_semi (by decide +kernel) (by simpa using h0) fun p hp hc => ?_
  obtain ⟨x, hx, rfl⟩ := List.mem_map.mp hp
  exact (rowText_sign (h x hx) 59 hc).1 rfl
theorem PT_sign {P : Plan} (h : ∀ x ∈ P, NmOk x.1) : ∀ c ∈ tl (PT P), c < 128 := fun c hc => by
  rcases join_mem hc with hc | ⟨l, hl, hc⟩
  · rw [tl_semi] at hc
    simp only [List.mem_cons, List.not_mem_nil, or_false] at hc
    omega
  · obtain ⟨x, hx, rfl⟩ := List.mem_map.mp hl
    exact (rowText_sign (h x hx) c hc).2
theorem PT_ok {P : Plan} (h : ∀ x ∈ P, NmOk x.1) : PyData.strOk (PT P) = true := digits_ok (PT_sign h)
theorem rowText_pos {nm : Str} {qs : List Rat} (h : NmOk nm) : 1 ≤ (rowText nm qs).length := by
  have hl := h.1.1
  unfold rowText
  rw [len_tl, join_eq, tl_join]
  cases qs with
  | nil => simp only [List.map_nil, List.map_cons, joinL]; rw [← len_tl]; exact hl
  | cons q qs =>
    simp only [List.map_cons, joinL, List.length_append]
    rw [← len_tl nm]
    omega
theorem PT_nil : PT [] = "" := by
  refine ext_tl ?_
  unfold PT
  rw [join_eq, tl_join]
  rfl
theorem PT_ne {P : Plan} (h0 : P ≠ []) (h : ∀ x ∈ P, NmOk x.1) : PT P ≠ "" := by
  obtain ⟨x, P', rfl⟩ : ∃ x P', P = x :: P' := by
    cases P with
    | nil => exact absurd rfl h0
    | cons x P' => exact ⟨x, P', rfl⟩
  intro e
  have h1 := rowText_pos (qs := x.2) (h x List.mem_cons_self)
  have e2 : (tl (PT (x :: P'))).length = 0 := by rw [e]; decide
  unfold PT at e2
  rw [join_eq, tl_join] at e2
  rw [len_tl] at h1
  cases P' with
  | nil => simp only [List.map_nil, List.map_cons, joinL] at e2; omega
  | cons y P' =>
    simp only [List.map_cons, joinL, List.length_append] at e2
    omega
theorem PT_len {P : Plan} {f : Nat} (hf0 : 0 < f) (hf : f ≤ 30) (h : ∀ x ∈ P, NmOk x.1) (hF : ∀ x ∈ P, ∀ q ∈ x.2, Fig f q) (hL : ∀ x ∈ P, x.2.length ≤ 64) : (PT P).length ≤ P.length * 4200 := by
  have h1 := join_len "; " (P.map fun x => rowText x.1 x.2)
  have h2 := Gm.sum_le (xs := (P.map fun x => rowText x.1 x.2).map (fun s : Str => s.length)) (k := 4198) fun z hz => by
    rw [List.map_map] at hz
    obtain ⟨x, hx, rfl⟩ := List.mem_map.mp hz
    have := rowText_len (k := f) (a := 8) (b := 64) hf0 (h x hx).1.2 (hF x hx) (hL x hx)
    have := Nat.mul_le_mul_left 64 (show 2 * f + 4 ≤ 64 by omega)
    simp only [Function.comp_apply]
    omega
  have e : ("; " : Str).length = 2 := by decide
  rw [e] at h1
  simp only [List.length_map] at h1 h2
  show (Txt.join "; " (P.map fun x => rowText x.1 x.2)).length ≤ _
  omega
end Pg
/-! DS6: plans read -/
namespace Pg
open PySem L2 DL TL
theorem str_beq_false {a b : Str} (h : a ≠ b) : (a == b) = false := beq_eq_false_iff_ne.mpr h
@[simp] theorem ok_empty : PyData.strOk "" = true := by decide +kernel
@[simp] theorem b_empty : (("" : Str) == ("" : Str)) = true := by decide +kernel
theorem read_row {G T : PyData} {s : Int} {P : Plan} {nm : Str} {qs : List Rat} {o5 o6 : Option DL.Slot} (hn : NmOk nm) (hk : nm ∉ pkeys P) (h1 : 1 ≤ qs.length) (h2 : qs.length ≤ 64) (hq : ∀ q ∈ qs, Fig 30 q) (hl : P.length < sizeLine) :
    L_read_plan_1 [some (.val G), some (.val (.int s)), some (.val T), some (.own (.dict (planE P))), some (.val (.str (rowText nm qs))), o5, o6] = .nx [some (.val G), some (.val (.int s)), some (.val T), some (.own (.dict (planE (P ++ [(nm, qs)])))), some (.val (.str (rowText nm qs))), some (.own (.list (.str nm :: qs.map fun q => PyData.str (showQ q)))), o6] := by
  have hlen := rowText_len (k := 30) (a := 8) (b := 64) (by decide) hn.1.2 hq h2
  have es := splitF_str (a := rowText nm qs) (b := " ") (by decide) (by omega)
  rw [row_split hn, List.map_cons, List.map_map] at es
  have ey : (qs.map (PyData.str ∘ showQ)) = qs.map fun q => PyData.str (showQ q) := rfl
  rw [ey] at es
  have ei := hn.is
  have hka := keyAt_nm (flat_plan P) nm
  have hgd := dget_nokey hk
  have hc : ∀ o5, compR (mgN 6) mYes (mV (mCall Pg.d_read_ratio (mACons (mVar 6) mANil))) [some (.val G), some (.val (.int s)), some (.val T), some (.own (.dict (planE P))), some (.val (.str (rowText nm qs))), o5, none] (qs.map fun q => PyData.str (showQ q)) = .ok (qs.map qD) := fun o5 => comp_all fun q hqm => ⟨_, rfl, by simp [read_q (hq q hqm).1 (hq q hqm).2]⟩
  have hct := cutD_from (ds := PyData.str nm :: qs.map fun q => PyData.str (showQ q)) (n := 1) (by decide)
  have hdr : (PyData.str nm :: qs.map fun q => PyData.str (showQ q)).drop (1 : Int).toNat = qs.map fun q => PyData.str (showQ q) := rfl
  rw [hdr] at hct
  have hfit : fits (qs.map fun q => PyData.str (showQ q)) = true := fits_of (by rw [List.length_map]; omega)
  have hfit2 : fits (qs.map qD) = true := fits_of (by rw [List.length_map]; omega)
  have hput : dput (planE P) (nmD nm) (.tuple (qs.map qD)) = planE (P ++ [(nm, qs)]) := dput_new (f := qsD) nm_inj fun x hx z => hk (List.mem_map.mpr ⟨x, hx, z⟩)
  have hln : ¬ (((qs.map fun q => PyData.str (showQ q)).length : Int) + 1 < 2) := by rw [List.length_map]; omega
  have hpl : (planE P).length < sizeLine := by rw [planE, encL_len]; exact hl
  have en : PyData.str nm = nmD nm := rfl
  rw [← en] at hka hgd hput
  generalize rowText nm qs = z at *
  generalize (qs.map fun q => PyData.str (showQ q)) = Y at *
  generalize qs.map qD = X at *
  generalize planE P = D at *
  generalize planE (P ++ [(nm, qs)]) = D' at *
  unfold L_read_plan_1
  rw [seq_nx (δ' := [some (.val G), some (.val (.int s)), some (.val T), some (.own (.dict D)), some (.val (.str z)), some (.own (.list (.str nm :: Y))), o6]) (by simp [es]),
    seq_nx (δ' := [some (.val G), some (.val (.int s)), some (.val T), some (.own (.dict D)), some (.val (.str z)), some (.own (.list (.str nm :: Y))), o6]) (by simp [ei, hka, hgd, hln])]
  simp [hct, hfit, hc, hfit2, hka, hput, hpl]
/-- THE READING of a plan's text -/
theorem read_plan_ok {k n : Nat} {g : Gm} {s : Int} {P : Plan} (hk : k ≤ 9000) (h : g.Good k) (hm : g.many ≤ 10000) (hs : Sides g) (h0 : 0 < n) (hn : n ≤ 100) (hz : ∀ r ∈ tableS g s, r.2.2.1.length ≤ 64) (hPz : PlanSz n P) (hN : ∀ x ∈ P, NmOk x.1 ∧ 1 ≤ x.2.length ∧ x.2.length ≤ 64 ∧ ∀ q ∈ x.2, Fig 30 q) (hnd : (pkeys P).Nodup) (hP : PlanOk P (tableS g s)) (hl : (PT P).length ≤ 10000) : d_read_plan [.val g.d, .val (.int s), .val (.str (PT P))] = .ok (.own (.dict (planE P))) := by
  have e2 := ask_plan_ok (s := s) (ds := planE P) (.inr rfl) hk h hm hs (flat_plan P) h0 hn (fun r hr => ⟨hz r hr, fun d hd => plan_szB hPz hd⟩) (planB_of hP)
  have e0 : d_read_plan [.val g.d, .val (.int s), .val (.str (PT P))] = (b_read_plan [some (.val g.d), some (.val (.int s)), some (.val (.str (PT P))), none, none, none, none]).res := rfl
  rw [e0]
  have hok := PT_ok fun x hx => (hN x hx).1
  generalize g.d = G at *
  have F : ∃ o4 o5 o6, mIf (mTest (mB neF (mR (mVar 2)) (mR (mC (.str ""))))) (mFor (mgN 4) (miQ (mV (mM1 splitF (mR (mVar 2)) (mR (mC (.str "; ")))))) Pg.L_read_plan_1) mNext [some (.val G), some (.val (.int s)), some (.val (.str (PT P))), some (.own (.dict [])), none, none, none] = .nx [some (.val G), some (.val (.int s)), some (.val (.str (PT P))), some (.own (.dict (planE P))), o4, o5, o6] := by
    by_cases hP0 : P = []
    · subst hP0
      refine ⟨none, none, none, ?_⟩
      rw [PT_nil]
      simp [planE, encL]
    · have hne := PT_ne hP0 fun x hx => (hN x hx).1
      have hb := str_beq_false hne
      have es := splitF_str (a := PT P) (b := "; ") (by decide) hl
      rw [pt_split hP0 fun x hx => (hN x hx).1, List.map_map] at es
      have F1 := for_ix (g := mgN 4) (it := miQ (mV (mM1 splitF (mR (mVar 2)) (mR (mC (.str "; ")))))) (b := L_read_plan_1) (enc := fun x : Str × List Rat => PyData.str (rowText x.1 x.2)) P (fun i δ => ∃ o4 o5 o6, δ = [some (.val G), some (.val (.int s)), some (.val (.str (PT P))), some (.own (.dict (planE (P.take i)))), o4, o5, o6]) (δ := [some (.val G), some (.val (.int s)), some (.val (.str (PT P))), some (.own (.dict [])), none, none, none]) (by simp [es, Function.comp_def]) (by
        rintro i hi δ ⟨o4, o5, o6, rfl⟩
        refine ⟨_, rfl, ?_⟩
        obtain ⟨a1, a2, a3, a4⟩ := hN _ (List.getElem_mem hi)
        have hnk : P[i].1 ∉ pkeys (P.take i) := by
          have e : pkeys P = pkeys (P.take i) ++ P[i].1 :: pkeys (P.drop (i + 1)) := by
            unfold pkeys
            rw [← List.map_cons (f := fun x : Str × List Rat => x.1), ← List.map_append, ← List.drop_eq_getElem_cons hi, List.take_append_drop]
          rw [e] at hnd
          exact fun z => (List.nodup_append.mp hnd).2.2 _ z _ List.mem_cons_self rfl
        have hPl : P.length ≤ 10000 := by
          have := hP.1
          have h1 := tableS_len g s
          omega
        have r := read_row (G := G) (T := .str (PT P)) (s := s) (o5 := o5) (o6 := o6) a1 hnk a2 a3 a4 (Nat.lt_of_le_of_lt (m := 10000) (by have := List.length_take_le i P; omega) (by decide))
        have et : P.take i ++ [(P[i].1, P[i].2)] = P.take (i + 1) := by
          rw [List.take_add_one, List.getElem?_eq_getElem hi, Option.toList_some]
        rw [et] at r
        exact ⟨_, r, _, _, _, rfl⟩) ⟨none, none, none, rfl⟩
      obtain ⟨δ1, e3, o4, o5, o6, rfl⟩ := F1
      rw [List.take_length] at e3
      refine ⟨o4, o5, o6, ?_⟩
      rw [mIf_ap]
      have ht : mTest (mB neF (mR (mVar 2)) (mR (mC (.str "")))) [some (.val G), some (.val (.int s)), some (.val (.str (PT P))), some (.own (.dict [])), none, none, none] = .ok true := by
        simp [neF_str hok ok_empty, hb]
      rw [ht, out_ok', if_pos rfl, e3]
  obtain ⟨o4, o5, o6, e3⟩ := F
  unfold b_read_plan
  rw [seq_nx (δ' := [some (.val G), some (.val (.int s)), some (.val (.str (PT P))), none, none, none, none]) (by simp),
    seq_nx (δ' := [some (.val G), some (.val (.int s)), some (.val (.str (PT P))), some (.own (.dict [])), none, none, none]) (by simp),
    seq_nx e3]
  generalize planE P = D at *
  generalize PT P = z at *
  simp [frz, e2]
end Pg
/-! DN3: names that differ at a drawn place (k70 .. k73) -/
namespace Pg
open PySem L2 DL TL
@[simp] theorem intSF_bool {b : Bool} : intSF [.bool b] = .ok (.val (.int (if b then 1 else 0))) := (rfl)
noncomputable def lNm1 : MS := (mAsg 8 (mB addF (mR (mVar 8)) (mR (mB ixF (mR (mVar 3)) (mR (mB modF (mR (mB addF (mR (mB addF (mR (mB divF (mR (mVar 0)) (mR (mB addF (mR (mVar 9)) (mR (mC (.int 1))))))) (mR (mB mulF (mR (mVar 9)) (mR (mVar 9)))))) (mR (mB mulF (mR (mB addF (mR (mVar 7)) (mR (mC (.int 1))))) (mR (mBi intSF (mCons (mR (mB eqF (mR (mVar 9)) (mR (mVar 5)))) mNil))))))) (mR (mC (.int 36)))))))))
noncomputable def lNm2 : MS := (mSeq (mAsg 8 (mC (.str ""))) (mSeq (mFor (mgN 9) (mRng1 (mCons (mV (mVar 4)) mNil)) lNm1) (mApp 6 (mV (mVar 8)))))
noncomputable def bNm : MS := (mSeq (mAsg 3 (mC (.str "abcdefghijklmnopqrstuvwxyz0123456789"))) (mSeq (mAsg 4 (mB addF (mR (mC (.int 1))) (mR (mB modF (mR (mVar 0)) (mR (mC (.int 8))))))) (mSeq (mAsg 5 (mB modF (mR (mVar 1)) (mR (mVar 4)))) (mSeq (mAsg 6 (mLst mNil)) (mSeq (mFor (mgN 7) (mRng1 (mCons (mV (mVar 2)) mNil)) lNm2) (mRetN 6))))))
def nmIx (x : Int) (a : Int) (k j : Nat) : Nat := ((x / ((j : Int) + 1) + (j : Int) * (j : Int) + ((k : Int) + 1) * (if (j : Int) = a then 1 else 0)) % 36).toNat
theorem nmIx_lt (x a : Int) (k j : Nat) : ((x / ((j : Int) + 1) + (j : Int) * (j : Int) + ((k : Int) + 1) * (if (j : Int) = a then 1 else 0)) % 36) = ((nmIx x a k j : Nat) : Int) ∧ nmIx x a k j < 36 := by
  unfold nmIx
  generalize (x / ((j : Int) + 1) + (j : Int) * (j : Int) + ((k : Int) + 1) * (if (j : Int) = a then 1 else 0)) = z
  have h1 := Int.emod_nonneg z (b := 36) (by decide)
  have h2 := Int.emod_lt_of_pos z (b := 36) (by decide)
  exact ⟨(Int.toNat_of_nonneg h1).symm, by omega⟩
def nmOf (x y : Int) (k : Nat) : Str := nameS ((List.range (1 + x % 8).toNat).map (nmIx x (y % (1 + x % 8)) k))
theorem nmOf_ok (x y : Int) (k : Nat) : NmOk (nmOf x y k) := nm_nameS (by simp; omega) (by simp; omega) fun i hi => by
  obtain ⟨j, _, rfl⟩ := List.mem_map.mp hi
  exact (nmIx_lt _ _ _ _).2
theorem nameS_snoc (is : List Nat) (i : Nat) : nameS is ++ sgn i = nameS (is ++ [i]) := ext_tl (by
  rw [tl_append, tl_nameS, tl_nameS, List.map_append]
  rfl)
theorem nameS_len (is : List Nat) : (nameS is).length = is.length := by rw [len_tl, tl_nameS, List.length_map]
theorem nameS_nil : nameS [] = "" := ext_tl (by rw [tl_nameS]; decide)
theorem sgn_len (i : Nat) : (sgn i).length = 1 := rfl
theorem lNm1_run {x y m a : Int} {z : Nat} {N : List PyData} {k : Nat} {s : Nat} (hs : s ≤ 8) (hk : k ≤ 8) (hz : z ≤ 8) : Nx (mFor (mgN 9) (mRng1 (mCons (mV (mVar 4)) mNil)) lNm1 [some (.val (.int x)), some (.val (.int y)), some (.val (.int m)), some (.val (.str S36)), some (.val (.int (s : Int))), some (.val (.int a)), some (.own (.list N)), some (.val (.int (k : Int))), some (.val (.str "")), o9]) fun δ => ∃ o9, δ = [some (.val (.int x)), some (.val (.int y)), some (.val (.int m)), some (.val (.str S36)), some (.val (.int (s : Int))), some (.val (.int a)), some (.own (.list N)), some (.val (.int (k : Int))), some (.val (.str (nameS ((List.range s).map (nmIx x a k))))), o9] := by
  refine for_rng s (fun i δ => ∃ o9, δ = [some (.val (.int x)), some (.val (.int y)), some (.val (.int m)), some (.val (.str S36)), some (.val (.int (s : Int))), some (.val (.int a)), some (.own (.list N)), some (.val (.int (k : Int))), some (.val (.str (nameS ((List.range i).map (nmIx x a k))))), o9]) ?_ ?_ ?_
  · simp [rng1_simp (show s ≤ 1000000 by omega)]
  · rintro i hi δ ⟨o9, rfl⟩
    refine ⟨_, rfl, ?_⟩
    have a1 : 0 < (i : Int) + 1 := by omega
    have a2 : (i : Int) + 1 < 18446744073709551616 := by omega
    have a3 : -18446744073709551616 < (i : Int) := by omega
    have a4 : (i : Int) < 18446744073709551616 := by omega
    have b1 : -18446744073709551616 < (k : Int) + 1 := by omega
    have b2 : (k : Int) + 1 < 18446744073709551616 := by omega
    obtain ⟨e1, e2⟩ := nmIx_lt x a k i
    have es := sgn_at e2
    have hl : (nameS ((List.range i).map (nmIx x a k))).length + (sgn (nmIx x a k i)).length ≤ 10000 := by rw [nameS_len, sgn_len]; simp; omega
    have er : nameS ((List.range (i + 1)).map (nmIx x a k)) = nameS ((List.range i).map (nmIx x a k)) ++ sgn (nmIx x a k i) := by rw [nameS_snoc, List.range_succ, List.map_append]; rfl
    rw [er]
    generalize nameS ((List.range i).map (nmIx x a k)) = S at *
    generalize sgn (nmIx x a k i) = t at *
    refine ⟨_, ?_, some (.val (.int (i : Int))), rfl⟩
    unfold lNm1
    simp [a1, a2, a3, a4, b1, b2, e1, es, hl]
  · exact ⟨_, by rw [show (List.range 0).map (nmIx x a k) = [] from rfl, nameS_nil]⟩
theorem names_ok (x y : Int) (m : Nat) (hm : m ≤ 8) : mDef 10 3 bNm [.val (.int x), .val (.int y), .val (.int (m : Int))] = .ok (.own (.list (((List.range m).map (nmOf x y)).map PyData.str))) := by
  obtain ⟨s, hs, hs2⟩ : ∃ s : Nat, 1 + x % 8 = (s : Int) ∧ s ≤ 8 ∧ 1 ≤ s := ⟨(1 + x % 8).toNat, by omega, by omega, by omega⟩
  have e0 : mDef 10 3 bNm [.val (.int x), .val (.int y), .val (.int (m : Int))] = (bNm [some (.val (.int x)), some (.val (.int y)), some (.val (.int (m : Int))), none, none, none, none, none, none, none]).res := rfl
  rw [e0]
  have hp : (0 : Int) < (s : Int) := by omega
  have hnm : ∀ k, nmOf x y k = nameS ((List.range s).map (nmIx x (y % (s : Int)) k)) := fun k => by
    unfold nmOf
    rw [hs, Int.toNat_natCast]
  have A := for_rng (g := mgN 7) (it := mRng1 (mCons (mV (mVar 2)) mNil)) (b := lNm2) m (fun i δ => ∃ o7 o8 o9, δ = [some (.val (.int x)), some (.val (.int y)), some (.val (.int (m : Int))), some (.val (.str S36)), some (.val (.int (s : Int))), some (.val (.int (y % (s : Int)))), some (.own (.list (((List.range i).map (nmOf x y)).map PyData.str))), o7, o8, o9]) (δ := [some (.val (.int x)), some (.val (.int y)), some (.val (.int (m : Int))), some (.val (.str S36)), some (.val (.int (s : Int))), some (.val (.int (y % (s : Int)))), some (.own (.list [])), none, none, none]) (by simp [rng1_simp (show m ≤ 1000000 by omega)]) (by
    rintro i hi δ ⟨o7, o8, o9, rfl⟩
    refine ⟨_, rfl, ?_⟩
    have hN : (((List.range i).map (nmOf x y)).map PyData.str).length < sizeLine := Nat.lt_of_le_of_lt (m := 100) (by simp; omega) (by decide)
    have er : ((List.range (i + 1)).map (nmOf x y)).map PyData.str = ((List.range i).map (nmOf x y)).map PyData.str ++ [.str (nmOf x y i)] := by
      rw [List.range_succ, List.map_append, List.map_append]; rfl
    rw [er, hnm i]
    generalize ((List.range i).map (nmOf x y)).map PyData.str = N at *
    unfold lNm2
    refine Nx.seq (P := fun δ => δ = [some (.val (.int x)), some (.val (.int y)), some (.val (.int (m : Int))), some (.val (.str S36)), some (.val (.int (s : Int))), some (.val (.int (y % (s : Int)))), some (.own (.list N)), some (.val (.int (i : Int))), some (.val (.str "")), o9]) ⟨_, rfl, by simp⟩ ?_
    rintro δ rfl
    refine Nx.seq (lNm1_run (z := 0) (by omega) (by omega) (by omega)) ?_
    rintro δ ⟨o9', rfl⟩
    exact ⟨[some (.val (.int x)), some (.val (.int y)), some (.val (.int (m : Int))), some (.val (.str S36)), some (.val (.int (s : Int))), some (.val (.int (y % (s : Int)))), some (.own (.list (N ++ [.str (nameS ((List.range s).map (nmIx x (y % (s : Int)) i)))]))), some (.val (.int (i : Int))), some (.val (.str (nameS ((List.range s).map (nmIx x (y % (s : Int)) i))))), o9'], by simp [hN], _, _, _, rfl⟩) ⟨_, _, _, rfl⟩
  obtain ⟨δ1, e1, o7, o8, o9, rfl⟩ := A
  unfold bNm
  rw [seq_nx (δ' := [some (.val (.int x)), some (.val (.int y)), some (.val (.int (m : Int))), some (.val (.str S36)), none, none, none, none, none, none]) (by rfl),
    seq_nx (δ' := [some (.val (.int x)), some (.val (.int y)), some (.val (.int (m : Int))), some (.val (.str S36)), some (.val (.int (s : Int))), none, none, none, none, none]) (by simp [hs]),
    seq_nx (δ' := [some (.val (.int x)), some (.val (.int y)), some (.val (.int (m : Int))), some (.val (.str S36)), some (.val (.int (s : Int))), some (.val (.int (y % (s : Int)))), none, none, none, none]) (by simp [modF_lit hp]),
    seq_nx (δ' := [some (.val (.int x)), some (.val (.int y)), some (.val (.int (m : Int))), some (.val (.str S36)), some (.val (.int (s : Int))), some (.val (.int (y % (s : Int)))), some (.own (.list [])), none, none, none]) (by simp),
    seq_nx e1]
  simp
end Pg
/-! DS7: helpers for laws about plans -/
namespace Pg
open PySem L2 DL TL
theorem can_strs {ys : List Str} (h : ∀ y ∈ ys, PyData.strOk y = true) : PyData.canLayAll0 (ys.map PyData.str) = true ∧ PyData.depthAll (ys.map PyData.str) = 0 := by
  induction ys with
  | nil => simp [PyData.canLayAll0, PyData.depthAll]
  | cons y ys ih =>
    obtain ⟨a, b⟩ := ih fun z hz => h z (List.mem_cons_of_mem _ hz)
    simp [PyData.canLayAll0, PyData.depthAll, PyData.canLay0, PyData.depth, a, b, h y List.mem_cons_self]
theorem shaped_strs {ys : List Str} (h : ∀ y ∈ ys, PyData.strOk y = true) : SeqAt.shaped (.list (ys.map PyData.str)) = true := by
  obtain ⟨a, b⟩ := can_strs h
  simp [SeqAt.shaped, PyData.canLay0, PyData.depth, a, b]
theorem inF_strs {n : Bool} {x : Str} {ys : List Str} (hx : PyData.strOk x = true) (h : ∀ y ∈ ys, PyData.strOk y = true) : inF n (.str x) (.list (ys.map PyData.str)) = .ok (.val (.bool (n != decide (x ∈ ys)))) := by
  show (if _ then _ else _) = _
  rw [if_pos ⟨shaped_str hx, shaped_strs h⟩, okB_eq, List.any_map]
  congr 4
  rw [Bool.eq_iff_iff, List.any_eq_true, decide_eq_true_iff]
  constructor
  · rintro ⟨y, hy, e⟩
    have e' : (y == x) = true := e
    rw [beq_iff_eq] at e'
    exact e' ▸ hy
  · intro hx
    exact ⟨x, hx, beq_self_eq_true x⟩
theorem compR_filter {α : Type} {g : MG} {c : MT} {m : MD} {δ : DEnv} {f h : α → PyData} {p : α → Bool} : ∀ {xs : List α}, (∀ x ∈ xs, ∃ δ1, g (f x) δ = some δ1 ∧ c δ1 = .ok (p x) ∧ (p x = true → m δ1 = .ok (h x))) → compR g c m δ (xs.map f) = .ok ((xs.filter p).map h)
  | [], _ => rfl
  | x :: xs, H => by
    obtain ⟨δ1, e1, e2, e3⟩ := H x List.mem_cons_self
    have ih := compR_filter (xs := xs) fun y hy => H y (List.mem_cons_of_mem _ hy)
    rw [List.map_cons, compR, e1]
    cases hp : p x
    · rw [hp] at e2
      simp only [e2, ih, List.filter_cons, hp]
      rfl
    · rw [hp] at e2
      simp only [e2, e3 hp, ih, List.filter_cons, hp]
      rfl
theorem nmsOf_len (s : Int) (ps : List Pc) : (nmsOf s ps).length ≤ ps.length := by
  unfold nmsOf
  rw [List.length_map]
  exact Nat.le_trans (List.length_filter_le _ _) (List.length_filterMap_le _ _)
theorem ddF_len {α : Type} [DecidableEq α] : ∀ (xs acc : List α), (ddF acc xs).length ≤ acc.length + xs.length
  | [], acc => by simp [ddF]
  | x :: xs, acc => by
    rw [ddF_cons]
    have := ddF_len xs (if x ∈ acc then acc else acc ++ [x])
    by_cases h : x ∈ acc
    · rw [if_pos h] at this ⊢; simp only [List.length_cons]; omega
    · rw [if_neg h] at this ⊢; simp only [List.length_append, List.length_cons, List.length_nil] at this ⊢; omega
/-! dicts of plans compared -/
theorem shaped_qsD (qs : List Rat) : SeqAt.shaped (qsD qs) = true := by
  have := shaped_qs qs
  simpa [SeqAt.shaped, PyData.canLay0, PyData.depth, qsD] using this
theorem can_plan (P : Plan) : dictCan (planE P) = true := by
  unfold dictCan planE encL
  rw [List.all_map, List.all_eq_true]
  intro x _
  simp only [Function.comp_apply, Bool.and_eq_true]
  exact ⟨rfl, shaped_qsD x.2⟩
theorem eqv_self {d : PyData} (h : SeqAt.shaped d = true) : PyData.eqv d d = true := SeqAt.eqv_refl d (by simp only [SeqAt.shaped, Bool.and_eq_true] at h; exact h.1)
/-- two plans that tell alike -/
def Alike (P R : Plan) : Prop := P.length = R.length ∧ ∀ x ∈ P, x.1 ∈ pkeys R ∧ look R x.1 = x.2
theorem alike_eq {P R : Plan} (h : Alike P R) : dictEqB (planE P) (planE R) = true := by
  unfold dictEqB
  rw [Bool.and_eq_true]
  refine ⟨by simp [planE, encL_len, h.1], ?_⟩
  rw [List.all_eq_true]
  intro p hp
  obtain ⟨x, hx, rfl⟩ := List.mem_map.mp hp
  obtain ⟨h1, h2⟩ := h.2 x hx
  show (match dget (planE R) (nmD x.1) with | some e => PyData.eqv (qsD x.2) e | none => false) = true
  rw [dget_key h1, h2]
  exact eqv_self (shaped_qsD x.2)
theorem alike_ne {P R : Plan} (h : Alike P R) : cmpD true (.dict (planE P)) (.dict (planE R)) = .ok (.val (.bool false)) := by
  rw [cmpD_of (can_plan P) (can_plan R), alike_eq h]
  rfl
/-- a plan by names and what stands at them -/
def mkP (nms : List Str) (q : Str → List Rat) : Plan := nms.map fun nm => (nm, q nm)
theorem pkeys_mk (nms : List Str) (q : Str → List Rat) : pkeys (mkP nms q) = nms := by simp [pkeys, mkP, Function.comp_def]
theorem look_mk {nms : List Str} {q : Str → List Rat} {nm : Str} (h : nm ∈ nms) : look (mkP nms q) nm = q nm := by
  unfold look mkP
  rw [List.find?_map, Option.map_map]
  have : (nms.find? ((fun x : Str × List Rat => decide (x.1 = nm)) ∘ fun nm => (nm, q nm))) = some nm := by
    have hs : (nms.find? ((fun x : Str × List Rat => decide (x.1 = nm)) ∘ fun nm => (nm, q nm))).isSome = true := List.find?_isSome.mpr ⟨nm, h, by simp⟩
    obtain ⟨y, hy⟩ := Option.isSome_iff_exists.mp hs
    have hp := List.find?_some hy
    have : y = nm := by simpa using hp
    rw [hy, this]
  rw [this]
  rfl
theorem alike_mk {ns ms : List Str} {q : Str → List Rat} (hl : ns.length = ms.length) (h : ∀ x ∈ ns, x ∈ ms) : Alike (mkP ns q) (mkP ms q) := by
  refine ⟨by simp [mkP, hl], fun x hx => ?_⟩
  obtain ⟨nm, hn, rfl⟩ := List.mem_map.mp hx
  exact ⟨by rw [pkeys_mk]; exact h nm hn, look_mk (h nm hn)⟩
theorem planOk_mk {ns : List Str} {q : Str → List Rat} {T : List Row} (hl : ns.length = T.length) (h : ∀ r ∈ T, r.2.1 ∈ ns ∧ Shares (q r.2.1) r.2.2.1.length) : PlanOk (mkP ns q) T := by
  refine ⟨by simp [mkP, hl], fun r hr => ?_⟩
  obtain ⟨h1, h2⟩ := h r hr
  exact ⟨by rw [pkeys_mk]; exact h1, by rw [look_mk h1]; exact h2⟩
theorem planText_mk {ns ms : List Str} {q : Str → List Rat} (h : ∀ x ∈ ms, x ∈ ns) : planText (mkP ns q) ms = PT (mkP ms q) := by
  unfold planText PT mkP
  rw [List.map_map]
  congr 1
  exact List.map_congr_left fun x hx => by
    simp only [Function.comp_apply]
    rw [← look_mk (q := q) (h x hx)]
    rfl
theorem planE_snoc (P : Plan) (x : Str × List Rat) : planE (P ++ [x]) = planE P ++ [(nmD x.1, qsD x.2)] := by simp [planE, encL]
end Pg
namespace Gk70
open PySem L2 DL
/-! ### the text by places -/
def top (i : Nat) : Stmt := PySem.Challenge.pw_hushduel_k70_plans_as_text.main.body.getD i (.Pass ⟨0, 0, 0, 0⟩)
abbrev s_is_whole : Stmt := top 9
abbrev N_is_whole : List Str := ["thing"]
abbrev P_is_whole : List Str := ["thing"]
theorem sc_is_whole : FnScope N_is_whole P_is_whole (defScope s_is_whole) := ⟨rfl, rfl, rfl, by decide +kernel, rfl, by decide +kernel, by decide +kernel⟩
abbrev s_divisor : Stmt := top 10
abbrev N_divisor : List Str := ["first", "second", "rest"]
abbrev P_divisor : List Str := ["first", "second"]
theorem sc_divisor : FnScope N_divisor P_divisor (defScope s_divisor) := ⟨rfl, rfl, rfl, by decide +kernel, rfl, by decide +kernel, by decide +kernel⟩
abbrev s_is_ratio : Stmt := top 11
abbrev N_is_ratio : List Str := ["thing"]
abbrev P_is_ratio : List Str := ["thing"]
theorem sc_is_ratio : FnScope N_is_ratio P_is_ratio (defScope s_is_ratio) := ⟨rfl, rfl, rfl, by decide +kernel, rfl, by decide +kernel, by decide +kernel⟩
abbrev s_ratio : Stmt := top 12
abbrev N_ratio : List Str := ["top", "bottom", "by"]
abbrev P_ratio : List Str := ["top", "bottom"]
theorem sc_ratio : FnScope N_ratio P_ratio (defScope s_ratio) := ⟨rfl, rfl, rfl, by decide +kernel, rfl, by decide +kernel, by decide +kernel⟩
abbrev s_plus : Stmt := top 13
abbrev N_plus : List Str := ["first", "second"]
abbrev P_plus : List Str := ["first", "second"]
theorem sc_plus : FnScope N_plus P_plus (defScope s_plus) := ⟨rfl, rfl, rfl, by decide +kernel, rfl, by decide +kernel, by decide +kernel⟩
abbrev s_times : Stmt := top 14
abbrev N_times : List Str := ["first", "second"]
abbrev P_times : List Str := ["first", "second"]
theorem sc_times : FnScope N_times P_times (defScope s_times) := ⟨rfl, rfl, rfl, by decide +kernel, rfl, by decide +kernel, by decide +kernel⟩
abbrev s_under : Stmt := top 15
abbrev N_under : List Str := ["first", "second"]
abbrev P_under : List Str := ["first", "second"]
theorem sc_under : FnScope N_under P_under (defScope s_under) := ⟨rfl, rfl, rfl, by decide +kernel, rfl, by decide +kernel, by decide +kernel⟩
abbrev s_total : Stmt := top 16
abbrev N_total : List Str := ["some", "found", "one"]
abbrev P_total : List Str := ["some"]
theorem sc_total : FnScope N_total P_total (defScope s_total) := ⟨rfl, rfl, rfl, by decide +kernel, rfl, by decide +kernel, by decide +kernel⟩
abbrev s_show_ratio : Stmt := top 17
abbrev N_show_ratio : List Str := ["first"]
abbrev P_show_ratio : List Str := ["first"]
theorem sc_show_ratio : FnScope N_show_ratio P_show_ratio (defScope s_show_ratio) := ⟨rfl, rfl, rfl, by decide +kernel, rfl, by decide +kernel, by decide +kernel⟩
abbrev s_number_of : Stmt := top 18
abbrev N_number_of : List Str := ["figures", "sign"]
abbrev P_number_of : List Str := ["figures"]
theorem sc_number_of : FnScope N_number_of P_number_of (defScope s_number_of) := ⟨rfl, rfl, rfl, by decide +kernel, rfl, by decide +kernel, by decide +kernel⟩
abbrev s_read_ratio : Stmt := top 19
abbrev N_read_ratio : List Str := ["text", "body", "parts", "numbers", "found", "part"]
abbrev P_read_ratio : List Str := ["text"]
theorem sc_read_ratio : FnScope N_read_ratio P_read_ratio (defScope s_read_ratio) := ⟨rfl, rfl, rfl, by decide +kernel, rfl, by decide +kernel, by decide +kernel⟩
abbrev s_is_name : Stmt := top 23
abbrev N_is_name : List Str := ["thing", "sign"]
abbrev P_is_name : List Str := ["thing"]
theorem sc_is_name : FnScope N_is_name P_is_name (defScope s_is_name) := ⟨rfl, rfl, rfl, by decide +kernel, rfl, by decide +kernel, by decide +kernel⟩
abbrev s_words_of : Stmt := top 27
abbrev N_words_of : List Str := ["place", "word", "part"]
abbrev P_words_of : List Str := ["place"]
theorem sc_words_of : FnScope N_words_of P_words_of (defScope s_words_of) := ⟨rfl, rfl, rfl, by decide +kernel, rfl, by decide +kernel, by decide +kernel⟩
abbrev s_behind : Stmt := top 28
abbrev N_behind : List Str := ["records", "place", "word", "pair"]
abbrev P_behind : List Str := ["records", "place", "word"]
theorem sc_behind : FnScope N_behind P_behind (defScope s_behind) := ⟨rfl, rfl, rfl, by decide +kernel, rfl, by decide +kernel, by decide +kernel⟩
abbrev s_branches : Stmt := top 29
abbrev N_branches : List Str := ["place", "records", "share", "part", "word"]
abbrev P_branches : List Str := ["place", "records"]
theorem sc_branches : FnScope N_branches P_branches (defScope s_branches) := ⟨rfl, rfl, rfl, by decide +kernel, rfl, by decide +kernel, by decide +kernel⟩
abbrev s_seen_places : Stmt := top 30
abbrev N_seen_places : List Str := ["game", "bounded", "found", "waiting", "way", "place", "records", "parts", "k"]
abbrev P_seen_places : List Str := ["game", "bounded"]
theorem sc_seen_places : FnScope N_seen_places P_seen_places (defScope s_seen_places) := ⟨rfl, rfl, rfl, by decide +kernel, rfl, by decide +kernel, by decide +kernel⟩
abbrev s_first_places : Stmt := top 31
abbrev N_first_places : List Str := ["places", "firsts", "way", "place", "records"]
abbrev P_first_places : List Str := ["places"]
theorem sc_first_places : FnScope N_first_places P_first_places (defScope s_first_places) := ⟨rfl, rfl, rfl, by decide +kernel, rfl, by decide +kernel, by decide +kernel⟩
abbrev s_rows_by : Stmt := top 32
abbrev N_rows_by : List Str := ["places", "rows", "key", "first"]
abbrev P_rows_by : List Str := ["places"]
theorem sc_rows_by : FnScope N_rows_by P_rows_by (defScope s_rows_by) := ⟨rfl, rfl, rfl, by decide +kernel, rfl, by decide +kernel, by decide +kernel⟩
abbrev s_table_of : Stmt := top 33
abbrev N_table_of : List Str := ["game"]
abbrev P_table_of : List Str := ["game"]
theorem sc_table_of : FnScope N_table_of P_table_of (defScope s_table_of) := ⟨rfl, rfl, rfl, by decide +kernel, rfl, by decide +kernel, by decide +kernel⟩
abbrev s_rows_of : Stmt := top 35
abbrev N_rows_of : List Str := ["game", "side", "row"]
abbrev P_rows_of : List Str := ["game", "side"]
theorem sc_rows_of : FnScope N_rows_of P_rows_of (defScope s_rows_of) := ⟨rfl, rfl, rfl, by decide +kernel, rfl, by decide +kernel, by decide +kernel⟩
abbrev s_are_shares : Stmt := top 36
abbrev N_are_shares : List Str := ["thing", "many", "share"]
abbrev P_are_shares : List Str := ["thing", "many"]
theorem sc_are_shares : FnScope N_are_shares P_are_shares (defScope s_are_shares) := ⟨rfl, rfl, rfl, by decide +kernel, rfl, by decide +kernel, by decide +kernel⟩
abbrev s_is_plan : Stmt := top 37
abbrev N_is_plan : List Str := ["game", "side", "thing", "rows", "row"]
abbrev P_is_plan : List Str := ["game", "side", "thing"]
theorem sc_is_plan : FnScope N_is_plan P_is_plan (defScope s_is_plan) := ⟨rfl, rfl, rfl, by decide +kernel, rfl, by decide +kernel, by decide +kernel⟩
abbrev s_ask_plan : Stmt := top 38
abbrev N_ask_plan : List Str := ["game", "side", "thing"]
abbrev P_ask_plan : List Str := ["game", "side", "thing"]
theorem sc_ask_plan : FnScope N_ask_plan P_ask_plan (defScope s_ask_plan) := ⟨rfl, rfl, rfl, by decide +kernel, rfl, by decide +kernel, by decide +kernel⟩
abbrev s_show_plan : Stmt := top 40
abbrev N_show_plan : List Str := ["game", "side", "plan", "rows", "who", "seen", "words", "record", "share"]
abbrev P_show_plan : List Str := ["game", "side", "plan"]
theorem sc_show_plan : FnScope N_show_plan P_show_plan (defScope s_show_plan) := ⟨rfl, rfl, rfl, by decide +kernel, rfl, by decide +kernel, by decide +kernel⟩
abbrev s_read_plan : Stmt := top 41
abbrev N_read_plan : List Str := ["game", "side", "text", "found", "row", "words", "word"]
abbrev P_read_plan : List Str := ["game", "side", "text"]
theorem sc_read_plan : FnScope N_read_plan P_read_plan (defScope s_read_plan) := ⟨rfl, rfl, rfl, by decide +kernel, rfl, by decide +kernel, by decide +kernel⟩
abbrev s_folded_deal : Stmt := top 43
abbrev N_folded_deal : List Str := ["name", "ways", "shares", "share", "part"]
abbrev P_folded_deal : List Str := ["name", "ways"]
theorem sc_folded_deal : FnScope N_folded_deal P_folded_deal (defScope s_folded_deal) := ⟨rfl, rfl, rfl, by decide +kernel, rfl, by decide +kernel, by decide +kernel⟩
abbrev s_folded : Stmt := top 44
abbrev N_folded : List Str := ["game", "ways", "share", "part", "inner", "more", "piece", "word"]
abbrev P_folded : List Str := ["game"]
theorem sc_folded : FnScope N_folded P_folded (defScope s_folded) := ⟨rfl, rfl, rfl, by decide +kernel, rfl, by decide +kernel, by decide +kernel⟩
abbrev s__law_cell_at : Stmt := top 46
abbrev N__law_cell_at : List Str := ["_law_script", "_law_k"]
abbrev P__law_cell_at : List Str := ["_law_script", "_law_k"]
theorem sc__law_cell_at : FnScope N__law_cell_at P__law_cell_at (defScope s__law_cell_at) := ⟨rfl, rfl, rfl, by decide +kernel, rfl, by decide +kernel, by decide +kernel⟩
abbrev s__law_numbers : Stmt := top 47
abbrev N__law_numbers : List Str := ["_law_script", "_law_k"]
abbrev P__law_numbers : List Str := ["_law_script"]
theorem sc__law_numbers : FnScope N__law_numbers P__law_numbers (defScope s__law_numbers) := ⟨rfl, rfl, rfl, by decide +kernel, rfl, by decide +kernel, by decide +kernel⟩
abbrev s__law_names : Stmt := top 48
abbrev N__law_names : List Str := ["_law_x", "_law_y", "_law_many", "_law_signs", "_law_size", "_law_at", "_law_names_here", "_law_k", "_law_name", "_law_j"]
abbrev P__law_names : List Str := ["_law_x", "_law_y", "_law_many"]
theorem sc__law_names : FnScope N__law_names P__law_names (defScope s__law_names) := ⟨rfl, rfl, rfl, by decide +kernel, rfl, by decide +kernel, by decide +kernel⟩
abbrev s__law_game : Stmt := top 49
abbrev N__law_game : List Str := ["_law_xs", "_law_first", "_law_ones", "_law_others", "_law_words", "_law_share", "_law_ways", "_law_k", "_law_parts", "_law_j", "_law_stakes", "_law_seen_here", "_law_part", "_law_i"]
abbrev P__law_game : List Str := ["_law_xs"]
theorem sc__law_game : FnScope N__law_game P__law_game (defScope s__law_game) := ⟨rfl, rfl, rfl, by decide +kernel, rfl, by decide +kernel, by decide +kernel⟩
abbrev s__law_seen : Stmt := top 50
abbrev N__law_seen : List Str := ["_law_game_here", "_law_side", "_law_found", "_law_label", "_law_part", "_law_name"]
abbrev P__law_seen : List Str := ["_law_game_here", "_law_side"]
theorem sc__law_seen : FnScope N__law_seen P__law_seen (defScope s__law_seen) := ⟨rfl, rfl, rfl, by decide +kernel, rfl, by decide +kernel, by decide +kernel⟩
abbrev s__law_divisor : Stmt := top 51
abbrev N__law_divisor : List Str := ["_law_one", "_law_other", "_law_rest"]
abbrev P__law_divisor : List Str := ["_law_one", "_law_other"]
theorem sc__law_divisor : FnScope N__law_divisor P__law_divisor (defScope s__law_divisor) := ⟨rfl, rfl, rfl, by decide +kernel, rfl, by decide +kernel, by decide +kernel⟩
abbrev s__law_shares : Stmt := top 52
abbrev N__law_shares : List Str := ["_law_x", "_law_low", "_law_top", "_law_by"]
abbrev P__law_shares : List Str := ["_law_x"]
theorem sc__law_shares : FnScope N__law_shares P__law_shares (defScope s__law_shares) := ⟨rfl, rfl, rfl, by decide +kernel, rfl, by decide +kernel, by decide +kernel⟩
abbrev s__law_fraction_text : Stmt := top 53
abbrev N__law_fraction_text : List Str := ["_law_one"]
abbrev P__law_fraction_text : List Str := ["_law_one"]
theorem sc__law_fraction_text : FnScope N__law_fraction_text P__law_fraction_text (defScope s__law_fraction_text) := ⟨rfl, rfl, rfl, by decide +kernel, rfl, by decide +kernel, by decide +kernel⟩
abbrev s__law_text : Stmt := top 54
abbrev N__law_text : List Str := ["_law_names_here", "_law_plan", "_law_rows", "_law_name", "_law_share"]
abbrev P__law_text : List Str := ["_law_names_here", "_law_plan"]
theorem sc__law_text : FnScope N__law_text P__law_text (defScope s__law_text) := ⟨rfl, rfl, rfl, by decide +kernel, rfl, by decide +kernel, by decide +kernel⟩
abbrev s__law_alike : Stmt := top 55
abbrev N__law_alike : List Str := ["_law_found", "_law_plan", "_law_name", "_law_share"]
abbrev P__law_alike : List Str := ["_law_found", "_law_plan"]
theorem sc__law_alike : FnScope N__law_alike P__law_alike (defScope s__law_alike) := ⟨rfl, rfl, rfl, by decide +kernel, rfl, by decide +kernel, by decide +kernel⟩
abbrev s__law_told : Stmt := top 56
abbrev N__law_told : List Str := ["_law_game_here", "_law_side", "_law_x", "_law_names_here", "_law_plan", "_law_k", "_law_handed", "_law_name", "_law_text_here", "_law_other", "_law_line", "_law_found"]
abbrev P__law_told : List Str := ["_law_game_here", "_law_side", "_law_x"]
theorem sc__law_told : FnScope N__law_told P__law_told (defScope s__law_told) := ⟨rfl, rfl, rfl, by decide +kernel, rfl, by decide +kernel, by decide +kernel⟩
abbrev s__law_cards : Stmt := top 57
abbrev N__law_cards : List Str := ["_law_inner", "_law_move", "_law_game_here"]
abbrev P__law_cards : List Str := []
theorem sc__law_cards : FnScope N__law_cards P__law_cards (defScope s__law_cards) := ⟨rfl, rfl, rfl, by decide +kernel, rfl, by decide +kernel, by decide +kernel⟩
abbrev s_law : Stmt := top 58
abbrev N_law : List Str := ["_law_script", "_law_xs", "_law_game_here", "_law_side", "_law_part", "_law_found"]
abbrev P_law : List Str := ["_law_script"]
theorem sc_law : FnScope N_law P_law (defScope s_law) := ⟨rfl, rfl, rfl, by decide +kernel, rfl, by decide +kernel, by decide +kernel⟩
/-! ### what each def does -/
abbrev caught : List EC := []
noncomputable def b__law_cell_at : MS := (mSeq (mIf (mTest (mB ltF (mR (mVar 1)) (mR (mBi lenF (mCons (mR (mVar 0)) mNil))))) (mRet (mB ixF (mR (mVar 0)) (mR (mVar 1)))) mNext) (mRet (mC (.int 0))))
noncomputable def d__law_cell_at : F := mDef 2 2 b__law_cell_at
noncomputable def b__law_numbers : MS := (mRet (mComp [1] (mgN 1) (mRng1 (mCons (mV (mC (.int 40))) mNil)) mYes (mV (mB modF (mR (mB mulF (mR (mB addF (mR (mB addF (mR (mB addF (mR (mB modF (mR (mCall d__law_cell_at (mACons (mVar 0) (mACons (mVar 1) mANil)))) (mR (mC (.int 1000000007))))) (mR (mB mulF (mR (mB mulF (mR (mC (.int 53))) (mR (mVar 1)))) (mR (mVar 1)))))) (mR (mB mulF (mR (mC (.int 23))) (mR (mVar 1)))))) (mR (mC (.int 6))))) (mR (mC (.int 45991))))) (mR (mC (.int 1000003)))))))
noncomputable def d__law_numbers : F := mDef 2 1 b__law_numbers
noncomputable def L__law_names_1 : MS := (mAsg 8 (mB addF (mR (mVar 8)) (mR (mB ixF (mR (mVar 3)) (mR (mB modF (mR (mB addF (mR (mB addF (mR (mB divF (mR (mVar 0)) (mR (mB addF (mR (mVar 9)) (mR (mC (.int 1))))))) (mR (mB mulF (mR (mVar 9)) (mR (mVar 9)))))) (mR (mB mulF (mR (mB addF (mR (mVar 7)) (mR (mC (.int 1))))) (mR (mBi intSF (mCons (mR (mB eqF (mR (mVar 9)) (mR (mVar 5)))) mNil))))))) (mR (mC (.int 36)))))))))
noncomputable def L__law_names_2 : MS := (mSeq (mAsg 8 (mC (.str ""))) (mSeq (mFor (mgN 9) (mRng1 (mCons (mV (mVar 4)) mNil)) L__law_names_1) (mApp 6 (mV (mVar 8)))))
noncomputable def b__law_names : MS := (mSeq (mAsg 3 (mC (.str "abcdefghijklmnopqrstuvwxyz0123456789"))) (mSeq (mAsg 4 (mB addF (mR (mC (.int 1))) (mR (mB modF (mR (mVar 0)) (mR (mC (.int 8))))))) (mSeq (mAsg 5 (mB modF (mR (mVar 1)) (mR (mVar 4)))) (mSeq (mAsg 6 (mLst mNil)) (mSeq (mFor (mgN 7) (mRng1 (mCons (mV (mVar 2)) mNil)) L__law_names_2) (mRetN 6))))))
noncomputable def d__law_names : F := mDef 10 3 b__law_names
noncomputable def L__law_game_1 : MS := (mSeq (mAsg 10 (mComp [13] (mgN 13) (mRng1 (mCons (mV (mC (.int 2))) mNil)) mYes (mV (mTup (mCons (mV (mB subF (mR (mB modF (mR (mB ixF (mR (mVar 0)) (mR (mB addF (mR (mB addF (mR (mB addF (mR (mC (.int 8))) (mR (mB mulF (mR (mC (.int 4))) (mR (mVar 7)))))) (mR (mB mulF (mR (mC (.int 2))) (mR (mVar 9)))))) (mR (mVar 13)))))) (mR (mC (.int 15))))) (mR (mC (.int 7))))) (mCons (mV (mC (.int 1))) mNil)))))) (mSeq (mAsg 11 (mB ixF (mR (mVar 3)) (mR (mB ixF (mR (mLst (mCons (mV (mC (.int 0))) (mCons (mV (mVar 9)) (mCons (mV (mVar 7)) mNil))))) (mR (mB modF (mR (mB ixF (mR (mVar 0)) (mR (mC (.int 16))))) (mR (mC (.int 3))))))))) (mSeq (mAsg 12 (mTup (mCons (mV (mC (.str "move"))) (mCons (mV (mB subF (mR (mC (.int 3))) (mR (mVar 1)))) (mCons (mV (mVar 11)) (mCons (mV (mTup (mCons (mV (mTup (mCons (mV (mB ixF (mR (mVar 4)) (mR (mC (.int 2))))) (mCons (mV (mTup (mCons (mV (mC (.str "end"))) (mCons (mV (mB ixF (mR (mVar 10)) (mR (mC (.int 0))))) mNil)))) mNil)))) (mCons (mV (mTup (mCons (mV (mB ixF (mR (mVar 4)) (mR (mC (.int 3))))) (mCons (mV (mTup (mCons (mV (mC (.str "end"))) (mCons (mV (mB ixF (mR (mVar 10)) (mR (mC (.int 1))))) mNil)))) mNil)))) mNil)))) mNil)))))) (mSeq (mIf (mAnd (mTest (mB eqF (mR (mVar 9)) (mR (mC (.int 1))))) (mTest (mB eqF (mR (mB modF (mR (mB ixF (mR (mVar 0)) (mR (mC (.int 17))))) (mR (mC (.int 2))))) (mR (mC (.int 1)))))) (mAsg 12 (mTup (mCons (mV (mC (.str "end"))) (mCons (mV (mB ixF (mR (mVar 10)) (mR (mC (.int 0))))) mNil)))) mNext) (mApp 8 (mV (mTup (mCons (mV (mB ixF (mR (mVar 4)) (mR (mVar 9)))) (mCons (mV (mVar 12)) mNil)))))))))
noncomputable def L__law_game_2 : MS := (mSeq (mAsg 8 (mLst mNil)) (mSeq (mFor (mgN 9) (mRng1 (mCons (mV (mC (.int 2))) mNil)) L__law_game_1) (mApp 6 (mV (mTup (mCons (mV (mTup (mCons (mV (mB ixF (mR (mLst (mCons (mV (mVar 5)) (mCons (mV (mB subF (mR (mC (.int 5))) (mR (mVar 5)))) mNil)))) (mR (mVar 7)))) (mCons (mV (mC (.int 5))) mNil)))) (mCons (mV (mTup (mCons (mV (mC (.str "move"))) (mCons (mV (mVar 1)) (mCons (mV (mB ixF (mR (mVar 2)) (mR (mB mulF (mR (mVar 7)) (mR (mB modF (mR (mB ixF (mR (mVar 0)) (mR (mC (.int 18))))) (mR (mC (.int 2))))))))) (mCons (mV (mBi tupleF (mCons (mR (mVar 8)) mNil))) mNil)))))) mNil)))))))
noncomputable def b__law_game : MS := (mSeq (mAsg 1 (mB addF (mR (mC (.int 1))) (mR (mB modF (mR (mB ixF (mR (mVar 0)) (mR (mC (.int 0))))) (mR (mC (.int 2))))))) (mSeq (mAsg 2 (mCall d__law_names (mACons (mB ixF (mR (mVar 0)) (mR (mC (.int 1)))) (mACons (mB ixF (mR (mVar 0)) (mR (mC (.int 2)))) (mACons (mC (.int 2)) mANil))))) (mSeq (mAsg 3 (mCall d__law_names (mACons (mB ixF (mR (mVar 0)) (mR (mC (.int 3)))) (mACons (mB ixF (mR (mVar 0)) (mR (mC (.int 4)))) (mACons (mC (.int 2)) mANil))))) (mSeq (mAsg 4 (mCall d__law_names (mACons (mB ixF (mR (mVar 0)) (mR (mC (.int 5)))) (mACons (mB ixF (mR (mVar 0)) (mR (mC (.int 6)))) (mACons (mC (.int 4)) mANil))))) (mSeq (mAsg 5 (mB addF (mR (mC (.int 1))) (mR (mB modF (mR (mB ixF (mR (mVar 0)) (mR (mC (.int 7))))) (mR (mC (.int 4))))))) (mSeq (mAsg 6 (mLst mNil)) (mSeq (mFor (mgN 7) (mRng1 (mCons (mV (mC (.int 2))) mNil)) L__law_game_2) (mRet (mTup (mCons (mV (mC (.str "deal"))) (mCons (mV (mC (.str "coin"))) (mCons (mV (mBi tupleF (mCons (mR (mVar 6)) mNil))) mNil))))))))))))
noncomputable def d__law_game : F := mDef 14 1 b__law_game
noncomputable def L__law_seen_1 (rc : F) : MS := (mAsg 2 (mB addF (mR (mVar 2)) (mR (mComp [5] (mgN 5) (miQ (mV (mCall rc (mACons (mVar 4) (mACons (mVar 1) mANil))))) (mTest (mB (inF true) (mR (mVar 5)) (mR (mVar 2)))) (mV (mVar 5))))))
noncomputable def b__law_seen (rc : F) : MS := (mSeq (mIf (mTest (mB eqF (mR (mB ixF (mR (mVar 0)) (mR (mC (.int 0))))) (mR (mC (.str "end"))))) (mRet (mLst mNil)) mNext) (mSeq (mAsg 2 (mLst mNil)) (mSeq (mIf (mAnd (mTest (mB eqF (mR (mB ixF (mR (mVar 0)) (mR (mC (.int 0))))) (mR (mC (.str "move"))))) (mTest (mB eqF (mR (mB ixF (mR (mVar 0)) (mR (mC (.int 1))))) (mR (mVar 1))))) (mAsg 2 (mLst (mCons (mV (mB ixF (mR (mVar 0)) (mR (mC (.int 2))))) mNil))) mNext) (mSeq (mFor (mgT 2 (mgCons (mgN 3) (mgCons (mgN 4) mgNil))) (miQ (mV (mB ixF (mR (mVar 0)) (mR (mU negF (mR (mC (.int 1)))))))) (L__law_seen_1 rc)) (mRetN 2)))))
noncomputable def d__law_seen : Nat → F
  | 0 => fun _ => .stuck
  | n + 1 => mDef 6 2 (b__law_seen (d__law_seen n))
noncomputable def C__law_divisor_1 : MT := (mTest (mB gtF (mR (mVar 1)) (mR (mC (.int 0)))))
noncomputable def L__law_divisor_2 : MS := (mSeq (mAsg 2 (mB modF (mR (mVar 0)) (mR (mVar 1)))) (mSeq (mAsg 0 (mVar 1)) (mAsg 1 (mVar 2))))
noncomputable def b__law_divisor : MS := (mSeq (mWhile C__law_divisor_1 L__law_divisor_2) (mRetN 0))
noncomputable def d__law_divisor : F := mDef 3 2 b__law_divisor
noncomputable def b__law_shares : MS := (mSeq (mAsg 1 (mB addF (mR (mC (.int 1))) (mR (mB modF (mR (mVar 0)) (mR (mC (.int 12))))))) (mSeq (mIf (mTest (mB eqF (mR (mB modF (mR (mVar 0)) (mR (mC (.int 5))))) (mR (mC (.int 4))))) (mAsg 1 (mB addF (mR (mB addF (mR (mB powF (mR (mC (.int 10))) (mR (mC (.int 10))))) (mR (mC (.int 1))))) (mR (mVar 0)))) mNext) (mSeq (mAsg 2 (mB modF (mR (mB mulF (mR (mB divF (mR (mVar 0)) (mR (mC (.int 12))))) (mR (mC (.int 9973))))) (mR (mB addF (mR (mVar 1)) (mR (mC (.int 1))))))) (mSeq (mAsg 3 (mCall d__law_divisor (mACons (mVar 1) (mACons (mVar 2) mANil)))) (mRet (mTup (mCons (mV (mTup (mCons (mV (mB divF (mR (mVar 2)) (mR (mVar 3)))) (mCons (mV (mB divF (mR (mVar 1)) (mR (mVar 3)))) mNil)))) (mCons (mV (mTup (mCons (mV (mB divF (mR (mB subF (mR (mVar 1)) (mR (mVar 2)))) (mR (mVar 3)))) (mCons (mV (mB divF (mR (mVar 1)) (mR (mVar 3)))) mNil)))) mNil))))))))
noncomputable def d__law_shares : F := mDef 4 1 b__law_shares
noncomputable def b__law_fraction_text : MS := (mSeq (mIf (mTest (mB eqF (mR (mB ixF (mR (mVar 0)) (mR (mC (.int 1))))) (mR (mC (.int 1))))) (mRet (mBi strF (mCons (mR (mB ixF (mR (mVar 0)) (mR (mC (.int 0))))) mNil))) mNext) (mRet (mB addF (mR (mB addF (mR (mBi strF (mCons (mR (mB ixF (mR (mVar 0)) (mR (mC (.int 0))))) mNil))) (mR (mC (.str "/"))))) (mR (mBi strF (mCons (mR (mB ixF (mR (mVar 0)) (mR (mC (.int 1))))) mNil))))))
noncomputable def d__law_fraction_text : F := mDef 1 1 b__law_fraction_text
noncomputable def b__law_text : MS := (mSeq (mAsg 2 (mComp [3] (mgN 3) (miV 0) mYes (mV (mM1 joinF (mR (mC (.str " "))) (mR (mB addF (mR (mLst (mCons (mV (mVar 3)) mNil))) (mR (mComp [4] (mgN 4) (miQ (mV (mB gxF (mR (mVar 1)) (mR (mVar 3))))) mYes (mV (mCall d__law_fraction_text (mACons (mVar 4) mANil))))))))))) (mRet (mM1 joinF (mR (mC (.str "; "))) (mR (mVar 2)))))
noncomputable def d__law_text : F := mDef 5 2 b__law_text
noncomputable def L__law_alike_1 : MS := (mIf (mOr (mNot (mTest (mIsi "tuple" (mR (mVar 3))))) (mOr (mTest (mIsi "bool" (mR (mB ixF (mR (mVar 3)) (mR (mC (.int 0))))))) (mTest (mIsi "bool" (mR (mB ixF (mR (mVar 3)) (mR (mC (.int 1))))))))) (mRet (mC (.bool false))) mNext)
noncomputable def L__law_alike_2 : MS := (mSeq (mIf (mNot (mTest (mIsi "tuple" (mR (mB gxF (mR (mVar 0)) (mR (mVar 2))))))) (mRet (mC (.bool false))) mNext) (mFor (mgN 3) (miQ (mV (mB gxF (mR (mVar 0)) (mR (mVar 2))))) L__law_alike_1))
noncomputable def b__law_alike : MS := (mSeq (mIf (mOr (mNot (mTest (mIsi "dict" (mR (mVar 0))))) (mTest (mB (cmpD true) (mR (mVar 0)) (mR (mVar 1))))) (mRet (mC (.bool false))) mNext) (mSeq (mFor (mgN 2) (miD (·.1) (mV (mVar 0))) L__law_alike_2) (mRet (mC (.bool true)))))
noncomputable def d__law_alike : F := mDef 4 2 b__law_alike
noncomputable def L__law_told_1 : MS := (mSeq (mAsg 11 (mCall Pg.d_read_plan (mACons (mVar 0) (mACons (mVar 1) (mACons (mVar 10) mANil))))) (mSeq (mFrz 4 (mIf (mOr (mNot (mTest (mLkE 11 (mCall d__law_alike (mACons (mVar 11) (mACons (mVar 4) mANil)))))) (mTest (mB neF (mR (mLkE 11 (mCall Pg.d_show_plan (mACons (mVar 0) (mACons (mVar 1) (mACons (mVar 11) mANil)))))) (mR (mVar 8))))) (mRet (mC (.bool false))) mNext)) (mSetI 11 (mR (mC (.str "none"))) (mV (mTup mNil)))))
noncomputable def L__law_told_2 : MS := (mSetI 6 (mR (mVar 7)) (mV (mB gxF (mR (mVar 4)) (mR (mVar 7)))))
noncomputable def L__law_told_3 : MS := (mSetI 4 (mR (mB ixF (mR (mVar 3)) (mR (mVar 5)))) (mV (mCall d__law_shares (mACons (mB addF (mR (mB divF (mR (mVar 2)) (mR (mB addF (mR (mVar 5)) (mR (mC (.int 1))))))) (mR (mB mulF (mR (mC (.int 7))) (mR (mVar 5))))) mANil))))
noncomputable def b__law_told : MS := (mSeq (mAsg 3 (mCall (d__law_seen 8) (mACons (mVar 0) (mACons (mVar 1) mANil)))) (mSeq (mAsg 4 mDict0) (mSeq (mFor (mgN 5) (mRng1 (mCons (mV (mBi lenF (mCons (mR (mVar 3)) mNil))) mNil)) L__law_told_3) (mSeq (mAsg 6 mDict0) (mSeq (mFrz 3 (mFor (mgN 7) (miRev (mV (mVar 3))) L__law_told_2)) (mSeq (mFrz 4 (mFrz 3 (mAsg 8 (mCall d__law_text (mACons (mVar 3) (mACons (mVar 4) mANil)))))) (mSeq (mFrz 6 (mIf (mOr (mTest (mB neF (mR (mCall Pg.d_show_plan (mACons (mVar 0) (mACons (mVar 1) (mACons (mVar 6) mANil))))) (mR (mVar 8)))) (mOr (mTest (mB (cmpD true) (mR (mVar 6)) (mR (mVar 4)))) (mTest (mB neF (mR (mCall Pg.d_show_plan (mACons (mVar 0) (mACons (mVar 1) (mACons (mVar 6) mANil))))) (mR (mVar 8)))))) (mRet (mC (.bool false))) mNext)) (mSeq (mFrz 4 (mAsg 9 (mCall d__law_text (mACons (mComp [5] (mgN 5) (mRng1 (mCons (mV (mBi lenF (mCons (mR (mVar 3)) mNil))) mNil)) mYes (mV (mB ixF (mR (mVar 3)) (mR (mB modF (mR (mB addF (mR (mVar 5)) (mR (mVar 2)))) (mR (mBi lenF (mCons (mR (mVar 3)) mNil)))))))) (mACons (mVar 4) mANil))))) (mSeq (mFrz 9 (mFrz 8 (mFor (mgN 10) (miQ (mV (mTup (mCons (mV (mVar 8)) (mCons (mV (mVar 9)) (mCons (mV (mVar 8)) mNil)))))) L__law_told_1))) (mRet (mC (.bool true))))))))))))
noncomputable def d__law_told : F := mDef 12 3 b__law_told
noncomputable def b__law_cards : MS := (mSeq (mAsg 0 (mTup (mCons (mV (mC (.str "deal"))) (mCons (mV (mC (.str "e"))) (mCons (mV (mTup (mCons (mV (mTup (mCons (mV (mTup (mCons (mV (mC (.int 1))) (mCons (mV (mC (.int 51))) mNil)))) (mCons (mV (mTup (mCons (mV (mC (.str "end"))) (mCons (mV (mTup (mCons (mV (mC (.int 1))) (mCons (mV (mC (.int 1))) mNil)))) mNil)))) mNil)))) (mCons (mV (mTup (mCons (mV (mTup (mCons (mV (mC (.int 50))) (mCons (mV (mC (.int 51))) mNil)))) (mCons (mV (mTup (mCons (mV (mC (.str "end"))) (mCons (mV (mTup (mCons (mV (mC (.int 2))) (mCons (mV (mC (.int 1))) mNil)))) mNil)))) mNil)))) mNil)))) mNil))))) (mSeq (mAsg 1 (mTup (mCons (mV (mC (.str "move"))) (mCons (mV (mC (.int 1))) (mCons (mV (mC (.str "s"))) (mCons (mV (mTup (mCons (mV (mTup (mCons (mV (mC (.str "a"))) (mCons (mV (mTup (mCons (mV (mC (.str "end"))) (mCons (mV (mTup (mCons (mV (mC (.int 3))) (mCons (mV (mC (.int 1))) mNil)))) mNil)))) mNil)))) (mCons (mV (mTup (mCons (mV (mC (.str "b"))) (mCons (mV (mTup (mCons (mV (mC (.str "end"))) (mCons (mV (mTup (mCons (mV (mC (.int 4))) (mCons (mV (mC (.int 1))) mNil)))) mNil)))) mNil)))) mNil)))) mNil)))))) (mSeq (mAsg 2 (mCall (Pg.d_folded 8) (mACons (mTup (mCons (mV (mC (.str "deal"))) (mCons (mV (mC (.str "d"))) (mCons (mV (mTup (mCons (mV (mTup (mCons (mV (mTup (mCons (mV (mC (.int 1))) (mCons (mV (mC (.int 52))) mNil)))) (mCons (mV (mVar 0)) mNil)))) (mCons (mV (mTup (mCons (mV (mTup (mCons (mV (mC (.int 51))) (mCons (mV (mC (.int 52))) mNil)))) (mCons (mV (mVar 1)) mNil)))) mNil)))) mNil)))) mANil))) (mSeq (mFrz 2 (mIf (mOr (mTest (mB neF (mR (mCall Pg.d_show_plan (mACons (mVar 2) (mACons (mC (.int 1)) (mACons (mDisp (mpCons (mV (mC (.str "s"))) (mV (mTup (mCons (mV (mTup (mCons (mV (mC (.int 1))) (mCons (mV (mC (.int 3))) mNil)))) (mCons (mV (mTup (mCons (mV (mC (.int 2))) (mCons (mV (mC (.int 3))) mNil)))) mNil)))) mpNil)) mANil))))) (mR (mC (.str "s 1/3 2/3"))))) (mTest (mB neF (mR (mCall Pg.d_show_plan (mACons (mVar 2) (mACons (mC (.int 2)) (mACons mDict0 mANil))))) (mR (mC (.str "")))))) (mRet (mC (.bool false))) mNext)) (mFrz 2 (mRet (mAndV (mCall d__law_alike (mACons (mCall Pg.d_read_plan (mACons (mVar 2) (mACons (mC (.int 1)) (mACons (mC (.str "s 0 1")) mANil)))) (mACons (mDisp (mpCons (mV (mC (.str "s"))) (mV (mTup (mCons (mV (mTup (mCons (mV (mC (.int 0))) (mCons (mV (mC (.int 1))) mNil)))) (mCons (mV (mTup (mCons (mV (mC (.int 1))) (mCons (mV (mC (.int 1))) mNil)))) mNil)))) mpNil)) mANil))) (mB (cmpD false) (mR (mCall Pg.d_read_plan (mACons (mVar 2) (mACons (mC (.int 2)) (mACons (mC (.str "")) mANil))))) (mR mDict0)))))))))
noncomputable def d__law_cards : F := mDef 3 0 b__law_cards
noncomputable def b_law : MS := (mSeq (mAsg 1 (mCall d__law_numbers (mACons (mVar 0) mANil))) (mSeq (mFrz 1 (mAsg 2 (mCall d__law_game (mACons (mVar 1) mANil)))) (mSeq (mFrz 2 (mIf (mOr (mNot (mTest (mCall d__law_told (mACons (mVar 2) (mACons (mC (.int 1)) (mACons (mB ixF (mR (mVar 1)) (mR (mC (.int 20)))) mANil)))))) (mNot (mTest (mCall d__law_told (mACons (mVar 2) (mACons (mC (.int 2)) (mACons (mB ixF (mR (mVar 1)) (mR (mC (.int 21)))) mANil))))))) (mRet (mC (.bool false))) mNext)) (mSeq (mAsg 3 (mB ixF (mR (mB ixF (mR (mB ixF (mR (mB ixF (mR (mVar 2)) (mR (mC (.int 2))))) (mR (mC (.int 0))))) (mR (mC (.int 1))))) (mR (mC (.int 1))))) (mSeq (mAsg 4 (mTup (mCons (mV (mC (.str "move"))) (mCons (mV (mVar 3)) (mCons (mV (mC (.str "alone"))) (mCons (mV (mTup (mCons (mV (mTup (mCons (mV (mB addF (mR (mC (.str "a"))) (mR (mBi strF (mCons (mR (mB modF (mR (mB ixF (mR (mVar 1)) (mR (mC (.int 22))))) (mR (mC (.int 9))))) mNil))))) (mCons (mV (mTup (mCons (mV (mC (.str "end"))) (mCons (mV (mTup (mCons (mV (mB modF (mR (mB ixF (mR (mVar 1)) (mR (mC (.int 23))))) (mR (mC (.int 9))))) (mCons (mV (mC (.int 1))) mNil)))) mNil)))) mNil)))) mNil))) mNil)))))) (mSeq (mAsg 5 (mCall Pg.d_read_plan (mACons (mVar 4) (mACons (mB subF (mR (mC (.int 3))) (mR (mVar 3))) (mACons (mC (.str "")) mANil))))) (mSeq (mIf (mOr (mTest (mB (cmpD true) (mR (mVar 5)) (mR mDict0))) (mOr (mNot (mTest (mIsi "dict" (mR (mVar 5))))) (mTest (mB neF (mR (mCall Pg.d_show_plan (mACons (mVar 4) (mACons (mB subF (mR (mC (.int 3))) (mR (mVar 3))) (mACons mDict0 mANil))))) (mR (mC (.str ""))))))) (mRet (mC (.bool false))) mNext) (mRet (mCall d__law_cards mANil)))))))))
noncomputable def d_law : F := mDef 6 1 b_law
/-! ### what the top has written -/
structure Txt (K : PySem.W.Frag) (mg : Str → Option Value) (ec : EC → Addr) : Prop where
  b_abs : mg "abs" = none
  b_bool : mg "bool" = none
  b_dict : mg "dict" = none
  b_int : mg "int" = none
  b_isinstance : mg "isinstance" = none
  b_len : mg "len" = none
  b_list : mg "list" = none
  b_range : mg "range" = none
  b_reversed : mg "reversed" = none
  b_str : mg "str" = none
  b_tuple : mg "tuple" = none
  g_DuelError : mg "DuelError" = some (.ref (ec .DuelError))
  g_NoNumber : mg "NoNumber" = some (.ref (ec .NoNumber))
  g_NoText : mg "NoText" = some (.ref (ec .NoText))
  g_TooGreat : mg "TooGreat" = some (.ref (ec .TooGreat))
  g_NoPlan : mg "NoPlan" = some (.ref (ec .NoPlan))
  k_NoNumber : PySem.W.keepIn K (.ref (ec .NoNumber)) = true
  x_NoNumber : PySem.W.excIn K (ec .NoNumber) [.type "ValueError", .type "Exception", .type "BaseException", .type "object"] "ValueError.__new__" = true
  s_NoNumber : PySem.W.subIn K (.ref (ec .NoNumber)) (.type "BaseException") = some true
  t_NoNumber : PySem.W.typeIn K (.ref (ec .NoNumber)) = some (.type "type")
  k_NoText : PySem.W.keepIn K (.ref (ec .NoText)) = true
  x_NoText : PySem.W.excIn K (ec .NoText) [.type "ValueError", .type "Exception", .type "BaseException", .type "object"] "ValueError.__new__" = true
  s_NoText : PySem.W.subIn K (.ref (ec .NoText)) (.type "BaseException") = some true
  t_NoText : PySem.W.typeIn K (.ref (ec .NoText)) = some (.type "type")
  k_TooGreat : PySem.W.keepIn K (.ref (ec .TooGreat)) = true
  x_TooGreat : PySem.W.excIn K (ec .TooGreat) [.type "ValueError", .type "Exception", .type "BaseException", .type "object"] "ValueError.__new__" = true
  s_TooGreat : PySem.W.subIn K (.ref (ec .TooGreat)) (.type "BaseException") = some true
  t_TooGreat : PySem.W.typeIn K (.ref (ec .TooGreat)) = some (.type "type")
  k_NoPlan : PySem.W.keepIn K (.ref (ec .NoPlan)) = true
  x_NoPlan : PySem.W.excIn K (ec .NoPlan) [.type "ValueError", .type "Exception", .type "BaseException", .type "object"] "ValueError.__new__" = true
  s_NoPlan : PySem.W.subIn K (.ref (ec .NoPlan)) (.type "BaseException") = some true
  t_NoPlan : PySem.W.typeIn K (.ref (ec .NoPlan)) = some (.type "type")
  m_FIGURES : ∃ u, mg "FIGURES" = some u ∧ RelV (.str "0123456789") u
  m_MOST_FIGURES : ∃ u, mg "MOST_FIGURES" = some u ∧ RelV (.int 30) u
  m_SIGNS : ∃ u, mg "SIGNS" = some u ∧ RelV (.str "abcdefghijklmnopqrstuvwxyz0123456789") u
  m_LONGEST : ∃ u, mg "LONGEST" = some u ∧ RelV (.int 8) u
  m_MOST_PLACES : ∃ u, mg "MOST_PLACES" = some u ∧ RelV (.int 64) u
  m_LONGEST_WAY : ∃ u, mg "LONGEST_WAY" = some u ∧ RelV (.int 12) u
section
variable {P : Program} {w : World} {K : PySem.W.Frag} {mg : Str → Option Value} {base : Heap} {ec : EC → Addr}
set_option maxHeartbeats 4000000 in
theorem ok_is_whole (T : Txt K mg ec)  (L : Ln K mg "is_whole" s_is_whole P_is_whole) : Fd P w K mg base ec "is_whole" P_is_whole 1 Pg.d_is_whole := by
  refine fd_of (N := N_is_whole) sc_is_whole L fun cdv A outer s H E hr => ?_
  unfold Pg.b_is_whole
  exact (dss_one (ds_ret (de_and (de_isi rfl T.b_isinstance rfl T.b_int (by decide +kernel) (dr (de_var 0))) (de_one (de_not (de_isi rfl T.b_isinstance rfl T.b_bool (by decide +kernel) (dr (de_var 0))))))))
set_option maxHeartbeats 4000000 in
theorem ok_divisor (T : Txt K mg ec)  (L : Ln K mg "divisor" s_divisor P_divisor) : Fd P w K mg base ec "divisor" P_divisor 1 Pg.d_divisor := by
  refine fd_of (N := N_divisor) sc_divisor L fun cdv A outer s H E hr => ?_
  unfold Pg.b_divisor
  exact (dss_cons (ds_asg (i := 0) free0 sc_divisor.nd rfl (Or.inl rfl) (de_callB absF_ok call_abs rfl T.b_abs (by decide +kernel) (drl_cons (dr (de_var 0)) drl_nil))) (dss_cons (ds_asg (i := 1) free0 sc_divisor.nd rfl (Or.inl rfl) (de_callB absF_ok call_abs rfl T.b_abs (by decide +kernel) (drl_cons (dr (de_var 1)) drl_nil))) (dss_cons (ds_while (passes_of rfl) (dt_cmp cmpF_ok cmpF_ne op_gt (dr (de_var 1)) (dr de_int) (nomark _)) (dss_cons (ds_asg (i := 2) free0 sc_divisor.nd rfl (Or.inl rfl) (de_op modF_ok modF_ne op_modN (dr (de_var 0)) (dr (de_var 1)))) (dss_cons (ds_asg (i := 0) free0 sc_divisor.nd rfl (Or.inl rfl) (de_var 1)) (dss_one (ds_asg (i := 1) free0 sc_divisor.nd rfl (Or.inl rfl) (de_var 2)))))) (dss_one (ds_retN 0 free0)))))
set_option maxHeartbeats 4000000 in
theorem ok_is_ratio (T : Txt K mg ec) (F_divisor : Fd P w K mg base ec "divisor" P_divisor 1 Pg.d_divisor) (F_is_whole : Fd P w K mg base ec "is_whole" P_is_whole 1 Pg.d_is_whole) (L : Ln K mg "is_ratio" s_is_ratio P_is_ratio) : Fd P w K mg base ec "is_ratio" P_is_ratio 2 Pg.d_is_ratio := by
  refine fd_of (N := N_is_ratio) sc_is_ratio L fun cdv A outer s H E hr => ?_
  unfold Pg.b_is_ratio
  exact (dss_cons (ds_if (dt_w (dw_or (dt_not (dt_val (de_isi rfl T.b_isinstance rfl T.b_tuple (by decide +kernel) (dr (de_var 0))))) (dw_or1 (dt_cmp neF_ok neF_ne (op_neD hr.units) (dr (de_callB lenF_ok call_len rfl T.b_len (by decide +kernel) (drl_cons (dr (de_var 0)) drl_nil))) (dr de_int) (nomark _))))) (dss_one (ds_ret de_bl)) dss_nil) (dss_cons (ds_if (dt_w (dw_or (dt_not (dt_val (de_callF F_is_whole (hr.mono (by decide)) rfl (takes_of rfl rfl rfl rfl) (das_cons (de_ix (dr (de_var 0)) (dr de_int) (fun _ _ => rfl)) das_nil)))) (dw_or (dt_not (dt_val (de_callF F_is_whole (hr.mono (by decide)) rfl (takes_of rfl rfl rfl rfl) (das_cons (de_ix (dr (de_var 0)) (dr de_int) (fun _ _ => rfl)) das_nil)))) (dw_or1 (dt_cmp cmpF_ok cmpF_ne op_lt (dr (de_ix (dr (de_var 0)) (dr de_int) (fun _ _ => rfl))) (dr de_int) (nomark _)))))) (dss_one (ds_ret de_bl)) dss_nil) (dss_one (ds_ret (de_cmp eqF_ok eqF_ne (op_eqD hr.units) (dr (de_callF F_divisor (hr.mono (by decide)) rfl (takes_of rfl rfl rfl rfl) (das_cons (de_ix (dr (de_var 0)) (dr de_int) (fun _ _ => rfl)) (das_cons (de_ix (dr (de_var 0)) (dr de_int) (fun _ _ => rfl)) das_nil)))) (dr de_int) (nomark _))))))
set_option maxHeartbeats 4000000 in
theorem ok_ratio (T : Txt K mg ec) (F_divisor : Fd P w K mg base ec "divisor" P_divisor 1 Pg.d_divisor) (L : Ln K mg "ratio" s_ratio P_ratio) : Fd P w K mg base ec "ratio" P_ratio 2 Pg.d_ratio := by
  refine fd_of (N := N_ratio) sc_ratio L fun cdv A outer s H E hr => ?_
  unfold Pg.b_ratio
  exact (dss_cons (ds_if (dt_cmp eqF_ok eqF_ne (op_eqD hr.units) (dr (de_var 1)) (dr de_int) (nomark _)) (dss_one (ds_raise (c := .NoNumber) rfl (takes_of rfl rfl rfl rfl) T.x_NoNumber T.g_NoNumber T.k_NoNumber (raises_own T.s_NoNumber T.t_NoNumber) rfl)) dss_nil) (dss_cons (ds_asg (i := 2) free0 sc_ratio.nd rfl (Or.inl rfl) (de_callF F_divisor (hr.mono (by decide)) rfl (takes_of rfl rfl rfl rfl) (das_cons (de_var 0) (das_cons (de_var 1) das_nil)))) (dss_cons (ds_if (dt_cmp cmpF_ok cmpF_ne op_lt (dr (de_var 1)) (dr de_int) (nomark _)) (dss_one (ds_asg (i := 2) free0 sc_ratio.nd rfl (Or.inl rfl) (de_op subF_ok subF_ne op_sub (dr de_int) (dr (de_var 2))))) dss_nil) (dss_one (ds_ret (de_tup (da_cons (dv (de_op divF_ok divF_ne op_fdivA (dr (de_var 0)) (dr (de_var 2)))) (da_cons (dv (de_op divF_ok divF_ne op_fdivA (dr (de_var 1)) (dr (de_var 2)))) da_nil))))))))
set_option maxHeartbeats 4000000 in
theorem ok_plus (T : Txt K mg ec) (F_ratio : Fd P w K mg base ec "ratio" P_ratio 2 Pg.d_ratio) (L : Ln K mg "plus" s_plus P_plus) : Fd P w K mg base ec "plus" P_plus 3 Pg.d_plus := by
  refine fd_of (N := N_plus) sc_plus L fun cdv A outer s H E hr => ?_
  unfold Pg.b_plus
  exact (dss_one (ds_ret (de_callF F_ratio (hr.mono (by decide)) rfl (takes_of rfl rfl rfl rfl) (das_cons (de_op addF_ok addF_ne op_addD (dr (de_op mulF_ok mulF_ne op_mulA (dr (de_ix (dr (de_var 0)) (dr de_int) (fun _ _ => rfl))) (dr (de_ix (dr (de_var 1)) (dr de_int) (fun _ _ => rfl))))) (dr (de_op mulF_ok mulF_ne op_mulA (dr (de_ix (dr (de_var 1)) (dr de_int) (fun _ _ => rfl))) (dr (de_ix (dr (de_var 0)) (dr de_int) (fun _ _ => rfl)))))) (das_cons (de_op mulF_ok mulF_ne op_mulA (dr (de_ix (dr (de_var 0)) (dr de_int) (fun _ _ => rfl))) (dr (de_ix (dr (de_var 1)) (dr de_int) (fun _ _ => rfl)))) das_nil)))))
set_option maxHeartbeats 4000000 in
theorem ok_times (T : Txt K mg ec) (F_ratio : Fd P w K mg base ec "ratio" P_ratio 2 Pg.d_ratio) (L : Ln K mg "times" s_times P_times) : Fd P w K mg base ec "times" P_times 3 Pg.d_times := by
  refine fd_of (N := N_times) sc_times L fun cdv A outer s H E hr => ?_
  unfold Pg.b_times
  exact (dss_one (ds_ret (de_callF F_ratio (hr.mono (by decide)) rfl (takes_of rfl rfl rfl rfl) (das_cons (de_op mulF_ok mulF_ne op_mulA (dr (de_ix (dr (de_var 0)) (dr de_int) (fun _ _ => rfl))) (dr (de_ix (dr (de_var 1)) (dr de_int) (fun _ _ => rfl)))) (das_cons (de_op mulF_ok mulF_ne op_mulA (dr (de_ix (dr (de_var 0)) (dr de_int) (fun _ _ => rfl))) (dr (de_ix (dr (de_var 1)) (dr de_int) (fun _ _ => rfl)))) das_nil)))))
set_option maxHeartbeats 4000000 in
theorem ok_under (T : Txt K mg ec)  (L : Ln K mg "under" s_under P_under) : Fd P w K mg base ec "under" P_under 1 Pg.d_under := by
  refine fd_of (N := N_under) sc_under L fun cdv A outer s H E hr => ?_
  unfold Pg.b_under
  exact (dss_one (ds_ret (de_cmp cmpF_ok cmpF_ne op_lt (dr (de_op mulF_ok mulF_ne op_mulA (dr (de_ix (dr (de_var 0)) (dr de_int) (fun _ _ => rfl))) (dr (de_ix (dr (de_var 1)) (dr de_int) (fun _ _ => rfl))))) (dr (de_op mulF_ok mulF_ne op_mulA (dr (de_ix (dr (de_var 1)) (dr de_int) (fun _ _ => rfl))) (dr (de_ix (dr (de_var 0)) (dr de_int) (fun _ _ => rfl))))) (nomark _))))
set_option maxHeartbeats 4000000 in
theorem ok_total (T : Txt K mg ec) (F_plus : Fd P w K mg base ec "plus" P_plus 3 Pg.d_plus) (L : Ln K mg "total" s_total P_total) : Fd P w K mg base ec "total" P_total 4 Pg.d_total := by
  refine fd_of (N := N_total) sc_total L fun cdv A outer s H E hr => ?_
  unfold Pg.b_total
  exact (dss_cons (ds_asg (i := 1) free0 sc_total.nd rfl (Or.inl rfl) (de_tup (da_cons (dv de_int) (da_cons (dv de_int) da_nil)))) (dss_cons (ds_for (passes_of rfl) rfl (di_var 0) (dg_name (i := 2) free0 sc_total.nd rfl (Or.inl rfl)) (dss_one (ds_frz 1 (ds_asg (i := 1) free0 sc_total.nd rfl (Or.inl rfl) (de_callF F_plus (hr.mono (by decide)) rfl (takes_of rfl rfl rfl rfl) (das_cons (de_var 1) (das_cons (de_var 2) das_nil))))))) (dss_one (ds_retN 1 free0))))
set_option maxHeartbeats 4000000 in
theorem ok_show_ratio (T : Txt K mg ec)  (L : Ln K mg "show_ratio" s_show_ratio P_show_ratio) : Fd P w K mg base ec "show_ratio" P_show_ratio 1 Pg.d_show_ratio := by
  refine fd_of (N := N_show_ratio) sc_show_ratio L fun cdv A outer s H E hr => ?_
  unfold Pg.b_show_ratio
  exact (dss_cons (ds_if (dt_cmp eqF_ok eqF_ne (op_eqD hr.units) (dr (de_ix (dr (de_var 0)) (dr de_int) (fun _ _ => rfl))) (dr de_int) (nomark _)) (dss_one (ds_ret (de_callT strF_ok call_str_int rfl T.b_str (by decide +kernel) (drl_cons (dr (de_ix (dr (de_var 0)) (dr de_int) (fun _ _ => rfl))) drl_nil)))) dss_nil) (dss_one (ds_ret (de_op addF_ok addF_ne op_addD (dr (de_op addF_ok addF_ne op_addD (dr (de_callT strF_ok call_str_int rfl T.b_str (by decide +kernel) (drl_cons (dr (de_ix (dr (de_var 0)) (dr de_int) (fun _ _ => rfl))) drl_nil))) (dr de_str))) (dr (de_callT strF_ok call_str_int rfl T.b_str (by decide +kernel) (drl_cons (dr (de_ix (dr (de_var 0)) (dr de_int) (fun _ _ => rfl))) drl_nil)))))))
set_option maxHeartbeats 4000000 in
theorem ok_number_of (T : Txt K mg ec)  (L : Ln K mg "number_of" s_number_of P_number_of) : Fd P w K mg base ec "number_of" P_number_of 1 Pg.d_number_of := by
  refine fd_of (N := N_number_of) sc_number_of L fun cdv A outer s H E hr => ?_
  unfold Pg.b_number_of
  exact (dss_cons (ds_if (dt_not (dt_chain cmpF_ok cmpF_ne cmpF_ok cmpF_ne op_le op_le (dr de_int) (dr (de_callB lenF_ok call_len rfl T.b_len (by decide +kernel) (drl_cons (dr (de_var 0)) drl_nil))) (dr (de_gl rfl T.m_MOST_FIGURES (fun _ => Rep.int _))))) (dss_one (ds_raise (c := .NoText) rfl (takes_of rfl rfl rfl rfl) T.x_NoText T.g_NoText T.k_NoText (raises_own T.s_NoText T.t_NoText) rfl)) dss_nil) (dss_cons (ds_for (passes_of rfl) rfl (di_var 0) (dg_name (i := 1) free0 sc_number_of.nd rfl (Or.inl rfl)) (dss_one (ds_if (dt_cmp notInF_ok notInF_ne (op_notInA hr) (dr (de_var 1)) (dr (de_gl rfl T.m_FIGURES (fun _ => Rep.str _))) rfl) (dss_one (ds_raise (c := .NoText) rfl (takes_of rfl rfl rfl rfl) T.x_NoText T.g_NoText T.k_NoText (raises_own T.s_NoText T.t_NoText) rfl)) dss_nil))) (dss_one (ds_ret (de_callT intSF_ok (call_int1.or call_int_str) rfl T.b_int (by decide +kernel) (drl_cons (dr (de_var 0)) drl_nil))))))
set_option maxHeartbeats 4000000 in
theorem ok_read_ratio (T : Txt K mg ec) (F_is_ratio : Fd P w K mg base ec "is_ratio" P_is_ratio 2 Pg.d_is_ratio) (F_show_ratio : Fd P w K mg base ec "show_ratio" P_show_ratio 1 Pg.d_show_ratio) (F_number_of : Fd P w K mg base ec "number_of" P_number_of 1 Pg.d_number_of) (L : Ln K mg "read_ratio" s_read_ratio P_read_ratio) : Fd P w K mg base ec "read_ratio" P_read_ratio 3 Pg.d_read_ratio := by
  refine fd_of (N := N_read_ratio) sc_read_ratio L fun cdv A outer s H E hr => ?_
  unfold Pg.b_read_ratio
  exact (dss_cons (ds_if (dt_not (dt_val (de_isi rfl T.b_isinstance rfl T.b_str (by decide +kernel) (dr (de_var 0))))) (dss_one (ds_raise (c := .NoText) rfl (takes_of rfl rfl rfl rfl) T.x_NoText T.g_NoText T.k_NoText (raises_own T.s_NoText T.t_NoText) rfl)) dss_nil) (dss_cons (ds_asg (i := 1) free0 sc_read_ratio.nd rfl (Or.inl rfl) (de_var 0)) (dss_cons (ds_if (dt_val (de_starts (dr (de_var 0)) (dr de_str))) (dss_one (ds_asg (i := 1) free0 sc_read_ratio.nd rfl (Or.inl rfl) (de_sl (dr (de_var 0)) (do_some (dr de_int)) do_none))) dss_nil) (dss_cons (ds_asg (i := 2) free0 sc_read_ratio.nd rfl (Or.inl rfl) (de_split (dr (de_var 1)) (dr de_str))) (dss_cons (ds_frz 2 (ds_asgComp (i := 3) (own := [("part", 5)]) frees0 free0 rfl sc_read_ratio.nd rfl rfl (sw_true rfl rfl rfl (by decide +kernel)) (di_var 2) (blkOk_by (N := N_read_ratio) (sc := defScope s_read_ratio) (own := [("part", 5)]) (by decide +kernel)) (by decide) (fun _ _ _ _ _ => (dg_name (i := 5) free0 sc_read_ratio.nd rfl (Or.inl rfl))) (fun _ _ _ _ _ => dif_nil) (fun _ _ _ _ _ => (dv (de_callF F_number_of (hr.mono (by decide)) rfl takes0 (das_cons (de_var 5) das_nil)))))) (dss_cons (ds_asg (i := 4) free0 sc_read_ratio.nd rfl (Or.inl rfl) (de_tup (da_cons (dv (de_ix (dr (de_var 3)) (dr de_int) (fun _ _ => rfl))) (da_cons (dv de_int) da_nil)))) (dss_cons (ds_if (dt_cmp cmpF_ok cmpF_ne op_gt (dr (de_callB lenF_ok call_len rfl T.b_len (by decide +kernel) (drl_cons (dr (de_var 3)) drl_nil))) (dr de_int) (nomark _)) (dss_one (ds_asg (i := 4) free0 sc_read_ratio.nd rfl (Or.inl rfl) (de_tup (da_cons (dv (de_ix (dr (de_var 3)) (dr de_int) (fun _ _ => rfl))) (da_cons (dv (de_ix (dr (de_var 3)) (dr de_int) (fun _ _ => rfl))) da_nil))))) dss_nil) (dss_cons (ds_if (dt_cmp neF_ok neF_ne (op_neD hr.units) (dr (de_var 1)) (dr (de_var 0)) (nomark _)) (dss_one (ds_asg (i := 4) free0 sc_read_ratio.nd rfl (Or.inl rfl) (de_tup (da_cons (dv (de_op subF_ok subF_ne op_sub (dr de_int) (dr (de_ix (dr (de_var 4)) (dr de_int) (fun _ _ => rfl))))) (da_cons (dv (de_ix (dr (de_var 4)) (dr de_int) (fun _ _ => rfl))) da_nil))))) dss_nil) (dss_cons (ds_if (dt_w (dw_or (dt_not (dt_val (de_callF F_is_ratio (hr.mono (by decide)) rfl (takes_of rfl rfl rfl rfl) (das_cons (de_var 4) das_nil)))) (dw_or1 (dt_cmp neF_ok neF_ne (op_neD hr.units) (dr (de_callF F_show_ratio (hr.mono (by decide)) rfl (takes_of rfl rfl rfl rfl) (das_cons (de_var 4) das_nil))) (dr (de_var 0)) (nomark _))))) (dss_one (ds_raise (c := .NoText) rfl (takes_of rfl rfl rfl rfl) T.x_NoText T.g_NoText T.k_NoText (raises_own T.s_NoText T.t_NoText) rfl)) dss_nil) (dss_one (ds_retN 4 free0)))))))))))
set_option maxHeartbeats 4000000 in
theorem ok_is_name (T : Txt K mg ec)  (L : Ln K mg "is_name" s_is_name P_is_name) : Fd P w K mg base ec "is_name" P_is_name 1 Pg.d_is_name := by
  refine fd_of (N := N_is_name) sc_is_name L fun cdv A outer s H E hr => ?_
  unfold Pg.b_is_name
  exact (dss_cons (ds_if (dt_w (dw_or (dt_not (dt_val (de_isi rfl T.b_isinstance rfl T.b_str (by decide +kernel) (dr (de_var 0))))) (dw_or1 (dt_not (dt_chain cmpF_ok cmpF_ne cmpF_ok cmpF_ne op_le op_le (dr de_int) (dr (de_callB lenF_ok call_len rfl T.b_len (by decide +kernel) (drl_cons (dr (de_var 0)) drl_nil))) (dr (de_gl rfl T.m_LONGEST (fun _ => Rep.int _)))))))) (dss_one (ds_ret de_bl)) dss_nil) (dss_cons (ds_for (passes_of rfl) rfl (di_var 0) (dg_name (i := 1) free0 sc_is_name.nd rfl (Or.inl rfl)) (dss_one (ds_if (dt_cmp notInF_ok notInF_ne (op_notInA hr) (dr (de_var 1)) (dr (de_gl rfl T.m_SIGNS (fun _ => Rep.str _))) rfl) (dss_one (ds_ret de_bl)) dss_nil))) (dss_one (ds_ret de_bl))))
set_option maxHeartbeats 4000000 in
theorem ok_words_of (T : Txt K mg ec)  (L : Ln K mg "words_of" s_words_of P_words_of) : Fd P w K mg base ec "words_of" P_words_of 1 Pg.d_words_of := by
  refine fd_of (N := N_words_of) sc_words_of L fun cdv A outer s H E hr => ?_
  unfold Pg.b_words_of
  exact (dss_one (ds_ret (de_callT tupleF_ok call_tuple_of rfl T.b_tuple (by decide +kernel) (drl_cons (dr (de_comp (own := [("word", 1), ("part", 2)]) frees0 rfl sc_words_of.nd (di_seq (dv (de_ix (dr (de_var 0)) (dr de_int) (fun _ _ => rfl)))) (blkOk_by (N := N_words_of) (sc := defScope s_words_of) (own := [("word", 1), ("part", 2)]) (by decide +kernel)) (by decide) (fun _ _ _ _ _ => (dg_tup rfl (dgs_cons (dg_name (i := 1) free0 sc_words_of.nd rfl (Or.inl rfl)) (dgs_cons (dg_name (i := 2) free0 sc_words_of.nd rfl (Or.inl rfl)) dgs_nil)))) (fun _ _ _ _ _ => dif_nil) (fun _ _ _ _ _ => (dv (de_var 1))))) drl_nil))))
set_option maxHeartbeats 4000000 in
theorem ok_behind (T : Txt K mg ec)  (L : Ln K mg "behind" s_behind P_behind) : Fd P w K mg base ec "behind" P_behind 1 Pg.d_behind := by
  refine fd_of (N := N_behind) sc_behind L fun cdv A outer s H E hr => ?_
  unfold Pg.b_behind
  exact (dss_cons (ds_asg (i := 3) free0 sc_behind.nd rfl (Or.inl rfl) (de_tup (da_cons (dv (de_ix (dr (de_var 1)) (dr de_int) (fun _ _ => rfl))) (da_cons (dv (de_var 2)) da_nil)))) (dss_cons (ds_if (dt_cmp eqF_ok eqF_ne (op_eqD hr.units) (dr (de_ix (dr (de_var 1)) (dr de_int) (fun _ _ => rfl))) (dr de_int) (nomark _)) (dss_one (ds_ret (de_tup (da_cons (dv (de_op addF_ok addF_ne op_addD (dr (de_ix (dr (de_var 0)) (dr de_int) (fun _ _ => rfl))) (dr (de_tup (da_cons (dv (de_var 3)) da_nil))))) (da_cons (dv (de_ix (dr (de_var 0)) (dr de_int) (fun _ _ => rfl))) da_nil))))) dss_nil) (dss_one (ds_ret (de_tup (da_cons (dv (de_ix (dr (de_var 0)) (dr de_int) (fun _ _ => rfl))) (da_cons (dv (de_op addF_ok addF_ne op_addD (dr (de_ix (dr (de_var 0)) (dr de_int) (fun _ _ => rfl))) (dr (de_tup (da_cons (dv (de_var 3)) da_nil))))) da_nil)))))))
set_option maxHeartbeats 4000000 in
theorem ok_branches (T : Txt K mg ec) (F_behind : Fd P w K mg base ec "behind" P_behind 1 Pg.d_behind) (L : Ln K mg "branches" s_branches P_branches) : Fd P w K mg base ec "branches" P_branches 2 Pg.d_branches := by
  refine fd_of (N := N_branches) sc_branches L fun cdv A outer s H E hr => ?_
  unfold Pg.b_branches
  exact (dss_cons (ds_if (dt_cmp eqF_ok eqF_ne (op_eqD hr.units) (dr (de_ix (dr (de_var 0)) (dr de_int) (fun _ _ => rfl))) (dr de_str) (nomark _)) (dss_one (ds_ret (de_lst da_nil))) dss_nil) (dss_cons (ds_if (dt_cmp eqF_ok eqF_ne (op_eqD hr.units) (dr (de_ix (dr (de_var 0)) (dr de_int) (fun _ _ => rfl))) (dr de_str) (nomark _)) (dss_one (ds_ret (de_comp (own := [("share", 2), ("part", 3)]) frees0 rfl sc_branches.nd (di_seq (dv (de_ix (dr (de_var 0)) (dr de_int) (fun _ _ => rfl)))) (blkOk_by (N := N_branches) (sc := defScope s_branches) (own := [("share", 2), ("part", 3)]) (by decide +kernel)) (by decide) (fun _ _ _ _ _ => (dg_tup rfl (dgs_cons (dg_name (i := 2) free0 sc_branches.nd rfl (Or.inl rfl)) (dgs_cons (dg_name (i := 3) free0 sc_branches.nd rfl (Or.inl rfl)) dgs_nil)))) (fun _ _ _ _ _ => dif_nil) (fun _ _ _ _ _ => (dv (de_tup (da_cons (dv (de_var 3)) (da_cons (dv (de_var 1)) da_nil)))))))) dss_nil) (dss_one (ds_ret (de_comp (own := [("word", 4), ("part", 3)]) frees0 rfl sc_branches.nd (di_seq (dv (de_ix (dr (de_var 0)) (dr de_int) (fun _ _ => rfl)))) (blkOk_by (N := N_branches) (sc := defScope s_branches) (own := [("word", 4), ("part", 3)]) (by decide +kernel)) (by decide) (fun _ _ _ _ _ => (dg_tup rfl (dgs_cons (dg_name (i := 4) free0 sc_branches.nd rfl (Or.inl rfl)) (dgs_cons (dg_name (i := 3) free0 sc_branches.nd rfl (Or.inl rfl)) dgs_nil)))) (fun _ _ _ _ _ => dif_nil) (fun _ _ _ _ _ => (dv (de_tup (da_cons (dv (de_var 3)) (da_cons (dv (de_callF F_behind (hr.mono (by decide)) rfl takes0 (das_cons (de_var 1) (das_cons (de_var 0) (das_cons (de_var 4) das_nil))))) da_nil))))))))))
set_option maxHeartbeats 4000000 in
theorem ok_seen_places (T : Txt K mg ec) (F_branches : Fd P w K mg base ec "branches" P_branches 2 Pg.d_branches) (L : Ln K mg "seen_places" s_seen_places P_seen_places) : Fd P w K mg base ec "seen_places" P_seen_places 3 Pg.d_seen_places := by
  refine fd_of (N := N_seen_places) sc_seen_places L fun cdv A outer s H E hr => ?_
  unfold Pg.b_seen_places Pg.L_seen_places_3 Pg.C_seen_places_2 Pg.L_seen_places_1
  exact (dss_cons (ds_asg (i := 2) free0 sc_seen_places.nd rfl (Or.inl rfl) (de_lst da_nil)) (dss_cons (ds_asg (i := 3) free0 sc_seen_places.nd rfl (Or.inl rfl) (de_lst (da_cons (dv (de_tup (da_cons (dv (de_tup da_nil)) (da_cons (dv (de_var 0)) (da_cons (dv (de_tup (da_cons (dv (de_tup da_nil)) (da_cons (dv (de_tup da_nil)) da_nil)))) da_nil))))) da_nil))) (dss_cons (ds_while (passes_of rfl) (dt_cmp neG_ok neG_ne (op_neG hr) (dr (de_var 3)) (dr (de_lst da_nil)) (nomark _)) (dss_cons (ds_popG (i := 3) (dg_tup rfl (dgs_cons (dg_name (i := 4) free0 sc_seen_places.nd rfl (Or.inl rfl)) (dgs_cons (dg_name (i := 5) free0 sc_seen_places.nd rfl (Or.inl rfl)) (dgs_cons (dg_name (i := 6) free0 sc_seen_places.nd rfl (Or.inl rfl)) dgs_nil))))) (dss_cons (ds_if (dt_w (dw_and (dt_val (de_var 1)) (dw_and1 (dt_w (dw_or (dt_cmp eqF_ok eqF_ne (op_eqD hr.units) (dr (de_callB lenF_ok call_len rfl T.b_len (by decide +kernel) (drl_cons (dr (de_var 2)) drl_nil))) (dr (de_gl rfl T.m_MOST_PLACES (fun _ => Rep.int _))) (nomark _)) (dw_or1 (dt_cmp cmpF_ok cmpF_ne op_gt (dr (de_callB lenF_ok call_len rfl T.b_len (by decide +kernel) (drl_cons (dr (de_var 4)) drl_nil))) (dr (de_gl rfl T.m_LONGEST_WAY (fun _ => Rep.int _))) (nomark _)))))))) (dss_one (ds_raise (c := .TooGreat) rfl (takes_of rfl rfl rfl rfl) T.x_TooGreat T.g_TooGreat T.k_TooGreat (raises_own T.s_TooGreat T.t_TooGreat) rfl)) dss_nil) (dss_cons (ds_append (i := 2) (dv (de_tup (da_cons (dv (de_var 4)) (da_cons (dv (de_var 5)) (da_cons (dv (de_var 6)) da_nil)))))) (dss_cons (ds_asg (i := 7) free0 sc_seen_places.nd rfl (Or.inl rfl) (de_callF F_branches (hr.mono (by decide)) rfl (takes_of rfl rfl rfl rfl) (das_cons (de_var 5) (das_cons (de_var 6) das_nil)))) (dss_one (ds_for (passes_of rfl) rfl (di_down rfl T.b_reversed rfl T.b_range (dv (de_callB lenF_ok call_len rfl T.b_len (by decide +kernel) (drl_cons (dr (de_var 7)) drl_nil)))) (dg_name (i := 8) free0 sc_seen_places.nd rfl (Or.inl rfl)) (dss_one (ds_append (i := 3) (dv (de_tup (da_cons (dv (de_op addF_ok addF_ne op_addD (dr (de_var 4)) (dr (de_tup (da_cons (dv (de_var 8)) da_nil))))) (da_cons (dv (de_ix (dr (de_ix (dr (de_var 7)) (dr (de_var 8)) (fun _ _ => rfl))) (dr de_int) (fun _ _ => rfl))) (da_cons (dv (de_ix (dr (de_ix (dr (de_var 7)) (dr (de_var 8)) (fun _ _ => rfl))) (dr de_int) (fun _ _ => rfl))) da_nil)))))))))))))) (dss_one (ds_retN 2 free0)))))
set_option maxHeartbeats 4000000 in
theorem ok_first_places (T : Txt K mg ec)  (L : Ln K mg "first_places" s_first_places P_first_places) : Fd P w K mg base ec "first_places" P_first_places 1 Pg.d_first_places := by
  refine fd_of (N := N_first_places) sc_first_places L fun cdv A outer s H E hr => ?_
  unfold Pg.b_first_places Pg.L_first_places_1
  exact (dss_cons (ds_asg (i := 1) free0 sc_first_places.nd rfl (Or.inl rfl) de_dict0) (dss_cons (ds_for (passes_of rfl) rfl (di_var 0) (dg_tup rfl (dgs_cons (dg_name (i := 2) free0 sc_first_places.nd rfl (Or.inl rfl)) (dgs_cons (dg_name (i := 3) free0 sc_first_places.nd rfl (Or.inl rfl)) (dgs_cons (dg_name (i := 4) free0 sc_first_places.nd rfl (Or.inl rfl)) dgs_nil)))) (dss_one (ds_if (dt_cmp eqF_ok eqF_ne (op_eqD hr.units) (dr (de_ix (dr (de_var 3)) (dr de_int) (fun _ _ => rfl))) (dr de_str) (nomark _)) (dss_one (ds_exprM (em_setd (i := 1) hr (da_cons (dv (de_tup (da_cons (dv (de_ix (dr (de_var 3)) (dr de_int) (fun _ _ => rfl))) (da_cons (dv (de_ix (dr (de_var 3)) (dr de_int) (fun _ _ => rfl))) da_nil)))) (da_cons (dv (de_tup (da_cons (dv (de_var 2)) (da_cons (dv (de_var 3)) (da_cons (dv (de_var 4)) da_nil))))) da_nil))))) dss_nil))) (dss_one (ds_retN 1 free0))))
set_option maxHeartbeats 4000000 in
theorem ok_rows_by (T : Txt K mg ec) (F_first_places : Fd P w K mg base ec "first_places" P_first_places 1 Pg.d_first_places) (F_words_of : Fd P w K mg base ec "words_of" P_words_of 1 Pg.d_words_of) (L : Ln K mg "rows_by" s_rows_by P_rows_by) : Fd P w K mg base ec "rows_by" P_rows_by 2 Pg.d_rows_by := by
  refine fd_of (N := N_rows_by) sc_rows_by L fun cdv A outer s H E hr => ?_
  unfold Pg.b_rows_by Pg.L_rows_by_1
  exact (dss_cons (ds_asg (i := 1) free0 sc_rows_by.nd rfl (Or.inl rfl) (de_lst da_nil)) (dss_cons (ds_for (passes_of rfl) rfl (di_itemsD (dv (de_callF F_first_places (hr.mono (by decide)) rfl (takes_of rfl rfl rfl rfl) (das_cons (de_var 0) das_nil)))) (dg_tup rfl (dgs_cons (dg_name (i := 2) free0 sc_rows_by.nd rfl (Or.inl rfl)) (dgs_cons (dg_name (i := 3) free0 sc_rows_by.nd rfl (Or.inl rfl)) dgs_nil))) (dss_one (ds_append (i := 1) (dv (de_tup (da_cons (dv (de_ix (dr (de_var 2)) (dr de_int) (fun _ _ => rfl))) (da_cons (dv (de_ix (dr (de_var 2)) (dr de_int) (fun _ _ => rfl))) (da_cons (dv (de_callF F_words_of (hr.mono (by decide)) rfl (takes_of rfl rfl rfl rfl) (das_cons (de_ix (dr (de_var 3)) (dr de_int) (fun _ _ => rfl)) das_nil))) (da_cons (dv (de_ix (dr (de_ix (dr (de_var 3)) (dr de_int) (fun _ _ => rfl))) (dr (de_op subF_ok subF_ne op_sub (dr (de_ix (dr (de_var 2)) (dr de_int) (fun _ _ => rfl))) (dr de_int))) (fun _ _ => rfl))) da_nil))))))))) (dss_one (ds_retN 1 free0))))
set_option maxHeartbeats 4000000 in
theorem ok_table_of (T : Txt K mg ec) (F_rows_by : Fd P w K mg base ec "rows_by" P_rows_by 2 Pg.d_rows_by) (F_seen_places : Fd P w K mg base ec "seen_places" P_seen_places 3 Pg.d_seen_places) (L : Ln K mg "table_of" s_table_of P_table_of) : Fd P w K mg base ec "table_of" P_table_of 4 Pg.d_table_of := by
  refine fd_of (N := N_table_of) sc_table_of L fun cdv A outer s H E hr => ?_
  unfold Pg.b_table_of
  exact (dss_one (ds_ret (de_callF F_rows_by (hr.mono (by decide)) rfl (takes_of rfl rfl rfl rfl) (das_cons (de_callF F_seen_places (hr.mono (by decide)) rfl (takes_of rfl rfl rfl rfl) (das_cons (de_var 0) (das_cons de_bl das_nil))) das_nil))))
set_option maxHeartbeats 4000000 in
theorem ok_rows_of (T : Txt K mg ec) (F_table_of : Fd P w K mg base ec "table_of" P_table_of 4 Pg.d_table_of) (L : Ln K mg "rows_of" s_rows_of P_rows_of) : Fd P w K mg base ec "rows_of" P_rows_of 5 Pg.d_rows_of := by
  refine fd_of (N := N_rows_of) sc_rows_of L fun cdv A outer s H E hr => ?_
  unfold Pg.b_rows_of
  exact (dss_one (ds_ret (de_comp (own := [("row", 2)]) frees0 rfl sc_rows_of.nd (di_seq (dv (de_callF F_table_of (hr.mono (by decide)) rfl (takes_of rfl rfl rfl rfl) (das_cons (de_var 0) das_nil)))) (blkOk_by (N := N_rows_of) (sc := defScope s_rows_of) (own := [("row", 2)]) (by decide +kernel)) (by decide) (fun _ _ _ _ _ => (dg_name (i := 2) free0 sc_rows_of.nd rfl (Or.inl rfl))) (fun _ _ _ _ _ => (dif_one (dt_cmp eqF_ok eqF_ne (op_eqD hr.units) (dr (de_ix (dr (de_var 2)) (dr de_int) (fun _ _ => rfl))) (dr (de_var 1)) (nomark _)))) (fun _ _ _ _ _ => (dv (de_var 2))))))
set_option maxHeartbeats 4000000 in
theorem ok_are_shares (T : Txt K mg ec) (F_total : Fd P w K mg base ec "total" P_total 4 Pg.d_total) (F_is_ratio : Fd P w K mg base ec "is_ratio" P_is_ratio 2 Pg.d_is_ratio) (F_under : Fd P w K mg base ec "under" P_under 1 Pg.d_under) (L : Ln K mg "are_shares" s_are_shares P_are_shares) : Fd P w K mg base ec "are_shares" P_are_shares 5 Pg.d_are_shares := by
  refine fd_of (N := N_are_shares) sc_are_shares L fun cdv A outer s H E hr => ?_
  unfold Pg.b_are_shares
  exact (dss_cons (ds_if (dt_w (dw_or (dt_not (dt_val (de_isi rfl T.b_isinstance rfl T.b_tuple (by decide +kernel) (dr (de_var 0))))) (dw_or1 (dt_cmp neF_ok neF_ne (op_neD hr.units) (dr (de_callB lenF_ok call_len rfl T.b_len (by decide +kernel) (drl_cons (dr (de_var 0)) drl_nil))) (dr (de_var 1)) (nomark _))))) (dss_one (ds_ret de_bl)) dss_nil) (dss_cons (ds_for (passes_of rfl) rfl (di_var 0) (dg_name (i := 2) free0 sc_are_shares.nd rfl (Or.inl rfl)) (dss_one (ds_if (dt_w (dw_or (dt_not (dt_val (de_callF F_is_ratio (hr.mono (by decide)) rfl (takes_of rfl rfl rfl rfl) (das_cons (de_var 2) das_nil)))) (dw_or1 (dt_val (de_callF F_under (hr.mono (by decide)) rfl (takes_of rfl rfl rfl rfl) (das_cons (de_var 2) (das_cons (de_tup (da_cons (dv de_int) (da_cons (dv de_int) da_nil))) das_nil))))))) (dss_one (ds_ret de_bl)) dss_nil))) (dss_one (ds_ret (de_cmp eqF_ok eqF_ne (op_eqD hr.units) (dr (de_callF F_total (hr.mono (by decide)) rfl (takes_of rfl rfl rfl rfl) (das_cons (de_callT listF_ok call_list_of rfl T.b_list (by decide +kernel) (drl_cons (dr (de_var 0)) drl_nil)) das_nil))) (dr (de_tup (da_cons (dv de_int) (da_cons (dv de_int) da_nil)))) (nomark _))))))
set_option maxHeartbeats 4000000 in
theorem ok_is_plan (T : Txt K mg ec) (F_are_shares : Fd P w K mg base ec "are_shares" P_are_shares 5 Pg.d_are_shares) (F_rows_of : Fd P w K mg base ec "rows_of" P_rows_of 5 Pg.d_rows_of) (L : Ln K mg "is_plan" s_is_plan P_is_plan) : Fd P w K mg base ec "is_plan" P_is_plan 6 Pg.d_is_plan := by
  refine fd_of (N := N_is_plan) sc_is_plan L fun cdv A outer s H E hr => ?_
  unfold Pg.b_is_plan Pg.L_is_plan_1
  exact (dss_cons (ds_asg (i := 3) free0 sc_is_plan.nd rfl (Or.inl rfl) (de_callF F_rows_of (hr.mono (by decide)) rfl (takes_of rfl rfl rfl rfl) (das_cons (de_var 0) (das_cons (de_var 1) das_nil)))) (dss_cons (ds_if (dt_w (dw_or (dt_not (dt_val (de_isi rfl T.b_isinstance rfl T.b_dict (by decide +kernel) (dr (de_var 2))))) (dw_or1 (dt_cmp neF_ok neF_ne (op_neD hr.units) (dr (de_callB lenG_ok call_lenG rfl T.b_len (by decide +kernel) (drl_cons (dr (de_var 2)) drl_nil))) (dr (de_callB lenF_ok call_len rfl T.b_len (by decide +kernel) (drl_cons (dr (de_var 3)) drl_nil))) (nomark _))))) (dss_one (ds_ret de_bl)) dss_nil) (dss_cons (ds_frz 3 (ds_for (passes_of rfl) rfl (di_var 3) (dg_name (i := 4) free0 sc_is_plan.nd rfl (Or.inl rfl)) (dss_one (ds_if (dt_w (dw_or (dt_cmp notInG_ok notInG_ne (op_notInG hr) (dr (de_ix (dr (de_var 4)) (dr de_int) (fun _ _ => rfl))) (dr (de_var 2)) rfl) (dw_or1 (dt_not (dt_val (de_callF F_are_shares (hr.mono (by decide)) rfl (takes_of rfl rfl rfl rfl) (das_cons (de_gx hr (dr (de_var 2)) (dr (de_ix (dr (de_var 4)) (dr de_int) (fun _ _ => rfl))) (fun _ _ => rfl)) (das_cons (de_callB lenF_ok call_len rfl T.b_len (by decide +kernel) (drl_cons (dr (de_ix (dr (de_var 4)) (dr de_int) (fun _ _ => rfl))) drl_nil)) das_nil)))))))) (dss_one (ds_ret de_bl)) dss_nil)))) (dss_one (ds_ret de_bl)))))
set_option maxHeartbeats 4000000 in
theorem ok_ask_plan (T : Txt K mg ec) (F_is_plan : Fd P w K mg base ec "is_plan" P_is_plan 6 Pg.d_is_plan) (L : Ln K mg "ask_plan" s_ask_plan P_ask_plan) : Fd P w K mg base ec "ask_plan" P_ask_plan 7 Pg.d_ask_plan := by
  refine fd_of (N := N_ask_plan) sc_ask_plan L fun cdv A outer s H E hr => ?_
  unfold Pg.b_ask_plan
  exact (dss_one (ds_if (dt_not (dt_val (de_callF F_is_plan (hr.mono (by decide)) rfl (takes_of rfl rfl rfl rfl) (das_cons (de_var 0) (das_cons (de_var 1) (das_cons (de_var 2) das_nil)))))) (dss_one (ds_raise (c := .NoPlan) rfl (takes_of rfl rfl rfl rfl) T.x_NoPlan T.g_NoPlan T.k_NoPlan (raises_own T.s_NoPlan T.t_NoPlan) rfl)) dss_nil))
set_option maxHeartbeats 4000000 in
theorem ok_show_plan (T : Txt K mg ec) (F_rows_of : Fd P w K mg base ec "rows_of" P_rows_of 5 Pg.d_rows_of) (F_show_ratio : Fd P w K mg base ec "show_ratio" P_show_ratio 1 Pg.d_show_ratio) (F_ask_plan : Fd P w K mg base ec "ask_plan" P_ask_plan 7 Pg.d_ask_plan) (L : Ln K mg "show_plan" s_show_plan P_show_plan) : Fd P w K mg base ec "show_plan" P_show_plan 8 Pg.d_show_plan := by
  refine fd_of (N := N_show_plan) sc_show_plan L fun cdv A outer s H E hr => ?_
  unfold Pg.b_show_plan Pg.L_show_plan_1
  exact (dss_cons (ds_expr (de_callF F_ask_plan (hr.mono (by decide)) rfl (takes_of rfl rfl rfl rfl) (das_cons (de_var 0) (das_cons (de_var 1) (das_cons (de_var 2) das_nil))))) (dss_cons (ds_asg (i := 3) free0 sc_show_plan.nd rfl (Or.inl rfl) (de_lst da_nil)) (dss_cons (ds_for (passes_of rfl) rfl (di_seq (dv (de_callF F_rows_of (hr.mono (by decide)) rfl (takes_of rfl rfl rfl rfl) (das_cons (de_var 0) (das_cons (de_var 1) das_nil))))) (dg_tup rfl (dgs_cons (dg_name (i := 4) free0 sc_show_plan.nd rfl (Or.inl rfl)) (dgs_cons (dg_name (i := 5) free0 sc_show_plan.nd rfl (Or.inl rfl)) (dgs_cons (dg_name (i := 6) free0 sc_show_plan.nd rfl (Or.inl rfl)) (dgs_cons (dg_name (i := 7) free0 sc_show_plan.nd rfl (Or.inl rfl)) dgs_nil))))) (dss_one (ds_append (i := 3) (dv (de_join (dr de_str) (dr (de_op addF_ok addF_ne op_addD (dr (de_lst (da_cons (dv (de_var 5)) da_nil))) (dr (de_comp (own := [("share", 8)]) frees0 rfl sc_show_plan.nd (di_seq (dv (de_gx hr (dr (de_var 2)) (dr (de_var 5)) (fun _ _ => rfl)))) (blkOk_by (N := N_show_plan) (sc := defScope s_show_plan) (own := [("share", 8)]) (by decide +kernel)) (by decide) (fun _ _ _ _ _ => (dg_name (i := 8) free0 sc_show_plan.nd rfl (Or.inl rfl))) (fun _ _ _ _ _ => dif_nil) (fun _ _ _ _ _ => (dv (de_callF F_show_ratio (hr.mono (by decide)) rfl takes0 (das_cons (de_var 8) das_nil))))))))))))) (dss_one (ds_ret (de_join (dr de_str) (dr (de_var 3))))))))
set_option maxHeartbeats 4000000 in
theorem ok_read_plan (T : Txt K mg ec) (F_ask_plan : Fd P w K mg base ec "ask_plan" P_ask_plan 7 Pg.d_ask_plan) (F_read_ratio : Fd P w K mg base ec "read_ratio" P_read_ratio 3 Pg.d_read_ratio) (F_is_name : Fd P w K mg base ec "is_name" P_is_name 1 Pg.d_is_name) (L : Ln K mg "read_plan" s_read_plan P_read_plan) : Fd P w K mg base ec "read_plan" P_read_plan 8 Pg.d_read_plan := by
  refine fd_of (N := N_read_plan) sc_read_plan L fun cdv A outer s H E hr => ?_
  unfold Pg.b_read_plan Pg.L_read_plan_1
  exact (dss_cons (ds_if (dt_not (dt_val (de_isi rfl T.b_isinstance rfl T.b_str (by decide +kernel) (dr (de_var 2))))) (dss_one (ds_raise (c := .NoText) rfl (takes_of rfl rfl rfl rfl) T.x_NoText T.g_NoText T.k_NoText (raises_own T.s_NoText T.t_NoText) rfl)) dss_nil) (dss_cons (ds_asg (i := 3) free0 sc_read_plan.nd rfl (Or.inl rfl) de_dict0) (dss_cons (ds_if (dt_cmp neF_ok neF_ne (op_neD hr.units) (dr (de_var 2)) (dr de_str) (nomark _)) (dss_one (ds_for (passes_of rfl) rfl (di_seq (dv (de_split (dr (de_var 2)) (dr de_str)))) (dg_name (i := 4) free0 sc_read_plan.nd rfl (Or.inl rfl)) (dss_cons (ds_asg (i := 5) free0 sc_read_plan.nd rfl (Or.inl rfl) (de_split (dr (de_var 4)) (dr de_str))) (dss_cons (ds_if (dt_w (dw_or (dt_not (dt_val (de_callF F_is_name (hr.mono (by decide)) rfl (takes_of rfl rfl rfl rfl) (das_cons (de_ix (dr (de_var 5)) (dr de_int) (fun _ _ => rfl)) das_nil)))) (dw_or (dt_cmp inG_ok inG_ne (op_inG hr) (dr (de_ix (dr (de_var 5)) (dr de_int) (fun _ _ => rfl))) (dr (de_var 3)) rfl) (dw_or1 (dt_cmp cmpF_ok cmpF_ne op_lt (dr (de_callB lenF_ok call_len rfl T.b_len (by decide +kernel) (drl_cons (dr (de_var 5)) drl_nil))) (dr de_int) (nomark _)))))) (dss_one (ds_raise (c := .NoText) rfl (takes_of rfl rfl rfl rfl) T.x_NoText T.g_NoText T.k_NoText (raises_own T.s_NoText T.t_NoText) rfl)) dss_nil) (dss_one (ds_setI (i := 3) hr (dv (de_callT tupleF_ok call_tuple_of rfl T.b_tuple (by decide +kernel) (drl_cons (dr (de_comp (own := [("word", 6)]) frees0 rfl sc_read_plan.nd (di_seq (dv (de_sl (dr (de_var 5)) (do_some (dr de_int)) do_none))) (blkOk_by (N := N_read_plan) (sc := defScope s_read_plan) (own := [("word", 6)]) (by decide +kernel)) (by decide) (fun _ _ _ _ _ => (dg_name (i := 6) free0 sc_read_plan.nd rfl (Or.inl rfl))) (fun _ _ _ _ _ => dif_nil) (fun _ _ _ _ _ => (dv (de_callF F_read_ratio (hr.mono (by decide)) rfl takes0 (das_cons (de_var 6) das_nil)))))) drl_nil))) (dr (de_ix (dr (de_var 5)) (dr de_int) (fun _ _ => rfl))))))))) dss_nil) (dss_cons (ds_expr (de_callF F_ask_plan (hr.mono (by decide)) rfl (takes_of rfl rfl rfl rfl) (das_cons (de_var 0) (das_cons (de_var 1) (das_cons (de_var 3) das_nil))))) (dss_one (ds_retN 3 free0))))))
set_option maxHeartbeats 4000000 in
theorem ok_folded_deal (T : Txt K mg ec) (F_plus : Fd P w K mg base ec "plus" P_plus 3 Pg.d_plus) (L : Ln K mg "folded_deal" s_folded_deal P_folded_deal) : Fd P w K mg base ec "folded_deal" P_folded_deal 4 Pg.d_folded_deal := by
  refine fd_of (N := N_folded_deal) sc_folded_deal L fun cdv A outer s H E hr => ?_
  unfold Pg.b_folded_deal Pg.L_folded_deal_1
  exact (dss_cons (ds_asg (i := 2) free0 sc_folded_deal.nd rfl (Or.inr rfl) de_dict0) (dss_cons (ds_for (passes_of rfl) rfl (di_var 1) (dg_tup rfl (dgs_cons (dg_name (i := 3) free0 sc_folded_deal.nd rfl (Or.inl rfl)) (dgs_cons (dg_name (i := 4) free0 sc_folded_deal.nd rfl (Or.inl rfl)) dgs_nil))) (dss_one (ds_setI (i := 2) hr (dv (de_callF F_plus (hr.mono (by decide)) rfl (takes_of rfl rfl rfl rfl) (das_cons (de_get hr (dr (de_var 2)) (da_cons (dv (de_var 4)) (da_cons (dv (de_tup (da_cons (dv de_int) (da_cons (dv de_int) da_nil)))) da_nil))) (das_cons (de_var 3) das_nil)))) (dr (de_var 4))))) (dss_cons (ds_if (dt_cmp eqF_ok eqF_ne (op_eqD hr.units) (dr (de_callB lenG_ok call_lenG rfl T.b_len (by decide +kernel) (drl_cons (dr (de_var 2)) drl_nil))) (dr de_int) (nomark _)) (dss_one (ds_ret (de_ix (dr (de_callT listG_ok (call_listG rfl) rfl T.b_list (by decide +kernel) (drl_cons (dr (de_var 2)) drl_nil))) (dr de_int) (fun _ _ => rfl)))) dss_nil) (dss_one (ds_frz 2 (ds_ret (de_tup (da_cons (dv de_str) (da_cons (dv (de_var 0)) (da_cons (dv (de_callT tupleF_ok call_tuple_of rfl T.b_tuple (by decide +kernel) (drl_cons (dr (de_comp (own := [("part", 4)]) frees0 rfl sc_folded_deal.nd (di_keysD (dv (de_var 2))) (blkOk_by (N := N_folded_deal) (sc := defScope s_folded_deal) (own := [("part", 4)]) (by decide +kernel)) (by decide) (fun _ _ _ _ _ => (dg_name (i := 4) free0 sc_folded_deal.nd rfl (Or.inl rfl))) (fun _ _ _ _ _ => dif_nil) (fun _ _ _ _ _ => (dv (de_tup (da_cons (dv (de_gx hr (dr (de_var 2)) (dr (de_var 4)) (fun _ _ => rfl))) (da_cons (dv (de_var 4)) da_nil))))))) drl_nil))) da_nil))))))))))
set_option maxHeartbeats 4000000 in
theorem ok_folded (T : Txt K mg ec) (F_folded_deal : Fd P w K mg base ec "folded_deal" P_folded_deal 4 Pg.d_folded_deal) (F_times : Fd P w K mg base ec "times" P_times 3 Pg.d_times) (L_folded : Ln K mg "folded" s_folded P_folded) : ∀ n : Nat, Fd P w K mg base ec "folded" P_folded (5 + n) (Pg.d_folded n) := by
  intro n
  induction n with
  | zero => exact fd_bot (N := N_folded) sc_folded L_folded
  | succ n ih =>
    refine fd_of (N := N_folded) (k := 5 + n) sc_folded L_folded fun cdv A outer s H E hr => ?_
    unfold Pg.b_folded Pg.L_folded_2 Pg.L_folded_1
    exact (dss_cons (ds_if (dt_cmp eqF_ok eqF_ne (op_eqD hr.units) (dr (de_ix (dr (de_var 0)) (dr de_int) (fun _ _ => rfl))) (dr de_str) (nomark _)) (dss_one (ds_retN 0 free0)) dss_nil) (dss_cons (ds_if (dt_cmp eqF_ok eqF_ne (op_eqD hr.units) (dr (de_ix (dr (de_var 0)) (dr de_int) (fun _ _ => rfl))) (dr de_str) (nomark _)) (dss_one (ds_ret (de_tup (da_cons (dv de_str) (da_cons (dv (de_ix (dr (de_var 0)) (dr de_int) (fun _ _ => rfl))) (da_cons (dv (de_ix (dr (de_var 0)) (dr de_int) (fun _ _ => rfl))) (da_cons (dv (de_callT tupleF_ok call_tuple_of rfl T.b_tuple (by decide +kernel) (drl_cons (dr (de_comp (own := [("word", 7), ("part", 3)]) frees0 rfl sc_folded.nd (di_seq (dv (de_ix (dr (de_var 0)) (dr de_int) (fun _ _ => rfl)))) (blkOk_by (N := N_folded) (sc := defScope s_folded) (own := [("word", 7), ("part", 3)]) (by decide +kernel)) (by decide) (fun _ _ _ _ _ => (dg_tup rfl (dgs_cons (dg_name (i := 7) free0 sc_folded.nd rfl (Or.inl rfl)) (dgs_cons (dg_name (i := 3) free0 sc_folded.nd rfl (Or.inl rfl)) dgs_nil)))) (fun _ _ _ _ _ => dif_nil) (fun _ _ _ _ _ => (dv (de_tup (da_cons (dv (de_var 7)) (da_cons (dv (de_callF (ih) (hr.mono (by omega)) rfl takes0 (das_cons (de_var 3) das_nil))) da_nil))))))) drl_nil))) da_nil))))))) dss_nil) (dss_cons (ds_asg (i := 1) free0 sc_folded.nd rfl (Or.inl rfl) (de_lst da_nil)) (dss_cons (ds_for (passes_of rfl) rfl (di_seq (dv (de_ix (dr (de_var 0)) (dr de_int) (fun _ _ => rfl)))) (dg_tup rfl (dgs_cons (dg_name (i := 2) free0 sc_folded.nd rfl (Or.inl rfl)) (dgs_cons (dg_name (i := 3) free0 sc_folded.nd rfl (Or.inl rfl)) dgs_nil))) (dss_cons (ds_asg (i := 4) free0 sc_folded.nd rfl (Or.inl rfl) (de_callF (ih) (hr.mono (by omega)) rfl (takes_of rfl rfl rfl rfl) (das_cons (de_var 3) das_nil))) (dss_one (ds_if (dt_cmp eqF_ok eqF_ne (op_eqD hr.units) (dr (de_ix (dr (de_var 4)) (dr de_int) (fun _ _ => rfl))) (dr de_str) (nomark _)) (dss_one (ds_for (passes_of rfl) rfl (di_seq (dv (de_ix (dr (de_var 4)) (dr de_int) (fun _ _ => rfl)))) (dg_tup rfl (dgs_cons (dg_name (i := 5) free0 sc_folded.nd rfl (Or.inl rfl)) (dgs_cons (dg_name (i := 6) free0 sc_folded.nd rfl (Or.inl rfl)) dgs_nil))) (dss_one (ds_append (i := 1) (dv (de_tup (da_cons (dv (de_callF F_times (hr.mono (by omega)) rfl (takes_of rfl rfl rfl rfl) (das_cons (de_var 2) (das_cons (de_var 5) das_nil)))) (da_cons (dv (de_var 6)) da_nil)))))))) (dss_one (ds_frz 4 (ds_append (i := 1) (dv (de_tup (da_cons (dv (de_var 2)) (da_cons (dv (de_var 4)) da_nil))))))))))) (dss_one (ds_frz 1 (ds_ret (de_callF F_folded_deal (hr.mono (by omega)) rfl (takes_of rfl rfl rfl rfl) (das_cons (de_ix (dr (de_var 0)) (dr de_int) (fun _ _ => rfl)) (das_cons (de_var 1) das_nil))))))))))
set_option maxHeartbeats 4000000 in
theorem ok__law_cell_at (T : Txt K mg ec)  (L : Ln K mg "_law_cell_at" s__law_cell_at P__law_cell_at) : Fd P w K mg base ec "_law_cell_at" P__law_cell_at 1 d__law_cell_at := by
  refine fd_of (N := N__law_cell_at) sc__law_cell_at L fun cdv A outer s H E hr => ?_
  unfold b__law_cell_at
  exact (dss_cons (ds_if (dt_cmp cmpF_ok cmpF_ne op_lt (dr (de_var 1)) (dr (de_callB lenF_ok call_len rfl T.b_len (by decide +kernel) (drl_cons (dr (de_var 0)) drl_nil))) (nomark _)) (dss_one (ds_ret (de_ix (dr (de_var 0)) (dr (de_var 1)) (fun _ _ => rfl)))) dss_nil) (dss_one (ds_ret de_int)))
set_option maxHeartbeats 4000000 in
theorem ok__law_numbers (T : Txt K mg ec) (F__law_cell_at : Fd P w K mg base ec "_law_cell_at" P__law_cell_at 1 d__law_cell_at) (L : Ln K mg "_law_numbers" s__law_numbers P__law_numbers) : Fd P w K mg base ec "_law_numbers" P__law_numbers 2 d__law_numbers := by
  refine fd_of (N := N__law_numbers) sc__law_numbers L fun cdv A outer s H E hr => ?_
  unfold b__law_numbers
  exact (dss_one (ds_ret (de_comp (own := [("_law_k", 1)]) frees0 rfl sc__law_numbers.nd (di_range1 rfl T.b_range (da_cons (dv de_int) da_nil)) (blkOk_by (N := N__law_numbers) (sc := defScope s__law_numbers) (own := [("_law_k", 1)]) (by decide +kernel)) (by decide) (fun _ _ _ _ _ => (dg_name (i := 1) free0 sc__law_numbers.nd rfl (Or.inl rfl))) (fun _ _ _ _ _ => dif_nil) (fun _ _ _ _ _ => (dv (de_op modF_ok modF_ne op_modN (dr (de_op mulF_ok mulF_ne op_mulA (dr (de_op addF_ok addF_ne op_addD (dr (de_op addF_ok addF_ne op_addD (dr (de_op addF_ok addF_ne op_addD (dr (de_op modF_ok modF_ne op_modN (dr (de_callF F__law_cell_at (hr.mono (by decide)) rfl takes0 (das_cons (de_var 0) (das_cons (de_var 1) das_nil)))) (dr de_int))) (dr (de_op mulF_ok mulF_ne op_mulA (dr (de_op mulF_ok mulF_ne op_mulA (dr de_int) (dr (de_var 1)))) (dr (de_var 1)))))) (dr (de_op mulF_ok mulF_ne op_mulA (dr de_int) (dr (de_var 1)))))) (dr de_int))) (dr de_int))) (dr de_int)))))))
set_option maxHeartbeats 4000000 in
theorem ok__law_names (T : Txt K mg ec)  (L : Ln K mg "_law_names" s__law_names P__law_names) : Fd P w K mg base ec "_law_names" P__law_names 1 d__law_names := by
  refine fd_of (N := N__law_names) sc__law_names L fun cdv A outer s H E hr => ?_
  unfold b__law_names L__law_names_2 L__law_names_1
  exact (dss_cons (ds_asg (i := 3) free0 sc__law_names.nd rfl (Or.inl rfl) de_str) (dss_cons (ds_asg (i := 4) free0 sc__law_names.nd rfl (Or.inl rfl) (de_op addF_ok addF_ne op_addD (dr de_int) (dr (de_op modF_ok modF_ne op_modN (dr (de_var 0)) (dr de_int))))) (dss_cons (ds_asg (i := 5) free0 sc__law_names.nd rfl (Or.inl rfl) (de_op modF_ok modF_ne op_modN (dr (de_var 1)) (dr (de_var 4)))) (dss_cons (ds_asg (i := 6) free0 sc__law_names.nd rfl (Or.inl rfl) (de_lst da_nil)) (dss_cons (ds_for (passes_of rfl) rfl (di_range1 rfl T.b_range (da_cons (dv (de_var 2)) da_nil)) (dg_name (i := 7) free0 sc__law_names.nd rfl (Or.inl rfl)) (dss_cons (ds_asg (i := 8) free0 sc__law_names.nd rfl (Or.inl rfl) de_str) (dss_cons (ds_for (passes_of rfl) rfl (di_range1 rfl T.b_range (da_cons (dv (de_var 4)) da_nil)) (dg_name (i := 9) free0 sc__law_names.nd rfl (Or.inl rfl)) (dss_one (ds_asg (i := 8) free0 sc__law_names.nd rfl (Or.inl rfl) (de_op addF_ok addF_ne op_addD (dr (de_var 8)) (dr (de_ix (dr (de_var 3)) (dr (de_op modF_ok modF_ne op_modN (dr (de_op addF_ok addF_ne op_addD (dr (de_op addF_ok addF_ne op_addD (dr (de_op divF_ok divF_ne op_fdivA (dr (de_var 0)) (dr (de_op addF_ok addF_ne op_addD (dr (de_var 9)) (dr de_int))))) (dr (de_op mulF_ok mulF_ne op_mulA (dr (de_var 9)) (dr (de_var 9)))))) (dr (de_op mulF_ok mulF_ne op_mulA (dr (de_op addF_ok addF_ne op_addD (dr (de_var 7)) (dr de_int))) (dr (de_callT intSF_ok (call_int1.or call_int_str) rfl T.b_int (by decide +kernel) (drl_cons (dr (de_cmp eqF_ok eqF_ne (op_eqD hr.units) (dr (de_var 9)) (dr (de_var 5)) (nomark _))) drl_nil))))))) (dr de_int))) (fun _ _ => rfl))))))) (dss_one (ds_append (i := 6) (dv (de_var 8))))))) (dss_one (ds_retN 6 free0)))))))
set_option maxHeartbeats 4000000 in
theorem ok__law_game (T : Txt K mg ec) (F__law_names : Fd P w K mg base ec "_law_names" P__law_names 1 d__law_names) (L : Ln K mg "_law_game" s__law_game P__law_game) : Fd P w K mg base ec "_law_game" P__law_game 2 d__law_game := by
  refine fd_of (N := N__law_game) sc__law_game L fun cdv A outer s H E hr => ?_
  unfold b__law_game L__law_game_2 L__law_game_1
  exact (dss_cons (ds_asg (i := 1) free0 sc__law_game.nd rfl (Or.inl rfl) (de_op addF_ok addF_ne op_addD (dr de_int) (dr (de_op modF_ok modF_ne op_modN (dr (de_ix (dr (de_var 0)) (dr de_int) (fun _ _ => rfl))) (dr de_int))))) (dss_cons (ds_asg (i := 2) free0 sc__law_game.nd rfl (Or.inl rfl) (de_callF F__law_names (hr.mono (by decide)) rfl (takes_of rfl rfl rfl rfl) (das_cons (de_ix (dr (de_var 0)) (dr de_int) (fun _ _ => rfl)) (das_cons (de_ix (dr (de_var 0)) (dr de_int) (fun _ _ => rfl)) (das_cons de_int das_nil))))) (dss_cons (ds_asg (i := 3) free0 sc__law_game.nd rfl (Or.inl rfl) (de_callF F__law_names (hr.mono (by decide)) rfl (takes_of rfl rfl rfl rfl) (das_cons (de_ix (dr (de_var 0)) (dr de_int) (fun _ _ => rfl)) (das_cons (de_ix (dr (de_var 0)) (dr de_int) (fun _ _ => rfl)) (das_cons de_int das_nil))))) (dss_cons (ds_asg (i := 4) free0 sc__law_game.nd rfl (Or.inl rfl) (de_callF F__law_names (hr.mono (by decide)) rfl (takes_of rfl rfl rfl rfl) (das_cons (de_ix (dr (de_var 0)) (dr de_int) (fun _ _ => rfl)) (das_cons (de_ix (dr (de_var 0)) (dr de_int) (fun _ _ => rfl)) (das_cons de_int das_nil))))) (dss_cons (ds_asg (i := 5) free0 sc__law_game.nd rfl (Or.inl rfl) (de_op addF_ok addF_ne op_addD (dr de_int) (dr (de_op modF_ok modF_ne op_modN (dr (de_ix (dr (de_var 0)) (dr de_int) (fun _ _ => rfl))) (dr de_int))))) (dss_cons (ds_asg (i := 6) free0 sc__law_game.nd rfl (Or.inl rfl) (de_lst da_nil)) (dss_cons (ds_for (passes_of rfl) rfl (di_range1 rfl T.b_range (da_cons (dv de_int) da_nil)) (dg_name (i := 7) free0 sc__law_game.nd rfl (Or.inr rfl)) (dss_cons (ds_asg (i := 8) free0 sc__law_game.nd rfl (Or.inl rfl) (de_lst da_nil)) (dss_cons (ds_for (passes_of rfl) rfl (di_range1 rfl T.b_range (da_cons (dv de_int) da_nil)) (dg_name (i := 9) free0 sc__law_game.nd rfl (Or.inr rfl)) (dss_cons (ds_asgComp (i := 10) (own := [("_law_i", 13)]) frees0 free0 rfl sc__law_game.nd rfl rfl (sw_true rfl rfl rfl (by decide +kernel)) (di_range1 rfl T.b_range (da_cons (dv de_int) da_nil)) (blkOk_by (N := N__law_game) (sc := defScope s__law_game) (own := [("_law_i", 13)]) (by decide +kernel)) (by decide) (fun _ _ _ _ _ => (dg_name (i := 13) free0 sc__law_game.nd rfl (Or.inl rfl))) (fun _ _ _ _ _ => dif_nil) (fun _ _ _ _ _ => (dv (de_tup (da_cons (dv (de_op subF_ok subF_ne op_sub (dr (de_op modF_ok modF_ne op_modN (dr (de_ix (dr (de_var 0)) (dr (de_op addF_ok addF_ne op_addD (dr (de_op addF_ok addF_ne op_addD (dr (de_op addF_ok addF_ne op_addD (dr de_int) (dr (de_op mulF_ok mulF_ne op_mulA (dr de_int) (dr (de_var 7)))))) (dr (de_op mulF_ok mulF_ne op_mulA (dr de_int) (dr (de_var 9)))))) (dr (de_var 13)))) (fun _ _ => rfl))) (dr de_int))) (dr de_int))) (da_cons (dv de_int) da_nil)))))) (dss_cons (ds_asg (i := 11) free0 sc__law_game.nd rfl (Or.inl rfl) (de_ix (dr (de_var 3)) (dr (de_ix (dr (de_lst (da_cons (dv de_int) (da_cons (dv (de_var 9)) (da_cons (dv (de_var 7)) da_nil))))) (dr (de_op modF_ok modF_ne op_modN (dr (de_ix (dr (de_var 0)) (dr de_int) (fun _ _ => rfl))) (dr de_int))) (fun _ _ => rfl))) (fun _ _ => rfl))) (dss_cons (ds_asg (i := 12) free0 sc__law_game.nd rfl (Or.inl rfl) (de_tup (da_cons (dv de_str) (da_cons (dv (de_op subF_ok subF_ne op_sub (dr de_int) (dr (de_var 1)))) (da_cons (dv (de_var 11)) (da_cons (dv (de_tup (da_cons (dv (de_tup (da_cons (dv (de_ix (dr (de_var 4)) (dr de_int) (fun _ _ => rfl))) (da_cons (dv (de_tup (da_cons (dv de_str) (da_cons (dv (de_ix (dr (de_var 10)) (dr de_int) (fun _ _ => rfl))) da_nil)))) da_nil)))) (da_cons (dv (de_tup (da_cons (dv (de_ix (dr (de_var 4)) (dr de_int) (fun _ _ => rfl))) (da_cons (dv (de_tup (da_cons (dv de_str) (da_cons (dv (de_ix (dr (de_var 10)) (dr de_int) (fun _ _ => rfl))) da_nil)))) da_nil)))) da_nil)))) da_nil)))))) (dss_cons (ds_if (dt_w (dw_and (dt_cmp eqF_ok eqF_ne (op_eqD hr.units) (dr (de_var 9)) (dr de_int) (nomark _)) (dw_and1 (dt_cmp eqF_ok eqF_ne (op_eqD hr.units) (dr (de_op modF_ok modF_ne op_modN (dr (de_ix (dr (de_var 0)) (dr de_int) (fun _ _ => rfl))) (dr de_int))) (dr de_int) (nomark _))))) (dss_one (ds_asg (i := 12) free0 sc__law_game.nd rfl (Or.inl rfl) (de_tup (da_cons (dv de_str) (da_cons (dv (de_ix (dr (de_var 10)) (dr de_int) (fun _ _ => rfl))) da_nil))))) dss_nil) (dss_one (ds_append (i := 8) (dv (de_tup (da_cons (dv (de_ix (dr (de_var 4)) (dr (de_var 9)) (fun _ _ => rfl))) (da_cons (dv (de_var 12)) da_nil))))))))))) (dss_one (ds_append (i := 6) (dv (de_tup (da_cons (dv (de_tup (da_cons (dv (de_ix (dr (de_lst (da_cons (dv (de_var 5)) (da_cons (dv (de_op subF_ok subF_ne op_sub (dr de_int) (dr (de_var 5)))) da_nil)))) (dr (de_var 7)) (fun _ _ => rfl))) (da_cons (dv de_int) da_nil)))) (da_cons (dv (de_tup (da_cons (dv de_str) (da_cons (dv (de_var 1)) (da_cons (dv (de_ix (dr (de_var 2)) (dr (de_op mulF_ok mulF_ne op_mulA (dr (de_var 7)) (dr (de_op modF_ok modF_ne op_modN (dr (de_ix (dr (de_var 0)) (dr de_int) (fun _ _ => rfl))) (dr de_int))))) (fun _ _ => rfl))) (da_cons (dv (de_callT tupleF_ok call_tuple_of rfl T.b_tuple (by decide +kernel) (drl_cons (dr (de_var 8)) drl_nil))) da_nil)))))) da_nil))))))))) (dss_one (ds_ret (de_tup (da_cons (dv de_str) (da_cons (dv de_str) (da_cons (dv (de_callT tupleF_ok call_tuple_of rfl T.b_tuple (by decide +kernel) (drl_cons (dr (de_var 6)) drl_nil))) da_nil)))))))))))))
set_option maxHeartbeats 4000000 in
theorem ok__law_seen (T : Txt K mg ec)  (L__law_seen : Ln K mg "_law_seen" s__law_seen P__law_seen) : ∀ n : Nat, Fd P w K mg base ec "_law_seen" P__law_seen (1 + n) (d__law_seen n) := by
  intro n
  induction n with
  | zero => exact fd_bot (N := N__law_seen) sc__law_seen L__law_seen
  | succ n ih =>
    refine fd_of (N := N__law_seen) (k := 1 + n) sc__law_seen L__law_seen fun cdv A outer s H E hr => ?_
    unfold b__law_seen L__law_seen_1
    exact (dss_cons (ds_if (dt_cmp eqF_ok eqF_ne (op_eqD hr.units) (dr (de_ix (dr (de_var 0)) (dr de_int) (fun _ _ => rfl))) (dr de_str) (nomark _)) (dss_one (ds_ret (de_lst da_nil))) dss_nil) (dss_cons (ds_asg (i := 2) free0 sc__law_seen.nd rfl (Or.inr rfl) (de_lst da_nil)) (dss_cons (ds_if (dt_w (dw_and (dt_cmp eqF_ok eqF_ne (op_eqD hr.units) (dr (de_ix (dr (de_var 0)) (dr de_int) (fun _ _ => rfl))) (dr de_str) (nomark _)) (dw_and1 (dt_cmp eqF_ok eqF_ne (op_eqD hr.units) (dr (de_ix (dr (de_var 0)) (dr de_int) (fun _ _ => rfl))) (dr (de_var 1)) (nomark _))))) (dss_one (ds_asg (i := 2) free0 sc__law_seen.nd rfl (Or.inr rfl) (de_lst (da_cons (dv (de_ix (dr (de_var 0)) (dr de_int) (fun _ _ => rfl))) da_nil)))) dss_nil) (dss_cons (ds_for (passes_of rfl) rfl (di_seq (dv (de_ix (dr (de_var 0)) (dr (de_neg (dr de_int))) (fun _ _ => rfl)))) (dg_tup rfl (dgs_cons (dg_name (i := 3) free0 sc__law_seen.nd rfl (Or.inl rfl)) (dgs_cons (dg_name (i := 4) free0 sc__law_seen.nd rfl (Or.inl rfl)) dgs_nil))) (dss_one (ds_asg (i := 2) free0 sc__law_seen.nd rfl (Or.inr rfl) (de_op addF_ok addF_ne op_addD (dr (de_var 2)) (dr (de_comp (own := [("_law_name", 5)]) frees0 rfl sc__law_seen.nd (di_seq (dv (de_callF (ih) (hr.mono (by omega)) rfl (takes_of rfl rfl rfl rfl) (das_cons (de_var 4) (das_cons (de_var 1) das_nil))))) (blkOk_by (N := N__law_seen) (sc := defScope s__law_seen) (own := [("_law_name", 5)]) (by decide +kernel)) (by decide) (fun _ _ _ _ _ => (dg_name (i := 5) free0 sc__law_seen.nd rfl (Or.inl rfl))) (fun _ _ _ _ _ => (dif_one (dt_cmp notInF_ok notInF_ne (op_notInA hr) (dr (de_var 5)) (dr (de_var 2)) rfl))) (fun _ _ _ _ _ => (dv (de_var 5))))))))) (dss_one (ds_retN 2 free0))))))
set_option maxHeartbeats 4000000 in
theorem ok__law_divisor (T : Txt K mg ec)  (L : Ln K mg "_law_divisor" s__law_divisor P__law_divisor) : Fd P w K mg base ec "_law_divisor" P__law_divisor 1 d__law_divisor := by
  refine fd_of (N := N__law_divisor) sc__law_divisor L fun cdv A outer s H E hr => ?_
  unfold b__law_divisor L__law_divisor_2 C__law_divisor_1
  exact (dss_cons (ds_while (passes_of rfl) (dt_cmp cmpF_ok cmpF_ne op_gt (dr (de_var 1)) (dr de_int) (nomark _)) (dss_cons (ds_asg (i := 2) free0 sc__law_divisor.nd rfl (Or.inl rfl) (de_op modF_ok modF_ne op_modN (dr (de_var 0)) (dr (de_var 1)))) (dss_cons (ds_asg (i := 0) free0 sc__law_divisor.nd rfl (Or.inl rfl) (de_var 1)) (dss_one (ds_asg (i := 1) free0 sc__law_divisor.nd rfl (Or.inl rfl) (de_var 2)))))) (dss_one (ds_retN 0 free0)))
set_option maxHeartbeats 4000000 in
theorem ok__law_shares (T : Txt K mg ec) (F__law_divisor : Fd P w K mg base ec "_law_divisor" P__law_divisor 1 d__law_divisor) (L : Ln K mg "_law_shares" s__law_shares P__law_shares) : Fd P w K mg base ec "_law_shares" P__law_shares 2 d__law_shares := by
  refine fd_of (N := N__law_shares) sc__law_shares L fun cdv A outer s H E hr => ?_
  unfold b__law_shares
  exact (dss_cons (ds_asg (i := 1) free0 sc__law_shares.nd rfl (Or.inl rfl) (de_op addF_ok addF_ne op_addD (dr de_int) (dr (de_op modF_ok modF_ne op_modN (dr (de_var 0)) (dr de_int))))) (dss_cons (ds_if (dt_cmp eqF_ok eqF_ne (op_eqD hr.units) (dr (de_op modF_ok modF_ne op_modN (dr (de_var 0)) (dr de_int))) (dr de_int) (nomark _)) (dss_one (ds_asg (i := 1) free0 sc__law_shares.nd rfl (Or.inl rfl) (de_op addF_ok addF_ne op_addD (dr (de_op addF_ok addF_ne op_addD (dr (de_op powF_ok powF_ne op_pow (dr de_int) (dr de_int))) (dr de_int))) (dr (de_var 0))))) dss_nil) (dss_cons (ds_asg (i := 2) free0 sc__law_shares.nd rfl (Or.inl rfl) (de_op modF_ok modF_ne op_modN (dr (de_op mulF_ok mulF_ne op_mulA (dr (de_op divF_ok divF_ne op_fdivA (dr (de_var 0)) (dr de_int))) (dr de_int))) (dr (de_op addF_ok addF_ne op_addD (dr (de_var 1)) (dr de_int))))) (dss_cons (ds_asg (i := 3) free0 sc__law_shares.nd rfl (Or.inl rfl) (de_callF F__law_divisor (hr.mono (by decide)) rfl (takes_of rfl rfl rfl rfl) (das_cons (de_var 1) (das_cons (de_var 2) das_nil)))) (dss_one (ds_ret (de_tup (da_cons (dv (de_tup (da_cons (dv (de_op divF_ok divF_ne op_fdivA (dr (de_var 2)) (dr (de_var 3)))) (da_cons (dv (de_op divF_ok divF_ne op_fdivA (dr (de_var 1)) (dr (de_var 3)))) da_nil)))) (da_cons (dv (de_tup (da_cons (dv (de_op divF_ok divF_ne op_fdivA (dr (de_op subF_ok subF_ne op_sub (dr (de_var 1)) (dr (de_var 2)))) (dr (de_var 3)))) (da_cons (dv (de_op divF_ok divF_ne op_fdivA (dr (de_var 1)) (dr (de_var 3)))) da_nil)))) da_nil)))))))))
set_option maxHeartbeats 4000000 in
theorem ok__law_fraction_text (T : Txt K mg ec)  (L : Ln K mg "_law_fraction_text" s__law_fraction_text P__law_fraction_text) : Fd P w K mg base ec "_law_fraction_text" P__law_fraction_text 1 d__law_fraction_text := by
  refine fd_of (N := N__law_fraction_text) sc__law_fraction_text L fun cdv A outer s H E hr => ?_
  unfold b__law_fraction_text
  exact (dss_cons (ds_if (dt_cmp eqF_ok eqF_ne (op_eqD hr.units) (dr (de_ix (dr (de_var 0)) (dr de_int) (fun _ _ => rfl))) (dr de_int) (nomark _)) (dss_one (ds_ret (de_callT strF_ok call_str_int rfl T.b_str (by decide +kernel) (drl_cons (dr (de_ix (dr (de_var 0)) (dr de_int) (fun _ _ => rfl))) drl_nil)))) dss_nil) (dss_one (ds_ret (de_op addF_ok addF_ne op_addD (dr (de_op addF_ok addF_ne op_addD (dr (de_callT strF_ok call_str_int rfl T.b_str (by decide +kernel) (drl_cons (dr (de_ix (dr (de_var 0)) (dr de_int) (fun _ _ => rfl))) drl_nil))) (dr de_str))) (dr (de_callT strF_ok call_str_int rfl T.b_str (by decide +kernel) (drl_cons (dr (de_ix (dr (de_var 0)) (dr de_int) (fun _ _ => rfl))) drl_nil)))))))
set_option maxHeartbeats 4000000 in
theorem ok__law_text (T : Txt K mg ec) (F__law_fraction_text : Fd P w K mg base ec "_law_fraction_text" P__law_fraction_text 1 d__law_fraction_text) (L : Ln K mg "_law_text" s__law_text P__law_text) : Fd P w K mg base ec "_law_text" P__law_text 2 d__law_text := by
  refine fd_of (N := N__law_text) sc__law_text L fun cdv A outer s H E hr => ?_
  unfold b__law_text
  exact (dss_cons (ds_asgComp (i := 2) (own := [("_law_name", 3)]) frees0 free0 rfl sc__law_text.nd rfl rfl (sw_true rfl rfl rfl (by decide +kernel)) (di_var 0) (blkOk_by (N := N__law_text) (sc := defScope s__law_text) (own := [("_law_name", 3)]) (by decide +kernel)) (by decide) (fun _ _ _ _ _ => (dg_name (i := 3) free0 sc__law_text.nd rfl (Or.inl rfl))) (fun _ _ _ _ _ => dif_nil) (fun _ _ _ _ _ => (dv (de_join (dr de_str) (dr (de_op addF_ok addF_ne op_addD (dr (de_lst (da_cons (dv (de_var 3)) da_nil))) (dr (de_comp (own := [("_law_share", 4)]) frees0 rfl sc__law_text.nd (di_seq (dv (de_gx hr (dr (de_var 1)) (dr (de_var 3)) (fun _ _ => rfl)))) (blkOk_by (N := N__law_text) (sc := _) (own := [("_law_share", 4)]) (by kernel_rfl)) (by decide) (fun _ _ _ _ _ => (dg_name (i := 4) free0 sc__law_text.nd rfl (Or.inl rfl))) (fun _ _ _ _ _ => dif_nil) (fun _ _ _ _ _ => (dv (de_callF F__law_fraction_text (hr.mono (by decide)) rfl takes0 (das_cons (de_var 4) das_nil)))))))))))) (dss_one (ds_ret (de_join (dr de_str) (dr (de_var 2))))))
set_option maxHeartbeats 4000000 in
theorem ok__law_alike (T : Txt K mg ec)  (L : Ln K mg "_law_alike" s__law_alike P__law_alike) : Fd P w K mg base ec "_law_alike" P__law_alike 1 d__law_alike := by
  refine fd_of (N := N__law_alike) sc__law_alike L fun cdv A outer s H E hr => ?_
  unfold b__law_alike L__law_alike_2 L__law_alike_1
  exact (dss_cons (ds_if (dt_w (dw_or (dt_not (dt_val (de_isi rfl T.b_isinstance rfl T.b_dict (by decide +kernel) (dr (de_var 0))))) (dw_or1 (dt_cmp neD_ok neD_ne (op_neDict hr) (dr (de_var 0)) (dr (de_var 1)) (nomark _))))) (dss_one (ds_ret de_bl)) dss_nil) (dss_cons (ds_for (passes_of rfl) rfl (di_keysD (dv (de_var 0))) (dg_name (i := 2) free0 sc__law_alike.nd rfl (Or.inl rfl)) (dss_cons (ds_if (dt_not (dt_val (de_isi rfl T.b_isinstance rfl T.b_tuple (by decide +kernel) (dr (de_gx hr (dr (de_var 0)) (dr (de_var 2)) (fun _ _ => rfl)))))) (dss_one (ds_ret de_bl)) dss_nil) (dss_one (ds_for (passes_of rfl) rfl (di_seq (dv (de_gx hr (dr (de_var 0)) (dr (de_var 2)) (fun _ _ => rfl)))) (dg_name (i := 3) free0 sc__law_alike.nd rfl (Or.inl rfl)) (dss_one (ds_if (dt_w (dw_or (dt_not (dt_val (de_isi rfl T.b_isinstance rfl T.b_tuple (by decide +kernel) (dr (de_var 3))))) (dw_or (dt_val (de_isi rfl T.b_isinstance rfl T.b_bool (by decide +kernel) (dr (de_ix (dr (de_var 3)) (dr de_int) (fun _ _ => rfl))))) (dw_or1 (dt_val (de_isi rfl T.b_isinstance rfl T.b_bool (by decide +kernel) (dr (de_ix (dr (de_var 3)) (dr de_int) (fun _ _ => rfl))))))))) (dss_one (ds_ret de_bl)) dss_nil)))))) (dss_one (ds_ret de_bl))))
set_option maxHeartbeats 4000000 in
theorem ok__law_told (T : Txt K mg ec) (F__law_alike : Fd P w K mg base ec "_law_alike" P__law_alike 1 d__law_alike) (F_show_plan : Fd P w K mg base ec "show_plan" P_show_plan 8 Pg.d_show_plan) (F_read_plan : Fd P w K mg base ec "read_plan" P_read_plan 8 Pg.d_read_plan) (F__law_text : Fd P w K mg base ec "_law_text" P__law_text 2 d__law_text) (F__law_shares : Fd P w K mg base ec "_law_shares" P__law_shares 2 d__law_shares) (F__law_seen : Fd P w K mg base ec "_law_seen" P__law_seen 9 (d__law_seen 8)) (L : Ln K mg "_law_told" s__law_told P__law_told) : Fd P w K mg base ec "_law_told" P__law_told 10 d__law_told := by
  refine fd_of (N := N__law_told) sc__law_told L fun cdv A outer s H E hr => ?_
  unfold b__law_told L__law_told_3 L__law_told_2 L__law_told_1
  exact (dss_cons (ds_asg (i := 3) free0 sc__law_told.nd rfl (Or.inr rfl) (de_callF F__law_seen (hr.mono (by decide)) rfl (takes_of rfl rfl rfl rfl) (das_cons (de_var 0) (das_cons (de_var 1) das_nil)))) (dss_cons (ds_asg (i := 4) free0 sc__law_told.nd rfl (Or.inl rfl) de_dict0) (dss_cons (ds_for (passes_of rfl) rfl (di_range1 rfl T.b_range (da_cons (dv (de_callB lenF_ok call_len rfl T.b_len (by decide +kernel) (drl_cons (dr (de_var 3)) drl_nil))) da_nil)) (dg_name (i := 5) free0 sc__law_told.nd rfl (Or.inl rfl)) (dss_one (ds_setI (i := 4) hr (dv (de_callF F__law_shares (hr.mono (by decide)) rfl (takes_of rfl rfl rfl rfl) (das_cons (de_op addF_ok addF_ne op_addD (dr (de_op divF_ok divF_ne op_fdivA (dr (de_var 2)) (dr (de_op addF_ok addF_ne op_addD (dr (de_var 5)) (dr de_int))))) (dr (de_op mulF_ok mulF_ne op_mulA (dr de_int) (dr (de_var 5))))) das_nil))) (dr (de_ix (dr (de_var 3)) (dr (de_var 5)) (fun _ _ => rfl)))))) (dss_cons (ds_asg (i := 6) free0 sc__law_told.nd rfl (Or.inl rfl) de_dict0) (dss_cons (ds_frz 3 (ds_for (passes_of rfl) rfl (di_rev rfl T.b_reversed (dv (de_var 3))) (dg_name (i := 7) free0 sc__law_told.nd rfl (Or.inl rfl)) (dss_one (ds_setI (i := 6) hr (dv (de_gx hr (dr (de_var 4)) (dr (de_var 7)) (fun _ _ => rfl))) (dr (de_var 7)))))) (dss_cons (ds_frz 4 (ds_frz 3 (ds_asg (i := 8) free0 sc__law_told.nd rfl (Or.inl rfl) (de_callF F__law_text (hr.mono (by decide)) rfl (takes_of rfl rfl rfl rfl) (das_cons (de_var 3) (das_cons (de_var 4) das_nil)))))) (dss_cons (ds_frz 6 (ds_if (dt_w (dw_or (dt_cmp neF_ok neF_ne (op_neD hr.units) (dr (de_callF F_show_plan (hr.mono (by decide)) rfl (takes_of rfl rfl rfl rfl) (das_cons (de_var 0) (das_cons (de_var 1) (das_cons (de_var 6) das_nil))))) (dr (de_var 8)) (nomark _)) (dw_or (dt_cmp neD_ok neD_ne (op_neDict hr) (dr (de_var 6)) (dr (de_var 4)) (nomark _)) (dw_or1 (dt_cmp neF_ok neF_ne (op_neD hr.units) (dr (de_callF F_show_plan (hr.mono (by decide)) rfl (takes_of rfl rfl rfl rfl) (das_cons (de_var 0) (das_cons (de_var 1) (das_cons (de_var 6) das_nil))))) (dr (de_var 8)) (nomark _)))))) (dss_one (ds_ret de_bl)) dss_nil)) (dss_cons (ds_frz 4 (ds_asg (i := 9) free0 sc__law_told.nd rfl (Or.inl rfl) (de_callF F__law_text (hr.mono (by decide)) rfl (takes_of rfl rfl rfl rfl) (das_cons (de_comp (own := [("_law_k", 5)]) frees0 rfl sc__law_told.nd (di_range1 rfl T.b_range (da_cons (dv (de_callB lenF_ok call_len rfl T.b_len (by decide +kernel) (drl_cons (dr (de_var 3)) drl_nil))) da_nil)) (blkOk_by (N := N__law_told) (sc := defScope s__law_told) (own := [("_law_k", 5)]) (by decide +kernel)) (by decide) (fun _ _ _ _ _ => (dg_name (i := 5) free0 sc__law_told.nd rfl (Or.inl rfl))) (fun _ _ _ _ _ => dif_nil) (fun _ _ _ _ _ => (dv (de_ix (dr (de_var 3)) (dr (de_op modF_ok modF_ne op_modN (dr (de_op addF_ok addF_ne op_addD (dr (de_var 5)) (dr (de_var 2)))) (dr (de_callB lenF_ok call_len rfl T.b_len (by decide +kernel) (drl_cons (dr (de_var 3)) drl_nil))))) (fun _ _ => rfl))))) (das_cons (de_var 4) das_nil))))) (dss_cons (ds_frz 9 (ds_frz 8 (ds_for (passes_of rfl) rfl (di_seq (dv (de_tup (da_cons (dv (de_var 8)) (da_cons (dv (de_var 9)) (da_cons (dv (de_var 8)) da_nil)))))) (dg_name (i := 10) free0 sc__law_told.nd rfl (Or.inl rfl)) (dss_cons (ds_asg (i := 11) free0 sc__law_told.nd rfl (Or.inl rfl) (de_callF F_read_plan (hr.mono (by decide)) rfl (takes_of rfl rfl rfl rfl) (das_cons (de_var 0) (das_cons (de_var 1) (das_cons (de_var 10) das_nil))))) (dss_cons (ds_frz 4 (ds_if (dt_w (dw_or (dt_not (dt_val (de_lock 11 (de_callF F__law_alike (hr.mono (by decide)) rfl (takes_of rfl rfl rfl rfl) (das_cons (de_var 11) (das_cons (de_var 4) das_nil)))))) (dw_or1 (dt_cmp neF_ok neF_ne (op_neD hr.units) (dr (de_lock 11 (de_callF F_show_plan (hr.mono (by decide)) rfl (takes_of rfl rfl rfl rfl) (das_cons (de_var 0) (das_cons (de_var 1) (das_cons (de_var 11) das_nil)))))) (dr (de_var 8)) (nomark _))))) (dss_one (ds_ret de_bl)) dss_nil)) (dss_one (ds_setI (i := 11) hr (dv (de_tup da_nil)) (dr de_str)))))))) (dss_one (ds_ret de_bl)))))))))))
set_option maxHeartbeats 4000000 in
theorem ok__law_cards (T : Txt K mg ec) (F__law_alike : Fd P w K mg base ec "_law_alike" P__law_alike 1 d__law_alike) (F_read_plan : Fd P w K mg base ec "read_plan" P_read_plan 8 Pg.d_read_plan) (F_show_plan : Fd P w K mg base ec "show_plan" P_show_plan 8 Pg.d_show_plan) (F_folded : Fd P w K mg base ec "folded" P_folded 13 (Pg.d_folded 8)) (L : Ln K mg "_law_cards" s__law_cards P__law_cards) : Fd P w K mg base ec "_law_cards" P__law_cards 14 d__law_cards := by
  refine fd_of (N := N__law_cards) sc__law_cards L fun cdv A outer s H E hr => ?_
  unfold b__law_cards
  exact (dss_cons (ds_asg (i := 0) free0 sc__law_cards.nd rfl (Or.inl rfl) (de_tup (da_cons (dv de_str) (da_cons (dv de_str) (da_cons (dv (de_tup (da_cons (dv (de_tup (da_cons (dv (de_tup (da_cons (dv de_int) (da_cons (dv de_int) da_nil)))) (da_cons (dv (de_tup (da_cons (dv de_str) (da_cons (dv (de_tup (da_cons (dv de_int) (da_cons (dv de_int) da_nil)))) da_nil)))) da_nil)))) (da_cons (dv (de_tup (da_cons (dv (de_tup (da_cons (dv de_int) (da_cons (dv de_int) da_nil)))) (da_cons (dv (de_tup (da_cons (dv de_str) (da_cons (dv (de_tup (da_cons (dv de_int) (da_cons (dv de_int) da_nil)))) da_nil)))) da_nil)))) da_nil)))) da_nil))))) (dss_cons (ds_asg (i := 1) free0 sc__law_cards.nd rfl (Or.inl rfl) (de_tup (da_cons (dv de_str) (da_cons (dv de_int) (da_cons (dv de_str) (da_cons (dv (de_tup (da_cons (dv (de_tup (da_cons (dv de_str) (da_cons (dv (de_tup (da_cons (dv de_str) (da_cons (dv (de_tup (da_cons (dv de_int) (da_cons (dv de_int) da_nil)))) da_nil)))) da_nil)))) (da_cons (dv (de_tup (da_cons (dv de_str) (da_cons (dv (de_tup (da_cons (dv de_str) (da_cons (dv (de_tup (da_cons (dv de_int) (da_cons (dv de_int) da_nil)))) da_nil)))) da_nil)))) da_nil)))) da_nil)))))) (dss_cons (ds_asg (i := 2) free0 sc__law_cards.nd rfl (Or.inl rfl) (de_callF F_folded (hr.mono (by decide)) rfl (takes_of rfl rfl rfl rfl) (das_cons (de_tup (da_cons (dv de_str) (da_cons (dv de_str) (da_cons (dv (de_tup (da_cons (dv (de_tup (da_cons (dv (de_tup (da_cons (dv de_int) (da_cons (dv de_int) da_nil)))) (da_cons (dv (de_var 0)) da_nil)))) (da_cons (dv (de_tup (da_cons (dv (de_tup (da_cons (dv de_int) (da_cons (dv de_int) da_nil)))) (da_cons (dv (de_var 1)) da_nil)))) da_nil)))) da_nil)))) das_nil))) (dss_cons (ds_frz 2 (ds_if (dt_w (dw_or (dt_cmp neF_ok neF_ne (op_neD hr.units) (dr (de_callF F_show_plan (hr.mono (by decide)) rfl (takes_of rfl rfl rfl rfl) (das_cons (de_var 2) (das_cons de_int (das_cons (de_disp (dps_cons (dv de_str) (dv (de_tup (da_cons (dv (de_tup (da_cons (dv de_int) (da_cons (dv de_int) da_nil)))) (da_cons (dv (de_tup (da_cons (dv de_int) (da_cons (dv de_int) da_nil)))) da_nil)))) dps_nil)) das_nil))))) (dr de_str) (nomark _)) (dw_or1 (dt_cmp neF_ok neF_ne (op_neD hr.units) (dr (de_callF F_show_plan (hr.mono (by decide)) rfl (takes_of rfl rfl rfl rfl) (das_cons (de_var 2) (das_cons de_int (das_cons de_dict0 das_nil))))) (dr de_str) (nomark _))))) (dss_one (ds_ret de_bl)) dss_nil)) (dss_one (ds_frz 2 (ds_ret (de_and (de_callF F__law_alike (hr.mono (by decide)) rfl (takes_of rfl rfl rfl rfl) (das_cons (de_callF F_read_plan (hr.mono (by decide)) rfl (takes_of rfl rfl rfl rfl) (das_cons (de_var 2) (das_cons de_int (das_cons de_str das_nil)))) (das_cons (de_disp (dps_cons (dv de_str) (dv (de_tup (da_cons (dv (de_tup (da_cons (dv de_int) (da_cons (dv de_int) da_nil)))) (da_cons (dv (de_tup (da_cons (dv de_int) (da_cons (dv de_int) da_nil)))) da_nil)))) dps_nil)) das_nil))) (de_one (de_cmp eqD_ok eqD_ne (op_eqDict hr) (dr (de_callF F_read_plan (hr.mono (by decide)) rfl (takes_of rfl rfl rfl rfl) (das_cons (de_var 2) (das_cons de_int (das_cons de_str das_nil))))) (dr de_dict0) (nomark _)))))))))))
set_option maxHeartbeats 4000000 in
theorem ok_law (T : Txt K mg ec) (F__law_cards : Fd P w K mg base ec "_law_cards" P__law_cards 14 d__law_cards) (F_show_plan : Fd P w K mg base ec "show_plan" P_show_plan 8 Pg.d_show_plan) (F_read_plan : Fd P w K mg base ec "read_plan" P_read_plan 8 Pg.d_read_plan) (F__law_told : Fd P w K mg base ec "_law_told" P__law_told 10 d__law_told) (F__law_game : Fd P w K mg base ec "_law_game" P__law_game 2 d__law_game) (F__law_numbers : Fd P w K mg base ec "_law_numbers" P__law_numbers 2 d__law_numbers) {fa : Addr} {fd : FuncData} (L : Fun K "law" "law" s_law fa fd) : FnOk P w K mg base (L2.CX P w) 15 fa fd P_law (spD ⟨⟨K, w⟩, ec, fun _ _ => False, []⟩ d_law) := by
  refine fnok_of (N := N_law) sc_law L fun cdv A outer s H E hr => ?_
  unfold b_law
  exact (dss_cons (ds_asg (i := 1) free0 sc_law.nd rfl (Or.inl rfl) (de_callF F__law_numbers (hr.mono (by decide)) rfl (takes_of rfl rfl rfl rfl) (das_cons (de_var 0) das_nil))) (dss_cons (ds_frz 1 (ds_asg (i := 2) free0 sc_law.nd rfl (Or.inl rfl) (de_callF F__law_game (hr.mono (by decide)) rfl (takes_of rfl rfl rfl rfl) (das_cons (de_var 1) das_nil)))) (dss_cons (ds_frz 2 (ds_if (dt_w (dw_or (dt_not (dt_val (de_callF F__law_told (hr.mono (by decide)) rfl (takes_of rfl rfl rfl rfl) (das_cons (de_var 2) (das_cons de_int (das_cons (de_ix (dr (de_var 1)) (dr de_int) (fun _ _ => rfl)) das_nil)))))) (dw_or1 (dt_not (dt_val (de_callF F__law_told (hr.mono (by decide)) rfl (takes_of rfl rfl rfl rfl) (das_cons (de_var 2) (das_cons de_int (das_cons (de_ix (dr (de_var 1)) (dr de_int) (fun _ _ => rfl)) das_nil))))))))) (dss_one (ds_ret de_bl)) dss_nil)) (dss_cons (ds_asg (i := 3) free0 sc_law.nd rfl (Or.inl rfl) (de_ix (dr (de_ix (dr (de_ix (dr (de_ix (dr (de_var 2)) (dr de_int) (fun _ _ => rfl))) (dr de_int) (fun _ _ => rfl))) (dr de_int) (fun _ _ => rfl))) (dr de_int) (fun _ _ => rfl))) (dss_cons (ds_asg (i := 4) free0 sc_law.nd rfl (Or.inl rfl) (de_tup (da_cons (dv de_str) (da_cons (dv (de_var 3)) (da_cons (dv de_str) (da_cons (dv (de_tup (da_cons (dv (de_tup (da_cons (dv (de_op addF_ok addF_ne op_addD (dr de_str) (dr (de_callT strF_ok call_str_int rfl T.b_str (by decide +kernel) (drl_cons (dr (de_op modF_ok modF_ne op_modN (dr (de_ix (dr (de_var 1)) (dr de_int) (fun _ _ => rfl))) (dr de_int))) drl_nil))))) (da_cons (dv (de_tup (da_cons (dv de_str) (da_cons (dv (de_tup (da_cons (dv (de_op modF_ok modF_ne op_modN (dr (de_ix (dr (de_var 1)) (dr de_int) (fun _ _ => rfl))) (dr de_int))) (da_cons (dv de_int) da_nil)))) da_nil)))) da_nil)))) da_nil))) da_nil)))))) (dss_cons (ds_asg (i := 5) free0 sc_law.nd rfl (Or.inl rfl) (de_callF F_read_plan (hr.mono (by decide)) rfl (takes_of rfl rfl rfl rfl) (das_cons (de_var 4) (das_cons (de_op subF_ok subF_ne op_sub (dr de_int) (dr (de_var 3))) (das_cons de_str das_nil))))) (dss_cons (ds_if (dt_w (dw_or (dt_cmp neD_ok neD_ne (op_neDict hr) (dr (de_var 5)) (dr de_dict0) (nomark _)) (dw_or (dt_not (dt_val (de_isi rfl T.b_isinstance rfl T.b_dict (by decide +kernel) (dr (de_var 5))))) (dw_or1 (dt_cmp neF_ok neF_ne (op_neD hr.units) (dr (de_callF F_show_plan (hr.mono (by decide)) rfl (takes_of rfl rfl rfl rfl) (das_cons (de_var 4) (das_cons (de_op subF_ok subF_ne op_sub (dr de_int) (dr (de_var 3))) (das_cons de_dict0 das_nil))))) (dr de_str) (nomark _)))))) (dss_one (ds_ret de_bl)) dss_nil) (dss_one (ds_ret (de_call0 F__law_cards (hr.mono (by decide)) rfl (takes_of rfl rfl rfl rfl)))))))))))
end
set_option exponentiation.threshold 20000
open PySem L2 DL Pg TL
/-! numbers -/
theorem cell_ok (N : List Int) (k : Nat) : ∃ x : Int, d__law_cell_at [.val (.list (N.map PyData.int)), .val (.int (k : Int))] = .ok (.val (.int x)) := by
  by_cases h : k < N.length
  · have a1 : atI (N.map PyData.int) (k : Int) = some (.int N[k]) := by rw [atI_of (by simpa using h)]; simp
    exact ⟨N[k], by simp [d__law_cell_at, mDef, b__law_cell_at, start0, h, a1]⟩
  · exact ⟨0, by simp [d__law_cell_at, mDef, b__law_cell_at, start0, h]⟩
def XS (x : Nat → Int) : List PyData := (List.range 40).map fun i => PyData.int (x i)
theorem xs_at {x : Nat → Int} {i : Nat} (h : i < 40) : ixF (.list (XS x)) (.int (i : Int)) = .ok (.val (.int (x i))) := by
  have a : atI (XS x) (i : Int) = some (.int (x i)) := by rw [atI_of (by simpa [XS] using h)]; simp [XS]
  simp [a]
theorem numbers_ok70 (ns : List Int) : ∃ x : Nat → Int, (∀ i, 0 ≤ x i ∧ x i < 1000003) ∧ d__law_numbers [.val (.list (ns.map PyData.int))] = .ok (.own (.list (XS x))) := by
  have F := fun k => cell_ok ns k
  let c : Nat → Int := fun k => Classical.choose (F k)
  have hc : ∀ k : Nat, d__law_cell_at [.val (.list (ns.map PyData.int)), .val (.int (k : Int))] = .ok (.val (.int (c k))) := fun k => Classical.choose_spec (F k)
  clear_value c
  refine ⟨fun k => (c k % 1000000007 + 53 * (k : Int) * (k : Int) + 23 * (k : Int) + 6) * 45991 % 1000003, fun i => ⟨Int.emod_nonneg _ (by decide), Int.emod_lt_of_pos _ (by decide)⟩, ?_⟩
  have ec : ∀ m, m = mV (mB modF (mR (mB mulF (mR (mB addF (mR (mB addF (mR (mB addF (mR (mB modF (mR (mCall d__law_cell_at (mACons (mVar 0) (mACons (mVar 1) mANil)))) (mR (mC (.int 1000000007))))) (mR (mB mulF (mR (mB mulF (mR (mC (.int 53))) (mR (mVar 1)))) (mR (mVar 1)))))) (mR (mB mulF (mR (mC (.int 23))) (mR (mVar 1)))))) (mR (mC (.int 6))))) (mR (mC (.int 45991))))) (mR (mC (.int 1000003)))) → compR (mgN 1) mYes m [some (.val (.list (ns.map PyData.int))), none] (rng 0 40) = .ok (XS fun k => (c k % 1000000007 + 53 * (k : Int) * (k : Int) + 23 * (k : Int) + 6) * 45991 % 1000003) := by
    rintro m rfl
    refine compR_map fun k hk => ⟨_, rfl, rfl, ?_⟩
    have hk' := List.mem_range.mp hk
    have a3 : -18446744073709551616 < (k : Int) := by omega
    have a4 : (k : Int) < 18446744073709551616 := by omega
    simp [hc, a3, a4]
  have ec' := ec _ rfl
  have e1 : rng1 [.int 40] = .ok (rng 0 40) := rng1_simp (n := 40) (by omega)
  have e2 : fits (rng 0 40) = true := fits_of (by simp [rng])
  simp [d__law_numbers, mDef, b__law_numbers, start0, e1, e2, ec']
/-! shares -/
theorem div_gcd {t b z : Nat} (hb : 0 < b) (hs : b < 2 ^ 100) : divF (.int (z : Int)) (.int ((Nat.gcd b t : Nat) : Int)) = .ok (.val (.int ((z / Nat.gcd b t : Nat) : Int))) := by
  have h1 : 0 < Nat.gcd b t := Nat.gcd_pos_of_pos_left _ hb
  have h2 : Nat.gcd b t ≤ b := Nat.gcd_le_left _ hb
  rw [divF_pos (by omega) (by
    rw [Int.natAbs_natCast]
    exact Nat.lt_trans (log2_lt (k := 100) (by decide) (Nat.lt_of_le_of_lt h2 hs)) (by decide))]
  rfl
theorem divisor_ok70 (b t : Nat) : d__law_divisor [.val (.int (b : Int)), .val (.int (t : Int))] = .ok (.val (.int ((Nat.gcd b t : Nat) : Int))) := by
  obtain ⟨r', e⟩ := gcd_loop t b none
  have e' : mWhile C__law_divisor_1 L__law_divisor_2 [some (.val (.int (b : Int))), some (.val (.int (t : Int))), none] = .nx [some (.val (.int (Nat.gcd b t : Nat))), some (.val (.int 0)), r'] := e
  have e0 : d__law_divisor [.val (.int (b : Int)), .val (.int (t : Int))] = (b__law_divisor [some (.val (.int (b : Int))), some (.val (.int (t : Int))), none]).res := rfl
  rw [e0]
  unfold b__law_divisor
  rw [seq_nx e']
  simp
theorem qD_nat {t b : Nat} (hb : 0 < b) : qD (Rat.divInt t b) = .tuple [.int ((t / Nat.gcd b t : Nat) : Int), .int ((b / Nat.gcd b t : Nat) : Int)] := by
  rw [qD_low (by omega)]
  have : Int.gcd (t : Int) (b : Int) = Nat.gcd b t := by rw [Int.gcd_natCast_natCast, Nat.gcd_comm]
  rw [this]
  rfl
theorem pair_shares {t b : Nat} (hb : 0 < b) (ht : t ≤ b) : Shares [Rat.divInt t b, Rat.divInt (b - t : Nat) b] 2 := by
  have hb' : (b : Int) ≠ 0 := by omega
  refine ⟨rfl, fun q hq => ?_, ?_⟩
  · simp only [List.mem_cons, List.not_mem_nil, or_false] at hq
    rcases hq with rfl | rfl
    · exact Rat.divInt_nonneg (by omega) (by omega)
    · exact Rat.divInt_nonneg (by omega) (by omega)
  · show Rat.divInt t b + (Rat.divInt (b - t : Nat) b + 0) = 1
    rw [Rat.add_zero]
    rw [Rat.divInt_add_divInt _ _ hb' hb']
    have : (t : Int) * (b : Int) + ((b - t : Nat) : Int) * (b : Int) = (b : Int) * (b : Int) := by
      rw [← Int.add_mul]
      congr 1
      omega
    rw [this, Rat.divInt_self' (Int.mul_ne_zero hb' hb')]
theorem sz_pair {t b : Nat} (hb : 0 < b) (ht : t ≤ b) (h : b < 2 ^ 40) : Sz 40 (Rat.divInt t b) := sz_divInt (by omega) (by omega) (by omega)
theorem fig_pair {t b : Nat} (hb : 0 < b) (ht : t ≤ b) (h : b < 2 ^ 40) : Fig 30 (Rat.divInt t b) := by
  obtain ⟨h1, h2⟩ := sz_pair hb ht h
  have : (2 : Nat) ^ 40 < 10 ^ 30 := by decide
  exact ⟨by omega, by omega⟩
theorem shares_ok70 (x : Nat) (hx : x < 1000000000) : ∃ t b : Nat, 0 < b ∧ t ≤ b ∧ b < 2 ^ 40 ∧ d__law_shares [.val (.int (x : Int))] = .ok (.val (.tuple [qD (Rat.divInt t b), qD (Rat.divInt (b - t : Nat) b)])) := by
  have main : ∀ b : Nat, 0 < b → b < 2 ^ 40 → ∃ t, t ≤ b ∧ (mSeq (mAsg 2 (mB modF (mR (mB mulF (mR (mB divF (mR (mVar 0)) (mR (mC (.int 12))))) (mR (mC (.int 9973))))) (mR (mB addF (mR (mVar 1)) (mR (mC (.int 1))))))) (mSeq (mAsg 3 (mCall d__law_divisor (mACons (mVar 1) (mACons (mVar 2) mANil)))) (mRet (mTup (mCons (mV (mTup (mCons (mV (mB divF (mR (mVar 2)) (mR (mVar 3)))) (mCons (mV (mB divF (mR (mVar 1)) (mR (mVar 3)))) mNil)))) (mCons (mV (mTup (mCons (mV (mB divF (mR (mB subF (mR (mVar 1)) (mR (mVar 2)))) (mR (mVar 3)))) (mCons (mV (mB divF (mR (mVar 1)) (mR (mVar 3)))) mNil)))) mNil)))))) [some (.val (.int (x : Int))), some (.val (.int (b : Int))), none, none] = .rt (.val (.tuple [qD (Rat.divInt t b), qD (Rat.divInt (b - t : Nat) b)])) [some (.val (.int (x : Int))), some (.val (.int (b : Int))), some (.val (.int (t : Int))), some (.val (.int ((Nat.gcd b t : Nat) : Int)))] := by
    intro b hb hb2
    refine ⟨x / 12 * 9973 % (b + 1), by have := Nat.mod_lt (x / 12 * 9973) (show 0 < b + 1 by omega); omega, ?_⟩
    have ht : x / 12 * 9973 % (b + 1) ≤ b := by have := Nat.mod_lt (x / 12 * 9973) (show 0 < b + 1 by omega); omega
    have e1 : modF (.int ((x : Int) / 12 * 9973)) (.int ((b : Int) + 1)) = .ok (.val (.int ((x / 12 * 9973 % (b + 1) : Nat) : Int))) := by rw [modF_pos (by omega)]; rfl
    generalize x / 12 * 9973 % (b + 1) = t at *
    have e2 := divisor_ok70 b t
    have e3 := div_gcd (t := t) (z := t) hb (Nat.lt_trans hb2 (by decide))
    have e4 := div_gcd (t := t) (z := b) hb (Nat.lt_trans hb2 (by decide))
    have e5 := div_gcd (t := t) (z := b - t) hb (Nat.lt_trans hb2 (by decide))
    have e6 : (b : Int) - (t : Int) = ((b - t : Nat) : Int) := by omega
    have eg : Nat.gcd b (b - t) = Nat.gcd b t := by
      refine Nat.dvd_antisymm (Nat.dvd_gcd (Nat.gcd_dvd_left _ _) ?_) (Nat.dvd_gcd (Nat.gcd_dvd_left _ _) (Nat.dvd_sub (Nat.gcd_dvd_left _ _) (Nat.gcd_dvd_right _ _)))
      have h := Nat.dvd_sub (Nat.gcd_dvd_left b (b - t)) (Nat.gcd_dvd_right b (b - t))
      have e : b - (b - t) = t := by omega
      rwa [e] at h
    rw [qD_nat hb, qD_nat hb, eg]
    rw [seq_nx (δ' := [some (.val (.int (x : Int))), some (.val (.int (b : Int))), some (.val (.int (t : Int))), none]) (by simp [e1]),
      seq_nx (δ' := [some (.val (.int (x : Int))), some (.val (.int (b : Int))), some (.val (.int (t : Int))), some (.val (.int ((Nat.gcd b t : Nat) : Int)))]) (by simp [e2])]
    simp [e3, e4, e5, e6, fits_of]
  have e0 : d__law_shares [.val (.int (x : Int))] = (b__law_shares [some (.val (.int (x : Int))), none, none, none]).res := rfl
  rw [e0]
  unfold b__law_shares
  rw [seq_nx (δ' := [some (.val (.int (x : Int))), some (.val (.int (1 + (x : Int) % 12))), none, none]) (by simp)]
  by_cases h : (x : Int) % 5 = 4
  · obtain ⟨t, ht, e⟩ := main (10000000001 + x) (by omega) (by omega)
    refine ⟨t, _, by omega, ht, by omega, ?_⟩
    rw [seq_nx (δ' := [some (.val (.int (x : Int))), some (.val (.int ((10000000001 + x : Nat) : Int))), none, none]) (by simp [h]), e]
    rfl
  · obtain ⟨t, ht, e⟩ := main (1 + x % 12) (by omega) (by omega)
    refine ⟨t, _, by omega, ht, by omega, ?_⟩
    have eb : 1 + (x : Int) % 12 = ((1 + x % 12 : Nat) : Int) := by omega
    rw [seq_nx (δ' := [some (.val (.int (x : Int))), some (.val (.int ((1 + x % 12 : Nat) : Int))), none, none]) (by simp [h]), e]
    rfl
/-! the names seen -/
theorem seen_own (s : Int) (w : List Int) (g : Gm) (r : Rc) : nmsOf s (seenP (w, g, r)) = nmsOf s [(w, g, r)] ++ nmsOf s ((kidsR (w, g, r)).flatMap seenP) := by
  rw [← nmsOf_app, seenP_eq]
  rfl
theorem seen_loop {G : PyData} {s : Int} {rc : F} {rows : List (PyData × Gm)} {kids : List Pc} (hk : kids.map (·.2.1) = rows.map (·.2)) (own : List Str) (hown : ∀ z ∈ own, PyData.strOk z = true) (hr : ∀ x ∈ kids, rc [.val x.2.1.d, .val (.int s)] = .ok (.own (.list ((dd (nmsOf s (seenP x))).map PyData.str)))) (hs : ∀ x ∈ kids, ∀ z ∈ nmsOf s (seenP x), PyData.strOk z = true) (hL : own.length + (kids.flatMap seenP).length ≤ 5000) :
    ∀ (o3 o4 : Option DL.Slot), ∃ o3' o4', loopO (mgT 2 (mgCons (mgN 3) (mgCons (mgN 4) mgNil))) (L__law_seen_1 rc) (rows.map fun w => .tuple [w.1, w.2.d]) [some (.val G), some (.val (.int s)), some (.own (.list (own.map PyData.str))), o3, o4, none] = .nx [some (.val G), some (.val (.int s)), some (.own (.list ((ddF own (nmsOf s (kids.flatMap seenP))).map PyData.str))), o3', o4', none] := by
  induction rows generalizing kids own with
  | nil =>
    have : kids = [] := by simpa using hk
    subst this
    intro o3 o4
    exact ⟨o3, o4, rfl⟩
  | cons w rows ih =>
    obtain ⟨x, kids', rfl⟩ : ∃ x kids', kids = x :: kids' := by
      cases kids with
      | nil => simp at hk
      | cons x k => exact ⟨x, k, rfl⟩
    intro o3 o4
    simp only [List.map_cons, List.cons.injEq] at hk
    have e1 := hr x List.mem_cons_self
    have hsx := hs x List.mem_cons_self
    rw [hk.1] at e1
    rw [List.flatMap_cons, List.length_append] at hL
    have hl1 := nmsOf_len s (seenP x)
    have hl2 := ddF_len (nmsOf s (seenP x)) []
    have hl3 := ddF_len (nmsOf s (seenP x)) own
    have hnew : ∀ z ∈ ddF own (nmsOf s (seenP x)), PyData.strOk z = true := fun z hz => by
      rcases ddF_mem.mp hz with h | h
      · exact hown z h
      · exact hsx z h
    obtain ⟨o3', o4', e2⟩ := ih (kids := kids') hk.2 (ddF own (nmsOf s (seenP x))) hnew (fun y hy => hr y (List.mem_cons_of_mem _ hy)) (fun y hy => hs y (List.mem_cons_of_mem _ hy)) (by omega) (some (.val w.1)) (some (.val w.2.d))
    refine ⟨o3', o4', ?_⟩
    rw [List.flatMap_cons, nmsOf_app, ddF_app, ← e2, List.map_cons, loopO_cons]
    have hD : ∀ z ∈ dd (nmsOf s (seenP x)), PyData.strOk z = true := fun z hz => hsx z (dd_mem.mp hz)
    have hc : compR (mgN 5) (mTest (mB (inF true) (mR (mVar 5)) (mR (mVar 2)))) (mV (mVar 5)) [some (.val G), some (.val (.int s)), some (.own (.list (own.map PyData.str))), some (.val w.1), some (.val w.2.d), none] ((dd (nmsOf s (seenP x))).map PyData.str) = .ok (((dd (nmsOf s (seenP x))).filter fun z => decide (z ∉ own)).map PyData.str) := compR_filter fun z hz => ⟨_, rfl, by simp [inF_strs (hD z hz) hown], fun _ => by simp⟩
    have hf : fits ((dd (nmsOf s (seenP x))).map PyData.str) = true := fits_of (by rw [List.length_map]; simp only [dd, List.length_nil] at hl2 ⊢; omega)
    have ha : addF (.list (own.map PyData.str)) (.list (((dd (nmsOf s (seenP x))).filter fun z => decide (z ∉ own)).map PyData.str)) = .ok (.own (.list ((ddF own (nmsOf s (seenP x))).map PyData.str))) := by
      rw [addF_list (by
        rw [List.length_map, List.length_map]
        have := List.length_filter_le (fun z => decide (z ∉ own)) (dd (nmsOf s (seenP x)))
        simp only [dd, List.length_nil] at hl2 this ⊢
        omega), ← List.map_append, ← ddF_eq]
    generalize (dd (nmsOf s (seenP x))).map PyData.str = D at *
    generalize ((dd (nmsOf s (seenP x))).filter fun z => decide (z ∉ own)).map PyData.str = D' at *
    generalize (ddF own (nmsOf s (seenP x))).map PyData.str = D2 at *
    generalize own.map PyData.str = O at *
    have es : L__law_seen_1 rc [some (.val G), some (.val (.int s)), some (.own (.list O)), some (.val w.1), some (.val w.2.d), none] = .nx [some (.val G), some (.val (.int s)), some (.own (.list D2)), some (.val w.1), some (.val w.2.d), none] := by
      unfold L__law_seen_1
      simp [e1, hc, hf, ha]
    simp [es]
theorem le_sumN {x : Nat} : ∀ {xs : List Nat}, x ∈ xs → x ≤ xs.sum
  | y :: xs, h => by
    rcases List.mem_cons.mp h with rfl | h
    · simp
    · have := le_sumN h
      simp only [List.sum_cons]
      omega
theorem seen_ok70 {s : Int} : ∀ {n : Nat} {g : Gm}, g.Good n → Gm.All (fun g => ∀ s nm ws, g = .move s nm ws → PyData.strOk nm = true) g → g.many ≤ 300 → ∀ m, n < m → ∀ w r, d__law_seen m [.val g.d, .val (.int s)] = .ok (.own (.list ((dd (nmsOf s (seenP (w, g, r)))).map PyData.str)))
  | n, g, hg, ha, hm, 0, h, _, _ => absurd h (by omega)
  | n, g, hg, ha, hm, m + 1, h, w, r => by
    have e0 : d__law_seen (m + 1) [.val g.d, .val (.int s)] = (b__law_seen (d__law_seen m) [some (.val g.d), some (.val (.int s)), none, none, none, none]).res := rfl
    rw [e0, seen_own]
    have hstr : ∀ x ∈ seenP (w, g, r), ∀ z ∈ nmsOf s [x], PyData.strOk z = true := by
      intro x hx z hz
      have hax := (Gm.All.seen (x := (w, g, r)) ha x hx).here
      obtain ⟨w', g', r'⟩ := x
      cases g' with
      | fin q => simp [nmsOf, keyP] at hz
      | deal nm ws => simp [nmsOf, keyP] at hz
      | move s' nm ws =>
        have := hax s' nm ws rfl
        by_cases h : s' = s
        · simp [nmsOf, keyP, h] at hz
          rw [hz]; exact this
        · simp [nmsOf, keyP, h] at hz
    have hkids : ∀ x ∈ kidsR (w, g, r), d__law_seen m [.val x.2.1.d, .val (.int s)] = .ok (.own (.list ((dd (nmsOf s (seenP x))).map PyData.str))) := by
      intro x hx
      have hp := kidsR_mem hx
      obtain ⟨k, rfl, hgk⟩ := hg.part hp
      have hmk : x.2.1.many ≤ 300 := by
        have := Gm.many_eq g
        have h2 : x.2.1.many ≤ (g.parts.map Gm.many).sum := le_sumN (List.mem_map.mpr ⟨_, hp, rfl⟩)
        omega
      exact seen_ok70 hgk (ha.part _ hp) hmk m (by omega) x.1 x.2.2
    have hsub : ∀ x ∈ kidsR (w, g, r), ∀ y ∈ seenP x, y ∈ seenP (w, g, r) := fun x hx y hy => by
      rw [seenP_eq]
      exact List.mem_cons_of_mem _ (List.mem_flatMap.mpr ⟨x, hx, hy⟩)
    have hstrk : ∀ x ∈ kidsR (w, g, r), ∀ z ∈ nmsOf s (seenP x), PyData.strOk z = true := by
      intro x hx z hz
      have : ∀ ps : List Pc, (∀ y ∈ ps, y ∈ seenP (w, g, r)) → ∀ z ∈ nmsOf s ps, PyData.strOk z = true := by
        intro ps
        induction ps with
        | nil => intro _ z hz; simp [nmsOf] at hz
        | cons y ps ih =>
          intro hps z hz
          have : y :: ps = [y] ++ ps := rfl
          rw [this, nmsOf_app] at hz
          rcases List.mem_append.mp hz with hz | hz
          · exact hstr y (hps y List.mem_cons_self) z hz
          · exact ih (fun q hq => hps q (List.mem_cons_of_mem _ hq)) z hz
      exact this _ (hsub x hx) z hz
    have hlen : ((kidsR (w, g, r)).flatMap seenP).length ≤ 300 := by
      have := seenP_len (w, g, r)
      rw [seenP_eq, List.length_cons] at this
      simp only at this
      omega
    have hk : (kidsR (w, g, r)).map (·.2.1) = g.rows.map (·.2) := by
      unfold kidsR
      rw [kidsRAt_map2, Gm.brs_parts, Gm.parts_rows]
    have hit : ∀ δ : DEnv, g.isFin = false → δ[0]? = some (some (.val g.d)) → miQ (mV (mB ixF (mR (mVar 0)) (mR (mU negF (mR (mC (.int 1))))))) δ = .ok (g.rows.map fun w => .tuple [w.1, w.2.d]) := fun δ hf hδ => by
      have := last_at hf
      have hn : negF (.int 1) = .ok (.val (.int (-1))) := rfl
      simp [hδ, this, hn, Gm.rowsD]
    have L := fun (own : List Str) (hown : ∀ z ∈ own, PyData.strOk z = true) (hl : own.length ≤ 1) => seen_loop (G := g.d) (s := s) (rc := d__law_seen m) hk own hown hkids hstrk (by omega)
    cases g with
    | fin q =>
      have : (kidsR (w, Gm.fin q, r)) = [] := rfl
      have en : nmsOf s [(w, Gm.fin q, r)] = [] := rfl
      have en2 : nmsOf s (List.flatMap seenP []) = [] := rfl
      rw [this, Gm.d_fin, en, en2]
      simp [b__law_seen, dd, ddF]
    | deal nm ws =>
      obtain ⟨o3, o4, e⟩ := L [] (by simp) (by simp) none none
      have hit' := hit [some (.val (Gm.deal nm ws).d), some (.val (.int s)), some (.own (.list [])), none, none, none] rfl rfl
      have en : nmsOf s [(w, Gm.deal nm ws, r)] = [] := by simp [nmsOf, keyP]
      rw [en, List.nil_append]
      have ex : ixF (Gm.deal nm ws).d (.int 0) = .ok (.val (.str "deal")) := by rw [Gm.d_deal]; simp
      have ef : dd (nmsOf s ((kidsR (w, Gm.deal nm ws, r)).flatMap seenP)) = ddF [] (nmsOf s ((kidsR (w, Gm.deal nm ws, r)).flatMap seenP)) := rfl
      rw [ef]
      generalize (ddF [] (nmsOf s ((kidsR (w, Gm.deal nm ws, r)).flatMap seenP))).map PyData.str = D at *
      generalize ((Gm.deal nm ws).rows.map fun w => PyData.tuple [w.1, w.2.d]) = R at *
      generalize (Gm.deal nm ws).d = G at *
      simp only [List.map_nil] at e
      unfold b__law_seen
      rw [seq_nx (δ' := [some (.val G), some (.val (.int s)), none, none, none, none]) (by simp [ex]),
        seq_nx (δ' := [some (.val G), some (.val (.int s)), some (.own (.list [])), none, none, none]) (by simp),
        seq_nx (δ' := [some (.val G), some (.val (.int s)), some (.own (.list [])), none, none, none]) (by simp [ex]),
        seq_nx (δ' := [some (.val G), some (.val (.int s)), some (.own (.list D)), o3, o4, none]) (by unfold mFor; rw [hit', out_ok', e])]
      simp
    | move s' nm ws =>
      have hnm : PyData.strOk nm = true := ha.here s' nm ws rfl
      have hit' := fun own => hit [some (.val (Gm.move s' nm ws).d), some (.val (.int s)), some (.own (.list own)), none, none, none] rfl rfl
      have ex : ixF (Gm.move s' nm ws).d (.int 0) = .ok (.val (.str "move")) := by rw [Gm.d_move]; simp
      have ex1 : ixF (Gm.move s' nm ws).d (.int 1) = .ok (.val (.int s')) := by rw [Gm.d_move]; simp
      have ex2 : ixF (Gm.move s' nm ws).d (.int 2) = .ok (.val (.str nm)) := by rw [Gm.d_move]; simp
      by_cases hs : s' = s
      · subst hs
        have en : nmsOf s' [(w, Gm.move s' nm ws, r)] = [nm] := by simp [nmsOf, keyP]
        obtain ⟨o3, o4, e⟩ := L [nm] (by simpa using hnm) (by simp) none none
        rw [en, List.singleton_append, dd_cons0]
        generalize (ddF [nm] (nmsOf s' ((kidsR (w, Gm.move s' nm ws, r)).flatMap seenP))).map PyData.str = D at *
        generalize ((Gm.move s' nm ws).rows.map fun w => PyData.tuple [w.1, w.2.d]) = R at *
        generalize (Gm.move s' nm ws).d = G at *
        simp only [List.map_cons, List.map_nil] at e
        unfold b__law_seen
        rw [seq_nx (δ' := [some (.val G), some (.val (.int s')), none, none, none, none]) (by simp [ex]),
          seq_nx (δ' := [some (.val G), some (.val (.int s')), some (.own (.list [])), none, none, none]) (by simp),
          seq_nx (δ' := [some (.val G), some (.val (.int s')), some (.own (.list [.str nm])), none, none, none]) (by simp [ex, ex1, ex2, fits_of]),
          seq_nx (δ' := [some (.val G), some (.val (.int s')), some (.own (.list D)), o3, o4, none]) (by unfold mFor; rw [hit', out_ok', e])]
        simp
      · have en : nmsOf s [(w, Gm.move s' nm ws, r)] = [] := by simp [nmsOf, keyP, hs]
        obtain ⟨o3, o4, e⟩ := L [] (by simp) (by simp) none none
        rw [en, List.nil_append]
        have ef : dd (nmsOf s ((kidsR (w, Gm.move s' nm ws, r)).flatMap seenP)) = ddF [] (nmsOf s ((kidsR (w, Gm.move s' nm ws, r)).flatMap seenP)) := rfl
        rw [ef]
        generalize (ddF [] (nmsOf s ((kidsR (w, Gm.move s' nm ws, r)).flatMap seenP))).map PyData.str = D at *
        generalize ((Gm.move s' nm ws).rows.map fun w => PyData.tuple [w.1, w.2.d]) = R at *
        generalize (Gm.move s' nm ws).d = G at *
        simp only [List.map_nil] at e
        unfold b__law_seen
        rw [seq_nx (δ' := [some (.val G), some (.val (.int s)), none, none, none, none]) (by simp [ex]),
          seq_nx (δ' := [some (.val G), some (.val (.int s)), some (.own (.list [])), none, none, none]) (by simp),
          seq_nx (δ' := [some (.val G), some (.val (.int s)), some (.own (.list [])), none, none, none]) (by simp [ex, ex1, hs]),
          seq_nx (δ' := [some (.val G), some (.val (.int s)), some (.own (.list D)), o3, o4, none]) (by unfold mFor; rw [hit', out_ok', e])]
        simp
/-! the game -/
theorem names_ok70 (x y : Int) (m : Nat) (hm : m ≤ 8) : d__law_names [.val (.int x), .val (.int y), .val (.int (m : Int))] = .ok (.own (.list (((List.range m).map (nmOf x y)).map PyData.str))) := names_ok x y m hm
theorem qD_5 {s : Int} (h : 1 ≤ s ∧ s ≤ 4) : ∃ q : Rat, qD q = .tuple [.int s, .int 5] := by
  have : s = 1 ∨ s = 2 ∨ s = 3 ∨ s = 4 := by omega
  rcases this with rfl | rfl | rfl | rfl
  · exact ⟨Rat.divInt 1 5, by rw [qD_low (by decide)]; rfl⟩
  · exact ⟨Rat.divInt 2 5, by rw [qD_low (by decide)]; rfl⟩
  · exact ⟨Rat.divInt 3 5, by rw [qD_low (by decide)]; rfl⟩
  · exact ⟨Rat.divInt 4 5, by rw [qD_low (by decide)]; rfl⟩
/-- a game of the law: two words at each move, the first side's moves ahead -/
def GP70 (g : Gm) : Prop := ∀ s nm ws, g = .move s nm ws → (s = 1 ∨ s = 2) ∧ NmOk nm ∧ ws.length = 2
def partG (f : Int) (nms : Nat → Str) (w2 w3 : Str) (sx : Int) (q0 q1 : Rat) (e : Bool) : Gm := if e then .fin q0 else .move (3 - f) (nms sx.toNat) [(w2, .fin q0), (w3, .fin q1)]
theorem game_step {x : Nat → Int} {f sh : Int} {o2 : Option DL.Slot} {ot wd : Nat → Str} {W P : List PyData} {k j : Nat} {o10 o11 o12 : Option DL.Slot} (hk : k < 2) (hj : j < 2) (hx : ∀ i, 0 ≤ x i ∧ x i < 1000003) (hf : f = 1 ∨ f = 2) (hP : P.length < 100) (hot : ∀ i, NmOk (ot i)) (hwd : ∀ i, NmOk (wd i)) :
    ∃ g : Gm, Gm.All GP70 g ∧ g.Good 1 ∧ g.many ≤ 3 ∧ ∃ o10' o11' o12', L__law_game_1 [some (.val (.list (XS x))), some (.val (.int f)), o2, some (.own (.list [.str (ot 0), .str (ot 1)])), some (.own (.list [.str (wd 0), .str (wd 1), .str (wd 2), .str (wd 3)])), some (.val (.int sh)), some (.own (.list W)), some (.val (.int (k : Int))), some (.own (.list P)), some (.val (.int (j : Int))), o10, o11, o12, none] = .nx [some (.val (.list (XS x))), some (.val (.int f)), o2, some (.own (.list [.str (ot 0), .str (ot 1)])), some (.own (.list [.str (wd 0), .str (wd 1), .str (wd 2), .str (wd 3)])), some (.val (.int sh)), some (.own (.list W)), some (.val (.int (k : Int))), some (.own (.list (P ++ [.tuple [.str (wd j), g.d]]))), some (.val (.int (j : Int))), o10', o11', o12', none] := by
  let t : Nat → Int := fun i => x (8 + 4 * k + 2 * j + i) % 15 - 7
  have hc : compR (mgN 13) mYes (mV (mTup (mCons (mV (mB subF (mR (mB modF (mR (mB ixF (mR (mVar 0)) (mR (mB addF (mR (mB addF (mR (mB addF (mR (mC (.int 8))) (mR (mB mulF (mR (mC (.int 4))) (mR (mVar 7)))))) (mR (mB mulF (mR (mC (.int 2))) (mR (mVar 9)))))) (mR (mVar 13)))))) (mR (mC (.int 15))))) (mR (mC (.int 7))))) (mCons (mV (mC (.int 1))) mNil)))) [some (.val (.list (XS x))), some (.val (.int f)), o2, some (.own (.list [.str (ot 0), .str (ot 1)])), some (.own (.list [.str (wd 0), .str (wd 1), .str (wd 2), .str (wd 3)])), some (.val (.int sh)), some (.own (.list W)), some (.val (.int (k : Int))), some (.own (.list P)), some (.val (.int (j : Int))), o10, o11, o12, none] (rng 0 2) = .ok ((List.range 2).map fun i => qD ((t i : Int) : Rat)) := by
    refine compR_map fun i hi => ⟨_, rfl, rfl, ?_⟩
    have hi' := List.mem_range.mp hi
    have ei : (8 + 4 * (k : Int) + 2 * (j : Int) + (i : Int)) = ((8 + 4 * k + 2 * j + i : Nat) : Int) := by omega
    have ex := xs_at (x := x) (i := 8 + 4 * k + 2 * j + i) (by omega)
    rw [← ei] at ex
    generalize XS x = X at *
    rw [qD_int]
    simp [-ixF_list, ex, fits_of, t]
  have e1 : rng1 [.int 2] = .ok (rng 0 2) := rng1_simp (n := 2) (by omega)
  have e2 : fits (rng 0 2) = true := fits_of (by simp [rng])
  have er : ((List.range 2).map fun i => qD ((t i : Int) : Rat)) = [qD ((t 0 : Int) : Rat), qD ((t 1 : Int) : Rat)] := rfl
  rw [er] at hc
  clear_value t
  have x16 : ixF (.list (XS x)) (.int 16) = .ok (.val (.int (x 16))) := xs_at (x := x) (i := 16) (by omega)
  have x17 : ixF (.list (XS x)) (.int 17) = .ok (.val (.int (x 17))) := xs_at (x := x) (i := 17) (by omega)
  have hx16 := hx 16
  obtain ⟨c, hc16, hc3⟩ : ∃ c : Nat, x 16 % 3 = (c : Int) ∧ c < 3 := ⟨(x 16 % 3).toNat, by omega, by omega⟩
  obtain ⟨sx, hsx, es⟩ : ∃ sx : Nat, sx < 2 ∧ ixF (.list [.int 0, .int (j : Int), .int (k : Int)]) (.int (c : Int)) = .ok (.val (.int (sx : Int))) := by
    have : c = 0 ∨ c = 1 ∨ c = 2 := by omega
    rcases this with rfl | rfl | rfl
    · exact ⟨0, by omega, rfl⟩
    · exact ⟨j, hj, rfl⟩
    · exact ⟨k, hk, rfl⟩
  have eot : ixF (.list [.str (ot 0), .str (ot 1)]) (.int (sx : Int)) = .ok (.val (.str (ot sx))) := by
    have : sx = 0 ∨ sx = 1 := by omega
    rcases this with rfl | rfl <;> rfl
  have ewj : ixF (.list [.str (wd 0), .str (wd 1), .str (wd 2), .str (wd 3)]) (.int (j : Int)) = .ok (.val (.str (wd j))) := by
    have : j = 0 ∨ j = 1 := by omega
    rcases this with rfl | rfl <;> rfl
  have ew2 : ixF (.list [.str (wd 0), .str (wd 1), .str (wd 2), .str (wd 3)]) (.int 2) = .ok (.val (.str (wd 2))) := rfl
  have ew3 : ixF (.list [.str (wd 0), .str (wd 1), .str (wd 2), .str (wd 3)]) (.int 3) = .ok (.val (.str (wd 3))) := rfl
  have hPz : P.length < sizeLine := lt_sizeLine (by omega)
  have mfin : ∀ q, (Gm.fin q).many = 1 := fun q => by rw [Gm.many_eq]; rfl
  by_cases he : j = 1 ∧ x 17 % 2 = 1
  · refine ⟨.fin ((t 0 : Int) : Rat), ⟨(fun s nm ws e => by cases e), (fun p hp => by simp [Gm.parts] at hp)⟩, Gm.Good.fin _ _, by rw [mfin]; omega, ?_⟩
    rw [Gm.d_fin]
    generalize qD ((t 0 : Int) : Rat) = q0d at *
    generalize qD ((t 1 : Int) : Rat) = q1d at *
    generalize XS x = X at *
    generalize PyData.list [.str (ot 0), .str (ot 1)] = O at *
    generalize PyData.list [.str (wd 0), .str (wd 1), .str (wd 2), .str (wd 3)] = D at *
    have hj1 : (j : Int) = 1 := by omega
    obtain ⟨hj1', hx17⟩ := he
    refine ⟨some (.own (.list [q0d, q1d])), some (.val (.str (ot sx))), some (.val (.tuple [.str "end", q0d])), ?_⟩
    have eq0 : ixF (.list [q0d, q1d]) (.int 0) = .ok (.val q0d) := rfl
    have eq1 : ixF (.list [q0d, q1d]) (.int 1) = .ok (.val q1d) := rfl
    unfold L__law_game_1
    rw [seq_nx (δ' := [some (.val (.list X)), some (.val (.int f)), o2, some (.own O), some (.own D), some (.val (.int sh)), some (.own (.list W)), some (.val (.int (k : Int))), some (.own (.list P)), some (.val (.int (j : Int))), some (.own (.list [q0d, q1d])), o11, o12, none]) (by simp [-ixF_list, e1, e2, hc])]
    simp [-ixF_list, e1, e2, hc, eq0, eq1, x16, x17, hc16, es, eot, ewj, ew2, ew3, fits_of, hPz, eq_true hj1, hx17]
  · have hfa : Gm.All GP70 (.fin ((t 0 : Int) : Rat)) := ⟨(fun s nm ws e => by cases e), (fun p hp => by simp [Gm.parts] at hp)⟩
    have hfb : Gm.All GP70 (.fin ((t 1 : Int) : Rat)) := ⟨(fun s nm ws e => by cases e), (fun p hp => by simp [Gm.parts] at hp)⟩
    refine ⟨.move (3 - f) (ot sx) [(wd 2, .fin ((t 0 : Int) : Rat)), (wd 3, .fin ((t 1 : Int) : Rat))], ⟨(fun s nm ws e => by cases e; exact ⟨by omega, hot sx, rfl⟩), (fun p hp => by
      simp [Gm.parts] at hp
      rcases hp with rfl | rfl
      · exact hfa
      · exact hfb)⟩, ⟨by simp [Gm.parts], ⟨(hot sx).str, fun w hw => by
      simp at hw
      rcases hw with rfl | rfl
      · exact (hwd 2).str
      · exact (hwd 3).str⟩, fun p hp => by
      simp [Gm.parts] at hp
      rcases hp with rfl | rfl <;> rfl⟩, by rw [Gm.many_eq]; simp [Gm.parts, mfin], ?_⟩
    rw [Gm.d_move]
    simp only [List.map_cons, List.map_nil, Gm.d_fin]
    generalize qD ((t 0 : Int) : Rat) = q0d at *
    generalize qD ((t 1 : Int) : Rat) = q1d at *
    generalize XS x = X at *
    generalize PyData.list [.str (ot 0), .str (ot 1)] = O at *
    generalize PyData.list [.str (wd 0), .str (wd 1), .str (wd 2), .str (wd 3)] = D at *
    refine ⟨some (.own (.list [q0d, q1d])), some (.val (.str (ot sx))), some (.val (.tuple [.str "move", .int (3 - f), .str (ot sx), .tuple [.tuple [.str (wd 2), .tuple [.str "end", q0d]], .tuple [.str (wd 3), .tuple [.str "end", q1d]]]])), ?_⟩
    have eq0 : ixF (.list [q0d, q1d]) (.int 0) = .ok (.val q0d) := rfl
    have eq1 : ixF (.list [q0d, q1d]) (.int 1) = .ok (.val q1d) := rfl
    unfold L__law_game_1
    by_cases hj1 : j = 1
    · have hx17 : ¬ x 17 % 2 = 1 := fun z => he ⟨hj1, z⟩
      have hj1 : (j : Int) = 1 := by omega
      simp [-ixF_list, e1, e2, hc, eq0, eq1, x16, x17, hc16, es, eot, ewj, ew2, ew3, fits_of, hPz, eq_true hj1, hx17]
    · have hj1' : ¬ (j : Int) = 1 := by omega
      simp [-ixF_list, e1, e2, hc, eq0, eq1, x16, x17, hc16, es, eot, ewj, ew2, ew3, fits_of, hPz, hj1']
theorem rng2 : rng 0 2 = [.int ((0 : Nat) : Int), .int ((1 : Nat) : Int)] := rfl
theorem game_way {x : Nat → Int} {f sh : Int} {on ot wd : Nat → Str} {W : List PyData} {k : Nat} {o8 o9 o10 o11 o12 : Option DL.Slot} (hk : k < 2) (hx : ∀ i, 0 ≤ x i ∧ x i < 1000003) (hf : f = 1 ∨ f = 2) (hsh : 1 ≤ sh ∧ sh ≤ 4) (hW : W.length < 100) (hon : ∀ i, NmOk (on i)) (hot : ∀ i, NmOk (ot i)) (hwd : ∀ i, NmOk (wd i)) :
    ∃ (q : Rat) (g0 g1 : Gm) (i : Nat), Gm.All GP70 (.move f (on i) [(wd 0, g0), (wd 1, g1)]) ∧ (Gm.move f (on i) [(wd 0, g0), (wd 1, g1)]).Good 2 ∧ (Gm.move f (on i) [(wd 0, g0), (wd 1, g1)]).many ≤ 7 ∧ ∃ o8' o9' o10' o11' o12', L__law_game_2 [some (.val (.list (XS x))), some (.val (.int f)), some (.own (.list [.str (on 0), .str (on 1)])), some (.own (.list [.str (ot 0), .str (ot 1)])), some (.own (.list [.str (wd 0), .str (wd 1), .str (wd 2), .str (wd 3)])), some (.val (.int sh)), some (.own (.list W)), some (.val (.int (k : Int))), o8, o9, o10, o11, o12, none] = .nx [some (.val (.list (XS x))), some (.val (.int f)), some (.own (.list [.str (on 0), .str (on 1)])), some (.own (.list [.str (ot 0), .str (ot 1)])), some (.own (.list [.str (wd 0), .str (wd 1), .str (wd 2), .str (wd 3)])), some (.val (.int sh)), some (.own (.list (W ++ [.tuple [qD q, (Gm.move f (on i) [(wd 0, g0), (wd 1, g1)]).d]]))), some (.val (.int (k : Int))), o8', o9', o10', o11', o12', none] := by
  obtain ⟨g0, a1, a2, a3, p10, p11, p12, e1⟩ := game_step (x := x) (f := f) (sh := sh) (o2 := some (.own (.list [.str (on 0), .str (on 1)]))) (ot := ot) (wd := wd) (W := W) (P := []) (k := k) (j := 0) (o10 := o10) (o11 := o11) (o12 := o12) hk (by omega) hx hf (by simp) hot hwd
  obtain ⟨g1, b1, b2, b3, r10, r11, r12, e2⟩ := game_step (x := x) (f := f) (sh := sh) (o2 := some (.own (.list [.str (on 0), .str (on 1)]))) (ot := ot) (wd := wd) (W := W) (P := [] ++ [.tuple [.str (wd 0), g0.d]]) (k := k) (j := 1) (o10 := p10) (o11 := p11) (o12 := p12) hk (by omega) hx hf (by simp) hot hwd
  obtain ⟨c, hc, hc2⟩ : ∃ c : Nat, x 18 % 2 = (c : Int) ∧ c < 2 := ⟨(x 18 % 2).toNat, by have := hx 18; omega, by have := hx 18; omega⟩
  have x18 : ixF (.list (XS x)) (.int 18) = .ok (.val (.int (x 18))) := xs_at (x := x) (i := 18) (by omega)
  obtain ⟨i, hi, eon⟩ : ∃ i : Nat, i < 2 ∧ ixF (.list [.str (on 0), .str (on 1)]) (.int ((k : Int) * (c : Int))) = .ok (.val (.str (on i))) := by
    have h1 : k = 0 ∨ k = 1 := by omega
    have h2 : c = 0 ∨ c = 1 := by omega
    rcases h1 with rfl | rfl <;> rcases h2 with rfl | rfl
    · exact ⟨0, by omega, rfl⟩
    · exact ⟨0, by omega, rfl⟩
    · exact ⟨0, by omega, rfl⟩
    · exact ⟨1, by omega, rfl⟩
  obtain ⟨q, hq⟩ : ∃ q : Rat, ∃ sk : Int, ixF (.list [.int sh, .int (5 - sh)]) (.int (k : Int)) = .ok (.val (.int sk)) ∧ qD q = .tuple [.int sk, .int 5] := by
    have h1 : k = 0 ∨ k = 1 := by omega
    rcases h1 with rfl | rfl
    · obtain ⟨q, hq⟩ := qD_5 hsh
      exact ⟨q, sh, rfl, hq⟩
    · obtain ⟨q, hq⟩ := qD_5 (s := 5 - sh) (by omega)
      exact ⟨q, 5 - sh, rfl, hq⟩
  obtain ⟨sk, esk, hq⟩ := hq
  refine ⟨q, g0, g1, i, ⟨(fun s nm ws e => by cases e; exact ⟨hf, hon i, rfl⟩), (fun p hp => by
      simp [Gm.parts] at hp
      rcases hp with rfl | rfl
      · exact a1
      · exact b1)⟩, ⟨by simp [Gm.parts], ⟨(hon i).str, fun w hw => by
      simp at hw
      rcases hw with rfl | rfl
      · exact (hwd 0).str
      · exact (hwd 1).str⟩, fun p hp => by
      simp [Gm.parts] at hp
      rcases hp with rfl | rfl
      · exact a2
      · exact b2⟩, by rw [Gm.many_eq]; simp [Gm.parts]; omega, ?_⟩
  rw [Gm.d_move]
  simp only [List.map_cons, List.map_nil]
  have k1 : -18446744073709551616 < (k : Int) := by omega
  have k2 : (k : Int) < 18446744073709551616 := by omega
  have hWz : W.length < sizeLine := lt_sizeLine (by omega)
  refine ⟨some (.own (.list [.tuple [.str (wd 0), g0.d], .tuple [.str (wd 1), g1.d]])), some (.val (.int ((1 : Nat) : Int))), r10, r11, r12, ?_⟩
  have er : rng1 [.int 2] = .ok (rng 0 2) := rng1_simp (n := 2) (by omega)
  simp only [List.nil_append] at e1 e2
  generalize g0.d = G0 at *
  generalize g1.d = G1 at *
  generalize XS x = X at *
  generalize PyData.list [.str (on 0), .str (on 1)] = N at *
  generalize PyData.list [.str (ot 0), .str (ot 1)] = O at *
  generalize PyData.list [.str (wd 0), .str (wd 1), .str (wd 2), .str (wd 3)] = D at *
  unfold L__law_game_2
  rw [seq_nx (δ' := [some (.val (.list X)), some (.val (.int f)), some (.own N), some (.own O), some (.own D), some (.val (.int sh)), some (.own (.list W)), some (.val (.int (k : Int))), some (.own (.list [])), o9, o10, o11, o12, none]) (by simp),
    seq_nx (δ' := [some (.val (.list X)), some (.val (.int f)), some (.own N), some (.own O), some (.own D), some (.val (.int sh)), some (.own (.list W)), some (.val (.int (k : Int))), some (.own (.list [.tuple [.str (wd 0), G0], .tuple [.str (wd 1), G1]])), some (.val (.int ((1 : Nat) : Int))), r10, r11, r12, none]) (by
      have hit : mRng1 (mCons (mV (mC (.int 2))) mNil) [some (.val (.list X)), some (.val (.int f)), some (.own N), some (.own O), some (.own D), some (.val (.int sh)), some (.own (.list W)), some (.val (.int (k : Int))), some (.own (.list [])), o9, o10, o11, o12, none] = .ok (rng 0 2) := by simp [er]
      have s1 : mgN 9 (.int ((0 : Nat) : Int)) [some (.val (.list X)), some (.val (.int f)), some (.own N), some (.own O), some (.own D), some (.val (.int sh)), some (.own (.list W)), some (.val (.int (k : Int))), some (.own (.list [])), o9, o10, o11, o12, none] = some [some (.val (.list X)), some (.val (.int f)), some (.own N), some (.own O), some (.own D), some (.val (.int sh)), some (.own (.list W)), some (.val (.int (k : Int))), some (.own (.list [])), some (.val (.int ((0 : Nat) : Int))), o10, o11, o12, none] := rfl
      have s2 : mgN 9 (.int ((1 : Nat) : Int)) [some (.val (.list X)), some (.val (.int f)), some (.own N), some (.own O), some (.own D), some (.val (.int sh)), some (.own (.list W)), some (.val (.int (k : Int))), some (.own (.list [.tuple [.str (wd 0), G0]])), some (.val (.int ((0 : Nat) : Int))), p10, p11, p12, none] = some [some (.val (.list X)), some (.val (.int f)), some (.own N), some (.own O), some (.own D), some (.val (.int sh)), some (.own (.list W)), some (.val (.int (k : Int))), some (.own (.list [.tuple [.str (wd 0), G0]])), some (.val (.int ((1 : Nat) : Int))), p10, p11, p12, none] := rfl
      unfold mFor
      rw [hit, out_ok', rng2, loopO_cons, s1]
      simp only [e1]
      rw [loopO_cons, s2]
      simp only [e2]
      rfl)]
  simp [-ixF_list, esk, x18, hc, eon, k1, k2, hWz, fits_of, ← hq]
theorem game_ok (x : Nat → Int) (hx : ∀ i, 0 ≤ x i ∧ x i < 1000003) : ∃ (f : Int) (q0 q1 : Rat) (n0 n1 : Str) (w0 w1 : List (Str × Gm)), (f = 1 ∨ f = 2) ∧ Gm.All GP70 (.deal "coin" [(q0, .move f n0 w0), (q1, .move f n1 w1)]) ∧ (Gm.deal "coin" [(q0, .move f n0 w0), (q1, .move f n1 w1)]).Good 3 ∧ (Gm.deal "coin" [(q0, .move f n0 w0), (q1, .move f n1 w1)]).many ≤ 15 ∧ d__law_game [.val (.list (XS x))] = .ok (.val (Gm.deal "coin" [(q0, .move f n0 w0), (q1, .move f n1 w1)]).d) := by
  have X := fun (i : Nat) (h : i < 40) => xs_at (x := x) h
  have hf : 1 + x 0 % 2 = 1 ∨ 1 + x 0 % 2 = 2 := by have := hx 0; omega
  have hsh : 1 ≤ 1 + x 7 % 4 ∧ 1 + x 7 % 4 ≤ 4 := by have := hx 7; omega
  have n1 : d__law_names [.val (.int (x 1)), .val (.int (x 2)), .val (.int 2)] = .ok (.own (.list [.str (nmOf (x 1) (x 2) 0), .str (nmOf (x 1) (x 2) 1)])) := names_ok70 _ _ 2 (by omega)
  have n2 : d__law_names [.val (.int (x 3)), .val (.int (x 4)), .val (.int 2)] = .ok (.own (.list [.str (nmOf (x 3) (x 4) 0), .str (nmOf (x 3) (x 4) 1)])) := names_ok70 _ _ 2 (by omega)
  have n3 : d__law_names [.val (.int (x 5)), .val (.int (x 6)), .val (.int 4)] = .ok (.own (.list [.str (nmOf (x 5) (x 6) 0), .str (nmOf (x 5) (x 6) 1), .str (nmOf (x 5) (x 6) 2), .str (nmOf (x 5) (x 6) 3)])) := names_ok70 _ _ 4 (by omega)
  have k1 := nmOf_ok (x 1) (x 2)
  have k2 := nmOf_ok (x 3) (x 4)
  have k3 := nmOf_ok (x 5) (x 6)
  generalize nmOf (x 1) (x 2) = on at *
  generalize nmOf (x 3) (x 4) = ot at *
  generalize nmOf (x 5) (x 6) = wd at *
  obtain ⟨q0, g0, g1, i0, a1, a2, a3, p8, p9, p10, p11, p12, e1⟩ := game_way (x := x) (f := 1 + x 0 % 2) (sh := 1 + x 7 % 4) (on := on) (ot := ot) (wd := wd) (W := []) (k := 0) (o8 := none) (o9 := none) (o10 := none) (o11 := none) (o12 := none) (by omega) hx hf hsh (by simp) k1 k2 k3
  obtain ⟨q1, g2, g3, i1, b1, b2, b3, r8, r9, r10, r11, r12, e2⟩ := game_way (x := x) (f := 1 + x 0 % 2) (sh := 1 + x 7 % 4) (on := on) (ot := ot) (wd := wd) (W := [] ++ [.tuple [qD q0, (Gm.move (1 + x 0 % 2) (on i0) [(wd 0, g0), (wd 1, g1)]).d]]) (k := 1) (o8 := p8) (o9 := p9) (o10 := p10) (o11 := p11) (o12 := p12) (by omega) hx hf hsh (by simp) k1 k2 k3
  refine ⟨1 + x 0 % 2, q0, q1, on i0, on i1, _, _, hf, ⟨(fun s nm ws e => by cases e), (fun p hp => by
      simp [Gm.parts] at hp
      rcases hp with rfl | rfl
      · exact a1
      · exact b1)⟩, ⟨by simp [Gm.parts], by simp only [Gm.HdOk]; decide +kernel, fun p hp => by
      simp [Gm.parts] at hp
      rcases hp with rfl | rfl
      · exact a2
      · exact b2⟩, by rw [Gm.many_eq]; simp [Gm.parts]; omega, ?_⟩
  rw [Gm.d_deal]
  simp only [List.map_cons, List.map_nil, List.nil_append] at *
  generalize (Gm.move (1 + x 0 % 2) (on i0) [(wd 0, g0), (wd 1, g1)]).d = G0 at *
  generalize (Gm.move (1 + x 0 % 2) (on i1) [(wd 0, g2), (wd 1, g3)]).d = G1 at *
  have x0 : ixF (.list (XS x)) (.int 0) = _ := X 0 (by omega)
  have x1 : ixF (.list (XS x)) (.int 1) = _ := X 1 (by omega)
  have x2 : ixF (.list (XS x)) (.int 2) = _ := X 2 (by omega)
  have x3 : ixF (.list (XS x)) (.int 3) = _ := X 3 (by omega)
  have x4 : ixF (.list (XS x)) (.int 4) = _ := X 4 (by omega)
  have x5 : ixF (.list (XS x)) (.int 5) = _ := X 5 (by omega)
  have x6 : ixF (.list (XS x)) (.int 6) = _ := X 6 (by omega)
  have x7 : ixF (.list (XS x)) (.int 7) = _ := X 7 (by omega)
  have er : rng1 [.int 2] = .ok (rng 0 2) := rng1_simp (n := 2) (by omega)
  have e0 : d__law_game [.val (.list (XS x))] = (b__law_game [some (.val (.list (XS x))), none, none, none, none, none, none, none, none, none, none, none, none, none]).res := rfl
  rw [e0]
  clear X
  generalize hfe : 1 + x 0 % 2 = f at *
  generalize hse : 1 + x 7 % 4 = sh at *
  generalize XS x = X at *
  generalize PyData.list [.str (on 0), .str (on 1)] = N at *
  generalize PyData.list [.str (ot 0), .str (ot 1)] = O at *
  generalize PyData.list [.str (wd 0), .str (wd 1), .str (wd 2), .str (wd 3)] = D at *
  unfold b__law_game
  rw [seq_nx (δ' := [some (.val (.list X)), some (.val (.int f)), none, none, none, none, none, none, none, none, none, none, none, none]) (by simp [-ixF_list, x0, hfe]),
    seq_nx (δ' := [some (.val (.list X)), some (.val (.int f)), some (.own N), none, none, none, none, none, none, none, none, none, none, none]) (by simp [-ixF_list, x1, x2, n1]),
    seq_nx (δ' := [some (.val (.list X)), some (.val (.int f)), some (.own N), some (.own O), none, none, none, none, none, none, none, none, none, none]) (by simp [-ixF_list, x3, x4, n2]),
    seq_nx (δ' := [some (.val (.list X)), some (.val (.int f)), some (.own N), some (.own O), some (.own D), none, none, none, none, none, none, none, none, none]) (by simp [-ixF_list, x5, x6, n3]),
    seq_nx (δ' := [some (.val (.list X)), some (.val (.int f)), some (.own N), some (.own O), some (.own D), some (.val (.int sh)), none, none, none, none, none, none, none, none]) (by simp [-ixF_list, x7, hse]),
    seq_nx (δ' := [some (.val (.list X)), some (.val (.int f)), some (.own N), some (.own O), some (.own D), some (.val (.int sh)), some (.own (.list [])), none, none, none, none, none, none, none]) (by simp),
    seq_nx (δ' := [some (.val (.list X)), some (.val (.int f)), some (.own N), some (.own O), some (.own D), some (.val (.int sh)), some (.own (.list [.tuple [qD q0, G0], .tuple [qD q1, G1]])), some (.val (.int ((1 : Nat) : Int))), r8, r9, r10, r11, r12, none]) (by
      have hit : mRng1 (mCons (mV (mC (.int 2))) mNil) [some (.val (.list X)), some (.val (.int f)), some (.own N), some (.own O), some (.own D), some (.val (.int sh)), some (.own (.list [])), none, none, none, none, none, none, none] = .ok (rng 0 2) := by simp [er]
      have s1 : mgN 7 (.int ((0 : Nat) : Int)) [some (.val (.list X)), some (.val (.int f)), some (.own N), some (.own O), some (.own D), some (.val (.int sh)), some (.own (.list [])), none, none, none, none, none, none, none] = some [some (.val (.list X)), some (.val (.int f)), some (.own N), some (.own O), some (.own D), some (.val (.int sh)), some (.own (.list [])), some (.val (.int ((0 : Nat) : Int))), none, none, none, none, none, none] := rfl
      have s2 : mgN 7 (.int ((1 : Nat) : Int)) [some (.val (.list X)), some (.val (.int f)), some (.own N), some (.own O), some (.own D), some (.val (.int sh)), some (.own (.list [.tuple [qD q0, G0]])), some (.val (.int ((0 : Nat) : Int))), p8, p9, p10, p11, p12, none] = some [some (.val (.list X)), some (.val (.int f)), some (.own N), some (.own O), some (.own D), some (.val (.int sh)), some (.own (.list [.tuple [qD q0, G0]])), some (.val (.int ((1 : Nat) : Int))), p8, p9, p10, p11, p12, none] := rfl
      unfold mFor
      rw [hit, out_ok', rng2, loopO_cons, s1]
      simp only [e1]
      rw [loopO_cons, s2]
      simp only [e2]
      rfl)]
  simp [fits_of]
/-! text, alike -/
theorem frac_eq : d__law_fraction_text = Pg.d_show_ratio := rfl
theorem text_ok {P : Plan} {nms : List Str} {f : Nat} (hf0 : 0 < f) (hf : f ≤ 30) (hk : ∀ nm ∈ nms, nm ∈ pkeys P ∧ nm.length ≤ 8) (hP : ∀ x ∈ P, x.2.length ≤ 64 ∧ ∀ q ∈ x.2, Fig f q) (hl : nms.length ≤ 64) : d__law_text [.val (.list (nms.map PyData.str)), .val (.dict (planE P))] = .ok (.val (.str (planText P nms))) := by
  have e0 : d__law_text [.val (.list (nms.map PyData.str)), .val (.dict (planE P))] = (b__law_text [some (.val (.list (nms.map PyData.str))), some (.val (.dict (planE P))), none, none, none]).res := rfl
  rw [e0]
  have c : compR (mgN 3) mYes (mV (mM1 joinF (mR (mC (.str " "))) (mR (mB addF (mR (mLst (mCons (mV (mVar 3)) mNil))) (mR (mComp [4] (mgN 4) (miQ (mV (mB gxF (mR (mVar 1)) (mR (mVar 3))))) mYes (mV (mCall d__law_fraction_text (mACons (mVar 4) mANil))))))))) [some (.val (.list (nms.map PyData.str))), some (.val (.dict (planE P))), none, none, none] (nms.map PyData.str) = .ok (nms.map fun nm => PyData.str (rowText nm (look P nm))) := by
    refine compR_map fun nm hn => ⟨_, rfl, rfl, ?_⟩
    obtain ⟨h1, h2⟩ := hk nm hn
    obtain ⟨x, hx, ex⟩ := look_mem h1
    have hfq : ∀ q ∈ look P nm, Fig f q := fun q hq => (hP x hx).2 q (ex ▸ hq)
    have hql : (look P nm).length ≤ 64 := by rw [ex]; exact (hP x hx).1
    have hka := keyAt_nm (flat_plan P) nm
    have hgd := dget_key h1
    generalize look P nm = qs at *
    have hj := row_join (nm := nm) hf0 (by omega) (by omega) hfq hql
    have hfit : fits (qs.map qD) = true := fits_of (by rw [List.length_map]; omega)
    have c2 : compR (mgN 4) mYes (mV (mCall d__law_fraction_text (mACons (mVar 4) mANil))) [some (.val (.list (nms.map PyData.str))), some (.val (.dict (planE P))), none, some (.val (.str nm)), none] (qs.map qD) = .ok (qs.map fun q => PyData.str (showQ q)) := comp_all fun q hq => by
      have := fig_500 (by omega) (hfq q hq)
      exact ⟨_, rfl, by rw [frac_eq]; simp [show_q this.1 this.2]⟩
    have hYl : (qs.map fun q => PyData.str (showQ q)).length ≤ 64 := by rw [List.length_map]; omega
    have en : PyData.str nm = nmD nm := rfl
    rw [← en] at hka hgd
    have hgd' : dget (planE P) (.str nm) = some (.tuple (qs.map qD)) := hgd
    generalize (qs.map fun q => PyData.str (showQ q)) = Y at *
    generalize qs.map qD = Z at *
    have hadd : addF (.list [.str nm]) (.list Y) = .ok (.own (.list (.str nm :: Y))) := addF_list (by simp; omega)
    generalize planE P = D at *
    generalize nms.map PyData.str = N at *
    simp [hka, hgd', hfit, c2, hadd, hj, fits_of]
  have hfit : fits (nms.map PyData.str) = true := fits_of (by rw [List.length_map]; omega)
  have hj2 := join_ok (y := "; ") (L := nms.map fun nm => rowText nm (look P nm)) (m := 10000) (fun z hz => by
    obtain ⟨nm, hn, rfl⟩ := List.mem_map.mp hz
    obtain ⟨h1, h2⟩ := hk nm hn
    obtain ⟨x, hx, ex⟩ := look_mem h1
    have := rowText_len (k := f) (a := 8) (b := 64) hf0 h2 (fun q hq => (hP x hx).2 q (ex ▸ hq)) (by rw [ex]; exact (hP x hx).1)
    have := Nat.mul_le_mul_left 64 (show 2 * f + 4 ≤ 64 by omega)
    omega) (by decide) (by
    rw [List.length_map]
    have := Nat.mul_le_mul_right 10016 hl
    omega)
  rw [List.map_map] at hj2
  have et : (nms.map (PyData.str ∘ fun nm => rowText nm (look P nm))) = nms.map fun nm => PyData.str (rowText nm (look P nm)) := rfl
  rw [et] at hj2
  have ep : planText P nms = Txt.join "; " (nms.map fun nm => rowText nm (look P nm)) := rfl
  rw [← ep] at hj2
  generalize (nms.map fun nm => PyData.str (rowText nm (look P nm))) = R at *
  generalize nms.map PyData.str = N at *
  unfold b__law_text
  simp [c, hfit, hj2]
theorem alike_ok70 {P R : Plan} (h : Alike P R) (hnd : (pkeys P).Nodup) (hl : ∀ x ∈ P, x.2.length ≤ 64) : d__law_alike [.val (.dict (planE P)), .val (.dict (planE R))] = .ok (.val (.bool true)) := by
  have e0 : d__law_alike [.val (.dict (planE P)), .val (.dict (planE R))] = (b__law_alike [some (.val (.dict (planE P))), some (.val (.dict (planE R))), none, none]).res := rfl
  rw [e0]
  have hne := alike_ne h
  have F1 := for_ix (g := mgN 2) (it := miD (·.1) (mV (mVar 0))) (b := L__law_alike_2) (enc := fun x : Str × List Rat => PyData.str x.1) P (fun i δ => ∃ o2 o3, δ = [some (.val (.dict (planE P))), some (.val (.dict (planE R))), o2, o3]) (δ := [some (.val (.dict (planE P))), some (.val (.dict (planE R))), none, none]) (by simp [planE, encL, Function.comp_def, nmD]) (by
    rintro i hi δ ⟨o2, o3, rfl⟩
    have hx := List.getElem_mem hi
    generalize P[i] = x at *
    refine ⟨_, rfl, ?_⟩
    have hka := keyAt_nm (flat_plan P) x.1
    have hgd := dget_key (P := P) (List.mem_map.mpr ⟨x, hx, rfl⟩)
    rw [look_self hnd hx] at hgd
    have en : PyData.str x.1 = nmD x.1 := rfl
    rw [← en] at hka hgd
    have F2 := for_ix (g := mgN 3) (it := miQ (mV (mB gxF (mR (mVar 0)) (mR (mVar 2))))) (b := L__law_alike_1) (enc := qD) x.2 (fun i δ => ∃ o3, δ = [some (.val (.dict (planE P))), some (.val (.dict (planE R))), some (.val (.str x.1)), o3]) (δ := [some (.val (.dict (planE P))), some (.val (.dict (planE R))), some (.val (.str x.1)), o3]) (by simp [hka, hgd, qsD]) (by
      rintro j hj δ ⟨o3, rfl⟩
      refine ⟨_, rfl, [some (.val (.dict (planE P))), some (.val (.dict (planE R))), some (.val (.str x.1)), some (.val (qD x.2[j]))], ?_, _, rfl⟩
      unfold L__law_alike_1
      simp [qD]) ⟨_, rfl⟩
    obtain ⟨δ1, e1, o3', rfl⟩ := F2
    refine ⟨[some (.val (.dict (planE P))), some (.val (.dict (planE R))), some (.val (.str x.1)), o3'], ?_, some (.val (.str x.1)), o3', rfl⟩
    unfold L__law_alike_2
    have e2 := seq_nx (m := mIf (mNot (mTest (mIsi "tuple" (mR (mB gxF (mR (mVar 0)) (mR (mVar 2))))))) (mRet (mC (.bool false))) mNext) (n := mFor (mgN 3) (miQ (mV (mB gxF (mR (mVar 0)) (mR (mVar 2))))) L__law_alike_1) (δ := [some (.val (.dict (planE P))), some (.val (.dict (planE R))), some (.val (.str x.1)), o3]) (δ' := [some (.val (.dict (planE P))), some (.val (.dict (planE R))), some (.val (.str x.1)), o3]) (by simp [hka, hgd, qsD])
    exact e2.trans e1) ⟨_, _, rfl⟩
  obtain ⟨δ1, e1, o2, o3, rfl⟩ := F1
  unfold b__law_alike
  rw [seq_nx (δ' := [some (.val (.dict (planE P))), some (.val (.dict (planE R))), none, none]) (by simp [hne]), seq_nx e1]
  simp
/-! what is told -/
theorem PT_len2 {P : Plan} (h : ∀ x ∈ P, NmOk x.1 ∧ x.2.length = 2 ∧ ∀ q ∈ x.2, Fig 30 q) : (PT P).length ≤ P.length * 140 := by
  have h1 := join_len "; " (P.map fun x => rowText x.1 x.2)
  have h2 := Gm.sum_le (xs := (P.map fun x => rowText x.1 x.2).map (fun s : Str => s.length)) (k := 138) fun z hz => by
    rw [List.map_map] at hz
    obtain ⟨x, hx, rfl⟩ := List.mem_map.mp hz
    obtain ⟨a, b, c⟩ := h x hx
    have := rowText_len (k := 30) (a := 8) (b := 2) (by decide) a.1.2 c (by omega)
    simp only [Function.comp_apply]
    omega
  have e : ("; " : Str).length = 2 := by decide
  rw [e] at h1
  simp only [List.length_map] at h1 h2
  show (Txt.join "; " (P.map fun x => rowText x.1 x.2)).length ≤ _
  omega
theorem rot_inj {n x a b : Nat} (ha : a < n) (hb : b < n) (e : (a + x) % n = (b + x) % n) : a = b := by
  have h1 := Nat.sub_mod_eq_zero_of_mod_eq e
  have h2 := Nat.sub_mod_eq_zero_of_mod_eq e.symm
  have e1 : a + x - (b + x) = a - b := by omega
  have e2 : b + x - (a + x) = b - a := by omega
  rw [e1, Nat.mod_eq_of_lt (by omega)] at h1
  rw [e2, Nat.mod_eq_of_lt (by omega)] at h2
  omega
theorem rot_sur {n x j : Nat} (hj : j < n) : ∃ k, k < n ∧ (k + x) % n = j := by
  have hn : 0 < n := by omega
  refine ⟨(j + (n - x % n)) % n, Nat.mod_lt _ hn, ?_⟩
  rw [Nat.mod_add_mod]
  have h := Nat.div_add_mod x n
  have h2 := Nat.mod_lt x hn
  have e : j + (n - x % n) + x = j + n * (x / n + 1) := by
    rw [Nat.mul_succ]
    omega
  rw [e, Nat.add_mul_mod_self_left, Nat.mod_eq_of_lt hj]
def rotL (nms : List Str) (x : Nat) : List Str := (List.range nms.length).map fun k => nms.getD ((k + x) % nms.length) ""
theorem rot_at {nms : List Str} {x k : Nat} (hk : k < nms.length) : ∃ h : (k + x) % nms.length < nms.length, nms.getD ((k + x) % nms.length) "" = nms[(k + x) % nms.length] := by
  have h := Nat.mod_lt (k + x) (show 0 < nms.length by omega)
  exact ⟨h, by rw [List.getD_eq_getElem?_getD, List.getElem?_eq_getElem h]; rfl⟩
theorem rot_sub {nms : List Str} {x : Nat} : ∀ z ∈ rotL nms x, z ∈ nms := fun z hz => by
  obtain ⟨k, hk, rfl⟩ := List.mem_map.mp hz
  obtain ⟨h, e⟩ := rot_at (nms := nms) (x := x) (List.mem_range.mp hk)
  rw [e]
  exact List.getElem_mem h
theorem rot_sup {nms : List Str} {x : Nat} : ∀ z ∈ nms, z ∈ rotL nms x := fun z hz => by
  obtain ⟨j, hj, rfl⟩ := List.mem_iff_getElem.mp hz
  obtain ⟨k, hk, e⟩ := rot_sur (x := x) hj
  refine List.mem_map.mpr ⟨k, List.mem_range.mpr hk, ?_⟩
  obtain ⟨h, e2⟩ := rot_at (nms := nms) (x := x) hk
  rw [e2]
  congr 1
theorem rot_nodup {nms : List Str} (hn : nms.Nodup) (x : Nat) : (rotL nms x).Nodup := by
  unfold rotL
  rw [List.Nodup, List.pairwise_map]
  refine List.Pairwise.imp_of_mem (fun {a b} ha hb hab e => ?_) (List.nodup_range (n := nms.length))
  obtain ⟨h1, e1⟩ := rot_at (nms := nms) (x := x) (List.mem_range.mp ha)
  obtain ⟨h2, e2⟩ := rot_at (nms := nms) (x := x) (List.mem_range.mp hb)
  rw [e1, e2] at e
  exact hab (rot_inj (List.mem_range.mp ha) (List.mem_range.mp hb) ((List.getElem_inj hn).mp e))
theorem nodup_rev {xs : List Str} (h : xs.Nodup) : xs.reverse.Nodup := by
  rw [List.Nodup, List.pairwise_reverse]
  exact List.Pairwise.imp Ne.symm h
theorem told_core {G : PyData} {s : Int} {x : Nat} {nms : List Str} {q : Str → List Rat} (hnd : nms.Nodup) (hl : nms.length ≤ 64) (hN : ∀ z ∈ nms, NmOk z)
    (hseen : d__law_seen 8 [.val G, .val (.int s)] = .ok (.own (.list (nms.map PyData.str))))
    (hq : ∀ i (h : i < nms.length), d__law_shares [.val (.int ((x : Int) / ((i : Int) + 1) + 7 * (i : Int)))] = .ok (.val (qsD (q nms[i]))))
    (hF : ∀ z ∈ nms, (q z).length = 2 ∧ ∀ r ∈ q z, Fig 30 r)
    (hshow : ∀ ms : List Str, ms.length = nms.length → (∀ z ∈ nms, z ∈ ms) → (∀ z ∈ ms, z ∈ nms) → ms.Nodup → d_show_plan [.val G, .val (.int s), .val (.dict (planE (mkP ms q)))] = .ok (.val (.str (PT (mkP nms q)))))
    (hread : ∀ ms : List Str, ms.length = nms.length → (∀ z ∈ nms, z ∈ ms) → (∀ z ∈ ms, z ∈ nms) → ms.Nodup → d_read_plan [.val G, .val (.int s), .val (.str (PT (mkP ms q)))] = .ok (.own (.dict (planE (mkP ms q))))) :
    d__law_told [.val G, .val (.int s), .val (.int (x : Int))] = .ok (.val (.bool true)) := by
  have e0 : d__law_told [.val G, .val (.int s), .val (.int (x : Int))] = (b__law_told [some (.val G), some (.val (.int s)), some (.val (.int (x : Int))), none, none, none, none, none, none, none, none, none]).res := rfl
  rw [e0]
  have hPm : ∀ ms : List Str, (∀ z ∈ ms, z ∈ nms) → ∀ y ∈ mkP ms q, NmOk y.1 ∧ y.2.length = 2 ∧ ∀ r ∈ y.2, Fig 30 r := fun ms hm y hy => by
    obtain ⟨z, hz, rfl⟩ := List.mem_map.mp hy
    exact ⟨hN z (hm z hz), hF z (hm z hz)⟩
  have hnl : rng1 [.int ((nms.length : Nat) : Int)] = .ok (rng 0 nms.length) := rng1_simp (by omega)
  have hstr : ∀ i (h : i < nms.length), ixF (.list (nms.map PyData.str)) (.int (i : Int)) = .ok (.val (.str nms[i])) := fun i h => by
    have a1 : atI (nms.map PyData.str) (i : Int) = some (.str nms[i]) := by rw [atI_of (by simpa using h)]; simp
    simp [a1]
  have mk_snoc : ∀ (L : List Str) (i : Nat) (h : i < L.length), mkP (L.take (i + 1)) q = mkP (L.take i) q ++ [(L[i], q L[i])] := fun L i h => by
    unfold mkP
    rw [List.take_add_one, List.getElem?_eq_getElem h, Option.toList_some, List.map_append]
    rfl
  have put : ∀ (L : List Str), L.Nodup → ∀ i (h : i < L.length), dput (planE (mkP (L.take i) q)) (.str L[i]) (qsD (q L[i])) = planE (mkP (L.take (i + 1)) q) := fun L hL i h => by
    rw [mk_snoc L i h]
    refine dput_new (f := qsD) nm_inj fun y hy z => ?_
    obtain ⟨w, hw, rfl⟩ := List.mem_map.mp hy
    obtain ⟨j, hj, e⟩ := List.mem_iff_getElem.mp hw
    rw [List.getElem_take] at e
    have hj' : j < i := by rw [List.length_take] at hj; omega
    have : j = i := (List.getElem_inj hL).mp (e.trans z)
    omega
  have F1 := for_rng (g := mgN 5) (it := mRng1 (mCons (mV (mBi lenF (mCons (mR (mVar 3)) mNil))) mNil)) (b := L__law_told_3) nms.length (fun i δ => ∃ o5, δ = [some (.val G), some (.val (.int s)), some (.val (.int (x : Int))), some (.own (.list (nms.map PyData.str))), some (.own (.dict (planE (mkP (nms.take i) q)))), o5, none, none, none, none, none, none]) (δ := [some (.val G), some (.val (.int s)), some (.val (.int (x : Int))), some (.own (.list (nms.map PyData.str))), some (.own (.dict [])), none, none, none, none, none, none, none]) (by simp [hnl]) (by
    rintro i hi δ ⟨o5, rfl⟩
    refine ⟨_, rfl, [some (.val G), some (.val (.int s)), some (.val (.int (x : Int))), some (.own (.list (nms.map PyData.str))), some (.own (.dict (planE (mkP (nms.take (i + 1)) q)))), some (.val (.int (i : Int))), none, none, none, none, none, none], ?_, _, rfl⟩
    have hs := hq i hi
    have hi1 := hstr i hi
    have hp := put nms hnd i hi
    have hka := keyAt_nm (flat_plan (mkP (nms.take i) q)) nms[i]
    have hz : (planE (mkP (nms.take i) q)).length < sizeLine := by
      rw [planE, encL_len, mkP, List.length_map]
      exact lt_sizeLine (by have := List.length_take_le i nms; omega)
    have en : nmD nms[i] = PyData.str nms[i] := rfl
    rw [en] at hka
    have a1 : 0 < (i : Int) + 1 := by omega
    have a2 : (i : Int) + 1 < 18446744073709551616 := by omega
    generalize planE (mkP (nms.take i) q) = D at *
    generalize planE (mkP (nms.take (i + 1)) q) = D' at *
    generalize qsD (q nms[i]) = v at *
    generalize nms[i] = z at *
    generalize nms.map PyData.str = N at *
    unfold L__law_told_3
    simp [-ixF_list, hs, hi1, hp, hka, hz, a1, a2]) ⟨none, rfl⟩
  obtain ⟨δ1, e1, o5, rfl⟩ := F1
  rw [List.take_length] at e1
  have hrl : ∀ L : List Str, L.length = nms.length → L.reverse.take L.length = L.reverse := fun L h => List.take_of_length_le (by simp)
  have F2 := for_ix (g := mgN 7) (it := miRev (mV (mVar 3))) (b := L__law_told_2) (enc := PyData.str) nms.reverse (fun i δ => ∃ o7, δ = [some (.val G), some (.val (.int s)), some (.val (.int (x : Int))), some (.val (.list (nms.map PyData.str))), some (.own (.dict (planE (mkP nms q)))), o5, some (.own (.dict (planE (mkP (nms.reverse.take i) q)))), o7, none, none, none, none]) (δ := [some (.val G), some (.val (.int s)), some (.val (.int (x : Int))), some (.val (.list (nms.map PyData.str))), some (.own (.dict (planE (mkP nms q)))), o5, some (.own (.dict [])), none, none, none, none, none]) (by simp) (by
    rintro i hi δ ⟨o7, rfl⟩
    refine ⟨_, rfl, [some (.val G), some (.val (.int s)), some (.val (.int (x : Int))), some (.val (.list (nms.map PyData.str))), some (.own (.dict (planE (mkP nms q)))), o5, some (.own (.dict (planE (mkP (nms.reverse.take (i + 1)) q)))), some (.val (.str nms.reverse[i])), none, none, none, none], ?_, _, rfl⟩
    have hi' : nms.reverse[i] ∈ nms := List.mem_reverse.mp (List.getElem_mem hi)
    have hp := put nms.reverse (nodup_rev hnd) i hi
    have hka := keyAt_nm (flat_plan (mkP (nms.reverse.take i) q)) nms.reverse[i]
    have hkb := keyAt_nm (flat_plan (mkP nms q)) nms.reverse[i]
    have hgb := dget_key (P := mkP nms q) (nm := nms.reverse[i]) (by rw [pkeys_mk]; exact hi')
    rw [look_mk hi'] at hgb
    have hz : (planE (mkP (nms.reverse.take i) q)).length < sizeLine := by
      rw [planE, encL_len, mkP, List.length_map]
      exact lt_sizeLine (by have := List.length_take_le i nms.reverse; rw [List.length_reverse] at hi; omega)
    have en : nmD nms.reverse[i] = PyData.str nms.reverse[i] := rfl
    rw [en] at hka hkb hgb
    generalize planE (mkP nms q) = D at *
    generalize planE (mkP (nms.reverse.take i) q) = D1 at *
    generalize planE (mkP (nms.reverse.take (i + 1)) q) = D' at *
    generalize qsD (q nms.reverse[i]) = v at *
    generalize nms.reverse[i] = z at *
    generalize nms.map PyData.str = N at *
    unfold L__law_told_2
    simp [hp, hka, hkb, hgb, hz]) ⟨none, rfl⟩
  obtain ⟨δ2, e2, o7, rfl⟩ := F2
  rw [List.take_length] at e2
  -- the texts
  have hsub : ∀ z ∈ nms, z ∈ pkeys (mkP nms q) ∧ z.length ≤ 8 := fun z hz => ⟨by rw [pkeys_mk]; exact hz, (hN z hz).1.2⟩
  have hPz : ∀ y ∈ mkP nms q, y.2.length ≤ 64 ∧ ∀ r ∈ y.2, Fig 30 r := fun y hy => ⟨by rw [(hPm nms (fun _ h => h) y hy).2.1]; omega, (hPm nms (fun _ h => h) y hy).2.2⟩
  have t1 := text_ok (f := 30) (by decide) (by decide) hsub hPz hl
  rw [planText_mk (fun _ h => h)] at t1
  have hrot : ∀ z ∈ rotL nms x, z ∈ pkeys (mkP nms q) ∧ z.length ≤ 8 := fun z hz => hsub z (rot_sub z hz)
  have hrlen : (rotL nms x).length = nms.length := by simp [rotL]
  have t2 := text_ok (f := 30) (by decide) (by decide) hrot hPz (by rw [hrlen]; exact hl)
  rw [planText_mk rot_sub] at t2
  have s1 := hshow nms.reverse (by simp) (fun z hz => List.mem_reverse.mpr hz) (fun z hz => List.mem_reverse.mp hz) (nodup_rev hnd)
  have hne : cmpD true (.dict (planE (mkP nms.reverse q))) (.dict (planE (mkP nms q))) = .ok (.val (.bool false)) := alike_ne (alike_mk (by simp) (fun z hz => List.mem_reverse.mp hz))
  have hT1 : PyData.strOk (PT (mkP nms q)) = true := PT_ok fun y hy => (hPm nms (fun _ h => h) y hy).1
  have hrc : ∀ N : List PyData, N = nms.map PyData.str → ∀ (o5 o6 o7 o8 : Option DL.Slot) (D : List (PyData × PyData)), compR (mgN 5) mYes (mV (mB ixF (mR (mVar 3)) (mR (mB modF (mR (mB addF (mR (mVar 5)) (mR (mVar 2)))) (mR (mBi lenF (mCons (mR (mVar 3)) mNil))))))) [some (.val G), some (.val (.int s)), some (.val (.int (x : Int))), some (.val (.list N)), some (.val (.dict D)), none, o6, o7, o8, none, none, none] (rng 0 nms.length) = .ok ((rotL nms x).map PyData.str) := by
    rintro N rfl o5 o6 o7 o8 D
    unfold rotL
    rw [List.map_map]
    refine compR_map fun k hk => ⟨_, rfl, rfl, ?_⟩
    have hk' := List.mem_range.mp hk
    obtain ⟨h, e⟩ := rot_at (nms := nms) (x := x) hk'
    have hi := hstr _ h
    have hm : modF (.int ((k : Int) + (x : Int))) (.int (nms.length : Int)) = .ok (.val (.int (((k + x) % nms.length : Nat) : Int))) := by rw [modF_pos (by omega)]; rfl
    rw [← e] at hi
    have hlN : (nms.map PyData.str).length = nms.length := by simp
    show _ = Res.ok (PyData.str (nms.getD ((k + x) % nms.length) ""))
    generalize (k + x) % nms.length = j at *
    generalize nms.getD j "" = z at *
    generalize hN : nms.map PyData.str = N at *
    simp [-ixF_list, hlN, hm, hi]
  have F3 : ∀ (o5 o7 : Option DL.Slot), ∃ o10 o11, mFor (mgN 10) (miQ (mV (mTup (mCons (mV (mVar 8)) (mCons (mV (mVar 9)) (mCons (mV (mVar 8)) mNil)))))) L__law_told_1 [some (.val G), some (.val (.int s)), some (.val (.int (x : Int))), some (.val (.list (nms.map PyData.str))), some (.val (.dict (planE (mkP nms q)))), o5, some (.val (.dict (planE (mkP nms.reverse q)))), o7, some (.val (.str (PT (mkP nms q)))), some (.val (.str (PT (mkP (rotL nms x) q)))), none, none] = .nx [some (.val G), some (.val (.int s)), some (.val (.int (x : Int))), some (.val (.list (nms.map PyData.str))), some (.val (.dict (planE (mkP nms q)))), o5, some (.val (.dict (planE (mkP nms.reverse q)))), o7, some (.val (.str (PT (mkP nms q)))), some (.val (.str (PT (mkP (rotL nms x) q)))), o10, o11] := by
    intro o5 o7
    have F := for_ix (g := mgN 10) (it := miQ (mV (mTup (mCons (mV (mVar 8)) (mCons (mV (mVar 9)) (mCons (mV (mVar 8)) mNil)))))) (b := L__law_told_1) (enc := fun ms : List Str => PyData.str (PT (mkP ms q))) [nms, rotL nms x, nms] (fun i δ => ∃ o10 o11, δ = [some (.val G), some (.val (.int s)), some (.val (.int (x : Int))), some (.val (.list (nms.map PyData.str))), some (.val (.dict (planE (mkP nms q)))), o5, some (.val (.dict (planE (mkP nms.reverse q)))), o7, some (.val (.str (PT (mkP nms q)))), some (.val (.str (PT (mkP (rotL nms x) q)))), o10, o11]) (δ := [some (.val G), some (.val (.int s)), some (.val (.int (x : Int))), some (.val (.list (nms.map PyData.str))), some (.val (.dict (planE (mkP nms q)))), o5, some (.val (.dict (planE (mkP nms.reverse q)))), o7, some (.val (.str (PT (mkP nms q)))), some (.val (.str (PT (mkP (rotL nms x) q)))), none, none]) (by simp [fits_of]) (by
      rintro i hi δ ⟨o10, o11, rfl⟩
      refine ⟨_, rfl, ?_⟩
      have hms : ([nms, rotL nms x, nms][i]).length = nms.length ∧ (∀ z ∈ nms, z ∈ [nms, rotL nms x, nms][i]) ∧ (∀ z ∈ [nms, rotL nms x, nms][i], z ∈ nms) ∧ ([nms, rotL nms x, nms][i]).Nodup := by
        have : ∀ ms ∈ [nms, rotL nms x, nms], ms.length = nms.length ∧ (∀ z ∈ nms, z ∈ ms) ∧ (∀ z ∈ ms, z ∈ nms) ∧ ms.Nodup := by
          intro ms hms
          simp only [List.mem_cons, List.not_mem_nil, or_false] at hms
          rcases hms with rfl | rfl | rfl
          · exact ⟨rfl, fun _ h => h, fun _ h => h, hnd⟩
          · exact ⟨hrlen, rot_sup, rot_sub, rot_nodup hnd x⟩
          · exact ⟨rfl, fun _ h => h, fun _ h => h, hnd⟩
        exact this _ (List.getElem_mem hi)
      generalize [nms, rotL nms x, nms][i] = ms at *
      obtain ⟨m1, m2, m3, m4⟩ := hms
      have r1 := hread ms m1 m2 m3 m4
      have r2 := hshow ms m1 m2 m3 m4
      have r3 := alike_ok70 (P := mkP ms q) (R := mkP nms q) (alike_mk m1 m3) (by rw [pkeys_mk]; exact m4) (fun y hy => by rw [(hPm ms m3 y hy).2.1]; omega)
      have hka := keyAt_nm (flat_plan (mkP ms q)) "none"
      have hz : (planE (mkP ms q)).length < sizeLine := by
        rw [planE, encL_len, mkP, List.length_map]
        exact lt_sizeLine (by omega)
      have en : nmD "none" = PyData.str "none" := rfl
      rw [en] at hka
      refine ⟨[some (.val G), some (.val (.int s)), some (.val (.int (x : Int))), some (.val (.list (nms.map PyData.str))), some (.val (.dict (planE (mkP nms q)))), o5, some (.val (.dict (planE (mkP nms.reverse q)))), o7, some (.val (.str (PT (mkP nms q)))), some (.val (.str (PT (mkP (rotL nms x) q)))), some (.val (.str (PT (mkP ms q)))), some (.own (.dict (dput (planE (mkP ms q)) (.str "none") (.tuple []))))], ?_, _, _, rfl⟩
      have hself : neF (.str (PT (mkP nms q))) (.str (PT (mkP nms q))) = .ok (.val (.bool false)) := neF_self (shaped_str hT1)
      generalize planE (mkP ms q) = D3 at *
      generalize planE (mkP nms.reverse q) = D2 at *
      generalize planE (mkP nms q) = D at *
      generalize PT (mkP ms q) = T3 at *
      generalize PT (mkP (rotL nms x) q) = T2 at *
      generalize PT (mkP nms q) = T1 at *
      generalize nms.map PyData.str = N at *
      unfold L__law_told_1
      simp [r1, r2, r3, hka, hz, hself, frz]) ⟨none, none, rfl⟩
    obtain ⟨δ3, e3, o10, o11, rfl⟩ := F
    exact ⟨o10, o11, e3⟩
  obtain ⟨o10, o11, e3⟩ := F3 o5 o7
  have hself : neF (.str (PT (mkP nms q))) (.str (PT (mkP nms q))) = .ok (.val (.bool false)) := neF_self (shaped_str hT1)
  have hfit : fits (rng 0 nms.length) = true := fits_of (by simp [rng]; omega)
  have hrc' := hrc _ rfl o5 (some (.val (.dict (planE (mkP nms.reverse q))))) o7 (some (.val (.str (PT (mkP nms q))))) (planE (mkP nms q))
  have hlN : (nms.map PyData.str).length = nms.length := by simp
  generalize planE (mkP nms.reverse q) = D2 at *
  generalize planE (mkP nms q) = D at *
  generalize PT (mkP (rotL nms x) q) = TT2 at *
  generalize PT (mkP nms q) = TT1 at *
  generalize (rotL nms x).map PyData.str = R at *
  generalize nms.map PyData.str = N at *
  unfold b__law_told
  rw [seq_nx (δ' := [some (.val G), some (.val (.int s)), some (.val (.int (x : Int))), some (.own (.list N)), none, none, none, none, none, none, none, none]) (by simp [hseen]), seq_nx (δ' := [some (.val G), some (.val (.int s)), some (.val (.int (x : Int))), some (.own (.list N)), some (.own (.dict [])), none, none, none, none, none, none, none]) (by simp), seq_nx e1, seq_nx (δ' := [some (.val G), some (.val (.int s)), some (.val (.int (x : Int))), some (.own (.list N)), some (.own (.dict D)), o5, some (.own (.dict [])), none, none, none, none, none]) (by simp),
    seq_nx (δ' := [some (.val G), some (.val (.int s)), some (.val (.int (x : Int))), some (.val (.list N)), some (.own (.dict D)), o5, some (.own (.dict D2)), o7, none, none, none, none]) (by rw [mFrz_ap]; exact e2), seq_nx (δ' := [some (.val G), some (.val (.int s)), some (.val (.int (x : Int))), some (.val (.list N)), some (.val (.dict D)), o5, some (.own (.dict D2)), o7, some (.val (.str TT1)), none, none, none]) (by simp [frz, t1]),
    seq_nx (δ' := [some (.val G), some (.val (.int s)), some (.val (.int (x : Int))), some (.val (.list N)), some (.val (.dict D)), o5, some (.val (.dict D2)), o7, some (.val (.str TT1)), none, none, none]) (by simp [frz, s1, hself, hne]), seq_nx (δ' := [some (.val G), some (.val (.int s)), some (.val (.int (x : Int))), some (.val (.list N)), some (.val (.dict D)), o5, some (.val (.dict D2)), o7, some (.val (.str TT1)), some (.val (.str TT2)), none, none]) (by simp [frz, hlN, hnl, hfit, hrc', t2]),
    seq_nx (δ' := [some (.val G), some (.val (.int s)), some (.val (.int (x : Int))), some (.val (.list N)), some (.val (.dict D)), o5, some (.val (.dict D2)), o7, some (.val (.str TT1)), some (.val (.str TT2)), o10, o11]) (by simp only [mFrz_ap, frz]; exact e3)]
  simp
theorem gp_side {g : Gm} (h : Gm.All GP70 g) : Sides g := sides_of (h.mono fun g hg s nm ws e => (hg s nm ws e).1)
theorem told_ok {k : Nat} {g : Gm} {s : Int} {x : Nat} (hx : x < 1000003) (hk : k ≤ 7) (hg : g.Good k) (ha : Gm.All GP70 g) (hm : g.many ≤ 64) : d__law_told [.val g.d, .val (.int s), .val (.int (x : Int))] = .ok (.val (.bool true)) := by
  have hs := gp_side ha
  have hrow : ∀ r ∈ tableS g s, NmOk r.2.1 ∧ r.2.2.1.length = 2 := fun r hr => by
    obtain ⟨_, y, hy, ws, e, e2, _⟩ := rowS_move hr
    obtain ⟨_, b, c⟩ := (Gm.All.seen (x := root g) ha y hy).here _ _ _ e
    exact ⟨b, by rw [e2, List.length_map]; exact c⟩
  have hlen := tableS_len g s
  have hn := tnames_eq g s
  have hnd := dd_nodup (nmsOf s (seenP (root g)))
  have hseen := seen_ok70 (s := s) hg (ha.mono fun g hg s nm ws e => (hg s nm ws e).2.1.str) (by omega) 8 (by omega) [] ([], [])
  have er : (([] : List Int), g, (([] : Rec), ([] : Rec))) = root g := rfl
  rw [er] at hseen
  rw [← hn] at hseen hnd
  have hin : ∀ r ∈ tableS g s, r.2.1 ∈ (tableS g s).map (·.2.1) := fun r hr => List.mem_map.mpr ⟨r, hr, rfl⟩
  have hNm : ∀ z ∈ (tableS g s).map (·.2.1), NmOk z := fun z hz => by
    obtain ⟨r, hr, rfl⟩ := List.mem_map.mp hz
    exact (hrow r hr).1
  have hl : ((tableS g s).map (·.2.1)).length ≤ 64 := by rw [List.length_map]; omega
  have hTl : (tableS g s).length = ((tableS g s).map (·.2.1)).length := by rw [List.length_map]
  generalize hnms : (tableS g s).map (·.2.1) = nms at *
  have F : ∀ i : Nat, ∃ qs : List Rat, i < 64 → (Shares qs 2 ∧ (∀ r ∈ qs, Sz 40 r ∧ Fig 30 r) ∧ d__law_shares [.val (.int ((x : Int) / ((i : Int) + 1) + 7 * (i : Int)))] = .ok (.val (qsD qs))) := fun i => by
    by_cases h : i < 64
    · have hb : x / (i + 1) + 7 * i < 1000000000 := by
        have := Nat.div_le_self x (i + 1)
        omega
      obtain ⟨t, b, h1, h2, h3, h4⟩ := shares_ok70 (x / (i + 1) + 7 * i) hb
      have ec : ((x / (i + 1) + 7 * i : Nat) : Int) = (x : Int) / ((i : Int) + 1) + 7 * (i : Int) := by simp
      rw [ec] at h4
      refine ⟨_, fun _ => ⟨pair_shares h1 h2, fun r hr => ?_, h4⟩⟩
      simp only [List.mem_cons, List.not_mem_nil, or_false] at hr
      rcases hr with rfl | rfl
      · exact ⟨sz_pair h1 h2 h3, fig_pair h1 h2 h3⟩
      · exact ⟨sz_pair h1 (by omega) h3, fig_pair h1 (by omega) h3⟩
    · exact ⟨[], fun z => absurd z h⟩
  obtain ⟨sh, hsh⟩ := Classical.axiomOfChoice F
  have hix : ∀ i (h : i < nms.length), nms.idxOf nms[i] = i := fun i h => by
    have h1 : nms.idxOf nms[i] < nms.length := List.idxOf_lt_length_iff.mpr (List.getElem_mem h)
    have h2 := List.getElem_idxOf h1
    exact (List.getElem_inj hnd).mp h2
  have hq : ∀ z ∈ nms, ∃ i, i < 64 ∧ nms.idxOf z = i := fun z hz => ⟨_, Nat.lt_of_lt_of_le (List.idxOf_lt_length_iff.mpr hz) hl, rfl⟩
  have hQ : ∀ z ∈ nms, Shares (sh (nms.idxOf z)) 2 ∧ ∀ r ∈ sh (nms.idxOf z), Sz 40 r ∧ Fig 30 r := fun z hz => by
    obtain ⟨i, hi, e⟩ := hq z hz
    rw [e]
    exact ⟨(hsh i hi).1, (hsh i hi).2.1⟩
  have hPO : ∀ ms : List Str, ms.length = nms.length → (∀ z ∈ nms, z ∈ ms) → PlanOk (mkP ms fun z => sh (nms.idxOf z)) (tableS g s) := fun ms m1 m2 => planOk_mk (by rw [m1, hTl]) fun r hr => ⟨m2 _ (hin r hr), by rw [(hrow r hr).2]; exact (hQ _ (hin r hr)).1⟩
  have hPN : ∀ ms : List Str, (∀ z ∈ ms, z ∈ nms) → ∀ y ∈ mkP ms fun z => sh (nms.idxOf z), NmOk y.1 ∧ y.2.length = 2 ∧ ∀ r ∈ y.2, Sz 40 r ∧ Fig 30 r := fun ms m3 y hy => by
    obtain ⟨z, hz, rfl⟩ := List.mem_map.mp hy
    exact ⟨hNm z (m3 z hz), (hQ z (m3 z hz)).1.1, (hQ z (m3 z hz)).2⟩
  refine told_core (q := fun z => sh (nms.idxOf z)) hnd hl hNm hseen (fun i h => ?_) (fun z hz => ?_) (fun ms m1 m2 m3 m4 => ?_) (fun ms m1 m2 m3 m4 => ?_)
  · simp only [hix i h]
    exact (hsh i (by omega)).2.2
  · exact ⟨(hQ z hz).1.1, fun r hr => ((hQ z hz).2 r hr).2⟩
  · have := show_plan_ok (k := k) (n := 40) (f := 30) (g := g) (s := s) (P := mkP ms fun z => sh (nms.idxOf z)) (.inl rfl) (by omega) hg (by omega) hs (by decide) (by decide) (fun r hr => ⟨by rw [(hrow r hr).2]; decide, by have := (hrow r hr).1.1.2; omega⟩) (fun y hy r hr => ((hPN ms m3 y hy).2.2 r hr).1) (by decide) (by decide) (fun y hy r hr => ((hPN ms m3 y hy).2.2 r hr).2) (hPO ms m1 m2) (by omega)
    rw [hnms, planText_mk m2] at this
    exact this
  · exact read_plan_ok (k := k) (n := 40) (by omega) hg (by omega) hs (by decide) (by decide) (fun r hr => by rw [(hrow r hr).2]; decide) (fun y hy r hr => ((hPN ms m3 y hy).2.2 r hr).1) (fun y hy => ⟨(hPN ms m3 y hy).1, by rw [(hPN ms m3 y hy).2.1]; decide, by rw [(hPN ms m3 y hy).2.1]; decide, fun r hr => ((hPN ms m3 y hy).2.2 r hr).2⟩) (by rw [pkeys_mk]; exact m4) (hPO ms m1 m2) (by
      have := PT_len2 (P := mkP ms fun z => sh (nms.idxOf z)) fun y hy => ⟨(hPN ms m3 y hy).1, (hPN ms m3 y hy).2.1, fun r hr => ((hPN ms m3 y hy).2.2 r hr).2⟩
      have hl2 : (mkP ms fun z => sh (nms.idxOf z)).length = nms.length := by simp [mkP, m1]
      rw [hl2] at this
      have := Nat.mul_le_mul_right 140 hl
      omega)
/-! small games -/
def ownN (s : Int) : Gm → List Str
  | .move s' nm _ => if s' = s then [nm] else []
  | _ => []
def nmsG (s : Int) (g : Gm) : List Str := ownN s g ++ (g.parts.attach.flatMap fun p => nmsG s p.1)
termination_by sizeOf g
decreasing_by exact Gm.part_lt p.2
theorem nmsG_eq (s : Int) (g : Gm) : nmsG s g = ownN s g ++ g.parts.flatMap (nmsG s) := by
  rw [nmsG]
  congr 1
  have : g.parts.attach.flatMap (fun p => nmsG s p.1) = (g.parts.attach.map Subtype.val).flatMap (nmsG s) := by rw [List.flatMap_map]
  rw [this, List.attach_map_subtype_val]
theorem nms_flat (s : Int) : ∀ L : List Pc, nmsOf s (L.flatMap seenP) = L.flatMap fun x => nmsOf s (seenP x)
  | [] => rfl
  | x :: L => by rw [List.flatMap_cons, nmsOf_app, nms_flat s L, List.flatMap_cons]
theorem nms_seen (s : Int) (w : List Int) (g : Gm) (r : Rc) : nmsOf s (seenP (w, g, r)) = nmsG s g := by
  induction g using Gm.ind generalizing w r with
  | h g ih =>
    rw [seen_own, nmsG_eq, nms_flat]
    have e1 : nmsOf s [(w, g, r)] = ownN s g := by
      cases g with
      | fin q => rfl
      | deal nm ws => rfl
      | move s' nm ws =>
        by_cases h : s' = s
        · simp [nmsOf, keyP, ownN, h]
        · simp [nmsOf, keyP, ownN, h]
    have e2 : ((kidsR (w, g, r)).flatMap fun x => nmsOf s (seenP x)) = g.parts.flatMap (nmsG s) := by
      have ep : g.parts = (kidsR (w, g, r)).map (·.2.1) := by
        unfold kidsR
        rw [kidsRAt_map2, Gm.brs_parts]
      rw [ep, List.flatMap_map]
      have : ∀ L : List Pc, (∀ x ∈ L, nmsOf s (seenP x) = nmsG s x.2.1) → (L.flatMap fun x => nmsOf s (seenP x)) = L.flatMap fun x => nmsG s x.2.1 := by
        intro L
        induction L with
        | nil => intro _; rfl
        | cons x L ihL =>
          intro h
          rw [List.flatMap_cons, List.flatMap_cons, h x List.mem_cons_self, ihL fun y hy => h y (List.mem_cons_of_mem _ hy)]
      exact this _ fun x hx => ih x.2.1 (kidsR_mem hx) x.1 x.2.2
    rw [e1, e2]
theorem tnames_G (g : Gm) (s : Int) : (tableS g s).map (·.2.1) = dd (nmsG s g) := by rw [tnames_eq, root, nms_seen]
theorem no_plan {k : Nat} {g : Gm} {s : Int} (hk : k ≤ 100) (hg : g.Good k) (hs : Sides g) (hm : g.many ≤ 64) (h0 : nmsG s g = []) : d_show_plan [.val g.d, .val (.int s), .val (.dict [])] = .ok (.val (.str "")) ∧ d_read_plan [.val g.d, .val (.int s), .val (.str "")] = .ok (.own (.dict [])) := by
  have hT : tableS g s = [] := by
    have := tnames_G g s
    rw [h0] at this
    exact List.map_eq_nil_iff.mp this
  have hP : PlanOk [] (tableS g s) := ⟨by rw [hT]; rfl, fun r hr => by rw [hT] at hr; cases hr⟩
  have a := show_plan_ok (k := k) (n := 1) (f := 1) (g := g) (s := s) (P := []) (sl := .val (.dict [])) (.inl rfl) (by omega) hg (by omega) hs (by decide) (by decide) (fun r hr => by rw [hT] at hr; cases hr) (fun y hy => by cases hy) (by decide) (by decide) (fun y hy => by cases hy) hP (by rw [hT]; decide)
  have b := read_plan_ok (k := k) (n := 1) (P := []) (by omega) hg (by omega) hs (by decide) (by decide) (fun r hr => by rw [hT] at hr; cases hr) (fun y hy => by cases hy) (fun y hy => by cases hy) (by simp [pkeys]) hP (by rw [PT_nil]; decide)
  rw [PT_nil] at b
  rw [hT] at a
  have e1 : planText [] (([] : List Row).map (·.2.1)) = PT [] := rfl
  rw [e1, PT_nil] at a
  exact ⟨a, b⟩
/-- a game in which one name is seen by the side, with two words -/
theorem one_plan {k : Nat} {g : Gm} {s : Int} {nm : Str} {a b : Rat} (hk : k ≤ 100) (hg : g.Good k) (ha : Gm.All GP70 g) (hm : g.many ≤ 64) (h0 : nmsG s g = [nm]) (hS : Shares [a, b] 2) (hz : Sz 40 a ∧ Sz 40 b) (hf : Fig 30 a ∧ Fig 30 b) : d_show_plan [.val g.d, .val (.int s), .val (.dict (planE [(nm, [a, b])]))] = .ok (.val (.str (PT [(nm, [a, b])]))) ∧ d_read_plan [.val g.d, .val (.int s), .val (.str (PT [(nm, [a, b])]))] = .ok (.own (.dict (planE [(nm, [a, b])]))) := by
  have hs := gp_side ha
  have hT : (tableS g s).map (·.2.1) = [nm] := by
    rw [tnames_G, h0]
    rfl
  have hrow : ∀ r ∈ tableS g s, NmOk r.2.1 ∧ r.2.2.1.length = 2 := fun r hr => by
    obtain ⟨_, y, hy, ws, e, e2, _⟩ := rowS_move hr
    obtain ⟨_, b, c⟩ := (Gm.All.seen (x := root g) ha y hy).here _ _ _ e
    exact ⟨b, by rw [e2, List.length_map]; exact c⟩
  have hin : ∀ r ∈ tableS g s, r.2.1 = nm := fun r hr => by
    have : r.2.1 ∈ (tableS g s).map (·.2.1) := List.mem_map.mpr ⟨r, hr, rfl⟩
    rw [hT, List.mem_singleton] at this
    exact this
  have hl : (tableS g s).length = 1 := by rw [← List.length_map (f := fun x : Row => x.2.1), hT]; rfl
  have hP : PlanOk [(nm, [a, b])] (tableS g s) := planOk_mk (ns := [nm]) (q := fun _ => [a, b]) (by rw [hl]; rfl) fun r hr => ⟨by rw [hin r hr]; simp, by rw [(hrow r hr).2]; exact hS⟩
  have hnm : NmOk nm := by
    obtain ⟨r, hr⟩ : ∃ r, r ∈ tableS g s := by
      cases h : tableS g s with
      | nil => rw [h] at hl; cases hl
      | cons r T => exact ⟨r, by simp⟩
    rw [← hin r hr]
    exact (hrow r hr).1
  have hq : ∀ y ∈ [(nm, [a, b])], NmOk y.1 ∧ y.2.length = 2 ∧ ∀ r ∈ y.2, Sz 40 r ∧ Fig 30 r := fun y hy => by
    rw [List.mem_singleton] at hy
    subst hy
    refine ⟨hnm, rfl, fun r hr => ?_⟩
    simp only [List.mem_cons, List.not_mem_nil, or_false] at hr
    rcases hr with rfl | rfl
    · exact ⟨hz.1, hf.1⟩
    · exact ⟨hz.2, hf.2⟩
  have x := show_plan_ok (k := k) (n := 40) (f := 30) (g := g) (s := s) (P := [(nm, [a, b])]) (.inl rfl) (by omega) hg (by omega) hs (by decide) (by decide) (fun r hr => ⟨by rw [(hrow r hr).2]; decide, by have := (hrow r hr).1.1.2; omega⟩) (fun y hy r hr => ((hq y hy).2.2 r hr).1) (by decide) (by decide) (fun y hy r hr => ((hq y hy).2.2 r hr).2) hP (by omega)
  have y := read_plan_ok (k := k) (n := 40) (g := g) (s := s) (P := [(nm, [a, b])]) (by omega) hg (by omega) hs (by decide) (by decide) (fun r hr => by rw [(hrow r hr).2]; decide) (fun y hy r hr => ((hq y hy).2.2 r hr).1) (fun y hy => ⟨(hq y hy).1, by rw [(hq y hy).2.1]; decide, by rw [(hq y hy).2.1]; decide, fun r hr => ((hq y hy).2.2 r hr).2⟩) (by simp [pkeys]) hP (by
    have := PT_len2 (P := [(nm, [a, b])]) fun y hy => ⟨(hq y hy).1, (hq y hy).2.1, fun r hr => ((hq y hy).2.2 r hr).2⟩
    have : [(nm, [a, b])].length = 1 := rfl
    omega)
  rw [hT] at x
  have e1 : planText [(nm, [a, b])] [nm] = PT [(nm, [a, b])] := planText_self (P := [(nm, [a, b])]) (by simp [pkeys])
  rw [e1] at x
  exact ⟨x, y⟩
/-! the cards -/
def rq (n : Int) (d : Nat) (h : d ≠ 0 := by decide) (h2 : n.natAbs.Coprime d := by decide) : Rat := ⟨n, d, h, h2⟩
def gMv : Gm := .move 1 "s" [("a", .fin (rq 3 1)), ("b", .fin (rq 4 1))]
def gCard : Gm := .deal "d" [(rq 1 2652, .fin (rq 1 1)), (rq 25 1326, .fin (rq 2 1)), (rq 51 52, gMv)]
abbrev T2 (a b : Int) : PyData := .tuple [.int a, .int b]
abbrev En (a b : Int) : PyData := .tuple [.str "end", T2 a b]
abbrev MvD : PyData := .tuple [.str "move", .int 1, .str "s", .tuple [.tuple [.str "a", En 3 1], .tuple [.str "b", En 4 1]]]
abbrev InD : PyData := .tuple [.str "deal", .str "e", .tuple [.tuple [T2 1 51, En 1 1], .tuple [T2 50 51, En 2 1]]]
abbrev OutD : PyData := .tuple [.str "deal", .str "d", .tuple [.tuple [T2 1 52, InD], .tuple [T2 51 52, MvD]]]
abbrev CaD : PyData := .tuple [.str "deal", .str "d", .tuple [.tuple [T2 1 2652, En 1 1], .tuple [T2 25 1326, En 2 1], .tuple [T2 51 52, MvD]]]
theorem card_d : gCard.d = CaD := by
  unfold gCard
  rw [Gm.d_deal]
  simp only [List.map_cons, List.map_nil, Gm.d_fin, gMv, Gm.d_move]
  rfl
theorem en_fold {m : Nat} {a b : Int} : d_folded (m + 1) [.val (En a b)] = .ok (.val (En a b)) := by
  have e0 : d_folded (m + 1) [.val (En a b)] = (b_folded (d_folded m) [some (.val (En a b)), none, none, none, none, none, none, none]).res := rfl
  rw [e0]
  simp [b_folded]
theorem mv_fold {m : Nat} : d_folded (m + 2) [.val MvD] = .ok (.val MvD) := by
  have e0 : d_folded (m + 2) [.val MvD] = (b_folded (d_folded (m + 1)) [some (.val MvD), none, none, none, none, none, none, none]).res := rfl
  rw [e0]
  have h := fun a b => en_fold (m := m) (a := a) (b := b)
  simp [b_folded, compR, h, fits_of]
def enc2 : Fin 2 → PyData
  | 0 => En 1 1
  | 1 => En 2 1
def enc3 : Fin 3 → PyData
  | 0 => En 1 1
  | 1 => En 2 1
  | 2 => MvD
theorem enc2_inj : ∀ a b : Fin 2, kN (enc2 a) = kN (enc2 b) → a = b := by decide +kernel
theorem enc3_inj : ∀ a b : Fin 3, kN (enc3 a) = kN (enc3 b) → a = b := by decide +kernel
theorem enc2_ok : ∀ a : Fin 2, okKey (enc2 a) = true := by decide +kernel
theorem enc3_ok : ∀ a : Fin 3, okKey (enc3 a) = true := by decide +kernel
theorem enc2_tup : ∀ a : Fin 2, isTup (enc2 a) = true := by decide +kernel
theorem enc3_tup : ∀ a : Fin 3, isTup (enc3 a) = true := by decide +kernel
theorem deal_in : d_folded_deal [.val (.str "e"), .val (.list [.tuple [T2 1 51, En 1 1], .tuple [T2 50 51, En 2 1]])] = .ok (.val InD) := by
  have hM : SzL 40 ([(0, rq 1 51), (1, rq 50 51)] : Al (Fin 2)) := fun x hx => by
    simp only [List.mem_cons, List.not_mem_nil, or_false] at hx
    rcases hx with rfl | rfl <;> exact ⟨by decide, by decide⟩
  have hn : (keys ([(0, rq 1 51), (1, rq 50 51)] : Al (Fin 2))).Nodup := by decide
  have h := folded_deal_ok enc2_inj enc2_ok enc2_tup (nm := .str "e") (by decide) hM (by decide) (szq_nodup hn) (by decide) (by decide)
  rw [coll_nodup hn] at h
  exact h
theorem deal_out : d_folded_deal [.val (.str "d"), .val (.list [.tuple [T2 1 2652, En 1 1], .tuple [T2 25 1326, En 2 1], .tuple [T2 51 52, MvD]])] = .ok (.val CaD) := by
  have hM : SzL 40 ([(0, rq 1 2652), (1, rq 25 1326), (2, rq 51 52)] : Al (Fin 3)) := fun x hx => by
    simp only [List.mem_cons, List.not_mem_nil, or_false] at hx
    rcases hx with rfl | rfl | rfl <;> exact ⟨by decide, by decide⟩
  have hn : (keys ([(0, rq 1 2652), (1, rq 25 1326), (2, rq 51 52)] : Al (Fin 3))).Nodup := by decide
  have h := folded_deal_ok enc3_inj enc3_ok enc3_tup (nm := .str "d") (by decide) hM (by decide) (szq_nodup hn) (by decide) (by decide)
  rw [coll_nodup hn] at h
  exact h
theorem tm1 : d_times [.val (T2 1 52), .val (T2 1 51)] = .ok (.val (T2 1 2652)) := by
  have h := times_q (p := rq 1 52) (q := rq 1 51) (n := 40) (by decide) (by decide) ⟨by decide, by decide⟩ ⟨by decide, by decide⟩
  have e : rq 1 52 * rq 1 51 = rq 1 2652 := by decide +kernel
  rw [e] at h
  exact h
theorem tm2 : d_times [.val (T2 1 52), .val (T2 50 51)] = .ok (.val (T2 25 1326)) := by
  have h := times_q (p := rq 1 52) (q := rq 50 51) (n := 40) (by decide) (by decide) ⟨by decide, by decide⟩ ⟨by decide, by decide⟩
  have e : rq 1 52 * rq 50 51 = rq 25 1326 := by decide +kernel
  rw [e] at h
  exact h
theorem in_fold {m : Nat} : d_folded (m + 2) [.val InD] = .ok (.val InD) := by
  have e0 : d_folded (m + 2) [.val InD] = (b_folded (d_folded (m + 1)) [some (.val InD), none, none, none, none, none, none, none]).res := rfl
  rw [e0]
  have h := fun a b => en_fold (m := m) (a := a) (b := b)
  have hz0 : 0 < sizeLine := by decide
  have hz1 : 1 < sizeLine := by decide
  simp [b_folded, L_folded_2, h, fits_of, frz, deal_in, hz0, hz1]
theorem out_fold {m : Nat} : d_folded (m + 3) [.val OutD] = .ok (.val CaD) := by
  have e0 : d_folded (m + 3) [.val OutD] = (b_folded (d_folded (m + 2)) [some (.val OutD), none, none, none, none, none, none, none]).res := rfl
  rw [e0]
  have h1 := in_fold (m := m)
  have h2 := mv_fold (m := m)
  have hz0 : 0 < sizeLine := by decide
  have hz1 : 1 < sizeLine := by decide
  have hz2 : 2 < sizeLine := by decide
  simp [b_folded, L_folded_2, L_folded_1, h1, h2, tm1, tm2, fits_of, frz, deal_out, hz0, hz1, hz2]
theorem nm_s : NmOk "s" := ⟨by decide +kernel, by decide +kernel⟩
theorem fin_all (q : Rat) : Gm.All GP70 (.fin q) := ⟨(fun s nm ws e => by cases e), (fun p hp => by simp [Gm.parts] at hp)⟩
theorem card_all : Gm.All GP70 gCard := ⟨(fun s nm ws e => by cases e), (fun p hp => by
  simp [Gm.parts, gCard] at hp
  rcases hp with rfl | rfl | rfl
  · exact fin_all _
  · exact fin_all _
  · exact ⟨(fun s nm ws e => by cases e; exact ⟨.inl rfl, nm_s, rfl⟩), (fun p hp => by
      simp [Gm.parts, gMv] at hp
      rcases hp with rfl | rfl <;> exact fin_all _)⟩)⟩
theorem ok_ab : PyData.strOk "a" = true ∧ PyData.strOk "b" = true ∧ PyData.strOk "s" = true ∧ PyData.strOk "d" = true := by decide +kernel
theorem card_good : gCard.Good 2 := ⟨by decide, ok_ab.2.2.2, fun p hp => by
  simp [Gm.parts, gCard] at hp
  rcases hp with rfl | rfl | rfl
  · exact Gm.Good.fin _ _
  · exact Gm.Good.fin _ _
  · exact ⟨by decide, ⟨ok_ab.2.2.1, fun w hw => by
      simp [gMv] at hw
      rcases hw with rfl | rfl
      · exact ok_ab.1
      · exact ok_ab.2.1⟩, fun p hp => by
      simp [Gm.parts, gMv] at hp
      rcases hp with rfl | rfl <;> exact Gm.Good.fin _ _⟩⟩
theorem fin_many (q : Rat) : (Gm.fin q).many = 1 := by rw [Gm.many_eq]; rfl
theorem card_many : gCard.many ≤ 64 := by
  rw [Gm.many_eq]
  have h : gMv.many = 3 := by rw [Gm.many_eq]; simp [Gm.parts, gMv, fin_many]
  simp [Gm.parts, gCard, fin_many, h]
theorem nms_fin (s : Int) (q : Rat) : nmsG s (.fin q) = [] := by rw [nmsG_eq]; rfl
theorem card_nms1 : nmsG 1 gCard = [("s" : Str)] := by
  have h : nmsG 1 gMv = [("s" : Str)] := by rw [nmsG_eq]; simp [Gm.parts, gMv, nms_fin, ownN]
  rw [nmsG_eq]
  simp [Gm.parts, gCard, nms_fin, h, ownN]
theorem card_nms2 : nmsG 2 gCard = [] := by
  have h : nmsG 2 gMv = [] := by rw [nmsG_eq]; simp [Gm.parts, gMv, nms_fin, ownN]
  rw [nmsG_eq]
  simp [Gm.parts, gCard, nms_fin, h, ownN]
theorem cards_ok : d__law_cards [] = .ok (.val (.bool true)) := by
  have hf := out_fold (m := 5)
  obtain ⟨a1, a2⟩ := one_plan (k := 2) (g := gCard) (s := 1) (nm := "s") (a := rq 1 3) (b := rq 2 3) (by decide) card_good card_all card_many card_nms1 ⟨rfl, by decide +kernel, by decide +kernel⟩ ⟨⟨by decide, by decide⟩, ⟨by decide, by decide⟩⟩ ⟨⟨by decide, by decide⟩, ⟨by decide, by decide⟩⟩
  obtain ⟨b1, b2⟩ := one_plan (k := 2) (g := gCard) (s := 1) (nm := "s") (a := rq 0 1) (b := rq 1 1) (by decide) card_good card_all card_many card_nms1 ⟨rfl, by decide +kernel, by decide +kernel⟩ ⟨⟨by decide, by decide⟩, ⟨by decide, by decide⟩⟩ ⟨⟨by decide, by decide⟩, ⟨by decide, by decide⟩⟩
  obtain ⟨c1, c2⟩ := no_plan (k := 2) (g := gCard) (s := 2) (by decide) card_good (gp_side card_all) card_many card_nms2
  have t1 : PT [("s", [rq 1 3, rq 2 3])] = "s 1/3 2/3" := by decide +kernel
  have t2 : PT [("s", [rq 0 1, rq 1 1])] = "s 0 1" := by decide +kernel
  rw [t1] at a1
  rw [t2] at b2
  rw [card_d] at a1 b2 c1 c2
  have p1 : planE [("s", [rq 1 3, rq 2 3])] = [(.str "s", .tuple [T2 1 3, T2 2 3])] := rfl
  have p2 : planE [("s", [rq 0 1, rq 1 1])] = [(.str "s", .tuple [T2 0 1, T2 1 1])] := rfl
  have al := alike_ok70 (P := [("s", [rq 0 1, rq 1 1])]) (R := [("s", [rq 0 1, rq 1 1])]) (alike_mk (ns := [("s" : Str)]) (ms := [("s" : Str)]) (q := fun _ => [rq 0 1, rq 1 1]) rfl fun _ h => h) (by simp [pkeys]) (fun y hy => by rw [List.mem_singleton] at hy; subst hy; decide)
  rw [p1] at a1
  rw [p2] at b2 al
  have u1 : putAll [(.str "s", .tuple [T2 1 3, T2 2 3])] = [(.str "s", .tuple [T2 1 3, T2 2 3])] := rfl
  have u2 : putAll [(.str "s", .tuple [T2 0 1, T2 1 1])] = [(.str "s", .tuple [T2 0 1, T2 1 1])] := rfl
  have v1 : flatP [(.str "s", .tuple [T2 1 3, T2 2 3])] = true := by decide +kernel
  have v2 : flatP [(.str "s", .tuple [T2 0 1, T2 1 1])] = true := by decide +kernel
  have k1 : neF (.str "s 1/3 2/3") (.str "s 1/3 2/3") = .ok (.val (.bool false)) := neF_self (shaped_str (by decide +kernel))
  have k2 : neF (.str "") (.str "") = .ok (.val (.bool false)) := neF_self (shaped_str (by decide +kernel))
  have k3 : cmpD false (.dict []) (.dict []) = .ok (.val (.bool true)) := by rw [cmpD_of (by decide) (by decide)]; rfl
  have e0 : d__law_cards [] = (b__law_cards [none, none, none]).res := rfl
  rw [e0]
  simp [b__law_cards, fits_of, hf, a1, b2, c1, c2, al, u1, u2, v1, v2, k1, k2, k3, frz]
theorem law_ok (ns : List Int) (hl : ns.length ≤ 63) : d_law [.val (.list (ns.map PyData.int))] = .ok (.val (.bool true)) := by
  obtain ⟨x, hx, hnum⟩ := numbers_ok70 ns
  obtain ⟨f, q0, q1, n0, n1, w0, w1, hf, ha, hg, hm, hgame⟩ := game_ok x hx
  obtain ⟨y20, hy20, hy20'⟩ : ∃ y : Nat, x 20 = (y : Int) ∧ y < 1000003 := ⟨(x 20).toNat, by have := hx 20; omega, by have := hx 20; omega⟩
  obtain ⟨y21, hy21, hy21'⟩ : ∃ y : Nat, x 21 = (y : Int) ∧ y < 1000003 := ⟨(x 21).toNat, by have := hx 21; omega, by have := hx 21; omega⟩
  have t1 := told_ok (s := 1) hy20' (by decide) hg ha (by omega)
  have t2 := told_ok (s := 2) hy21' (by decide) hg ha (by omega)
  rw [← hy20] at t1
  rw [← hy21] at t2
  have x20 : ixF (.list (XS x)) (.int 20) = .ok (.val (.int (x 20))) := xs_at (x := x) (i := 20) (by omega)
  have x21 : ixF (.list (XS x)) (.int 21) = .ok (.val (.int (x 21))) := xs_at (x := x) (i := 21) (by omega)
  have x22 : ixF (.list (XS x)) (.int 22) = .ok (.val (.int (x 22))) := xs_at (x := x) (i := 22) (by omega)
  have x23 : ixF (.list (XS x)) (.int 23) = .ok (.val (.int (x 23))) := xs_at (x := x) (i := 23) (by omega)
  have ex : ixF (Gm.deal "coin" [(q0, .move f n0 w0), (q1, .move f n1 w1)]).d (.int 2) = .ok (.val (.tuple [.tuple [qD q0, .tuple [.str "move", .int f, .str n0, .tuple (w0.map fun w => .tuple [.str w.1, w.2.d])]], .tuple [qD q1, (Gm.move f n1 w1).d]])) := by
    rw [Gm.d_deal]
    simp [Gm.d_move]
  generalize (Gm.deal "coin" [(q0, .move f n0 w0), (q1, .move f n1 w1)]).d = G at *
  generalize (Gm.move f n1 w1).d = G1 at *
  generalize (w0.map fun w => PyData.tuple [.str w.1, w.2.d]) = W0 at *
  -- the game alone
  have hs22 : (x 22 % 9).natAbs.log2 < 1920 := Nat.lt_trans (log2_lt (k := 10) (by decide) (by have := hx 22; omega)) (by decide)
  have st := strF_iS hs22
  have hiok : ∀ c ∈ tl ("a" ++ iS (x 22 % 9)), c < 128 := fun c hc => by
    rw [tl_append, tl_int] at hc
    rcases List.mem_append.mp hc with hc | hc
    · have : tl ("a" : Str) = [97] := by decide
      rw [this, List.mem_singleton] at hc
      omega
    · rw [if_neg (by have := hx 22; omega), List.nil_append] at hc
      have := numL_digits _ c hc
      omega
  have hstr : PyData.strOk ("a" ++ iS (x 22 % 9)) = true := digits_ok hiok
  have hlen : (iS (x 22 % 9)).length ≤ 2 := len_int (k := 1) (by decide) (by have := hx 22; omega)
  have hadd : addF (.str "a") (.str (iS (x 22 % 9))) = .ok (.val (.str ("a" ++ iS (x 22 % 9)))) := addF_str (by
    have : ("a" : Str).length = 1 := by decide
    omega)
  generalize "a" ++ iS (x 22 % 9) = wn at *
  have pg : (Gm.move f "alone" [(wn, .fin ((x 23 % 9 : Int) : Rat))]).Good 1 := ⟨by simp [Gm.parts], ⟨by decide +kernel, fun w hw => by
      rw [List.mem_singleton] at hw
      rw [hw]; exact hstr⟩, fun p hp => by
      simp [Gm.parts] at hp
      rw [hp]; rfl⟩
  have pm : (Gm.move f "alone" [(wn, .fin ((x 23 % 9 : Int) : Rat))]).many ≤ 64 := by rw [Gm.many_eq]; simp [Gm.parts, fin_many]
  have psd : Sides (Gm.move f "alone" [(wn, .fin ((x 23 % 9 : Int) : Rat))]) := sides_of ⟨(fun s nm ws e => by cases e; exact hf), (fun p hp => by
      simp [Gm.parts] at hp
      rw [hp]
      exact ⟨(fun s nm ws e => by cases e), (fun p hp => by simp [Gm.parts] at hp)⟩)⟩
  have pn : nmsG (3 - f) (Gm.move f "alone" [(wn, .fin ((x 23 % 9 : Int) : Rat))]) = [] := by
    rw [nmsG_eq]
    have : ¬ f = 3 - f := by omega
    simp [Gm.parts, nms_fin, ownN, this]
  obtain ⟨c1, c2⟩ := no_plan (by decide) pg psd pm pn
  rw [Gm.d_move] at c1 c2
  simp only [List.map_cons, List.map_nil, Gm.d_fin, qD_int] at c1 c2
  have k2 : neF (.str "") (.str "") = .ok (.val (.bool false)) := neF_self (shaped_str (by decide +kernel))
  have k3 : cmpD true (.dict []) (.dict []) = .ok (.val (.bool false)) := by rw [cmpD_of (by decide) (by decide)]; rfl
  have hc := cards_ok
  have e0 : d_law [.val (.list (ns.map PyData.int))] = (b_law [some (.val (.list (ns.map PyData.int))), none, none, none, none, none]).res := rfl
  rw [e0]
  generalize XS x = X at *
  generalize ns.map PyData.int = N at *
  unfold b_law
  rw [seq_nx (δ' := [some (.val (.list N)), some (.own (.list X)), none, none, none, none]) (by simp [hnum]),
    seq_nx (δ' := [some (.val (.list N)), some (.val (.list X)), some (.val G), none, none, none]) (by simp [frz, hgame]),
    seq_nx (δ' := [some (.val (.list N)), some (.val (.list X)), some (.val G), none, none, none]) (by simp [-ixF_list, frz, x20, x21, t1, t2]),
    seq_nx (δ' := [some (.val (.list N)), some (.val (.list X)), some (.val G), some (.val (.int f)), none, none]) (by simp [ex]),
    seq_nx (δ' := [some (.val (.list N)), some (.val (.list X)), some (.val G), some (.val (.int f)), some (.val (.tuple [.str "move", .int f, .str "alone", .tuple [.tuple [.str wn, .tuple [.str "end", .tuple [.int (x 23 % 9), .int 1]]]]])), none]) (by simp [-ixF_list, x22, x23, st, hadd, fits_of])]
  simp [c1, c2, k2, k3, hc]
/-! ### the end -/
def ecOf (c_DuelError : Addr) (c_NoNumber : Addr) (c_NoText : Addr) (c_TooGreat : Addr) (c_NoPlan : Addr) : EC → Addr
  | .DuelError => c_DuelError
  | .NoNumber => c_NoNumber
  | .NoText => c_NoText
  | .TooGreat => c_TooGreat
  | .NoPlan => c_NoPlan
  | .NoWord => 0
  | .NoPlace => 0
  | .NoName => 0
  | .NoRow => 0
  | .NoShares => 0
  | .Unlike => 0
  | .Forgets => 0
theorem all_mk {l : PySem.W.OpenLaw} {w : World} {K : PySem.W.Frag} {h : Heap} {mg : Str → Option Value} {fa c_DuelError c_NoNumber c_NoText c_TooGreat c_NoPlan f_is_whole f_divisor f_is_ratio f_ratio f_plus f_times f_under f_total f_show_ratio f_number_of f_read_ratio f_is_name f_words_of f_behind f_branches f_seen_places f_first_places f_rows_by f_table_of f_rows_of f_are_shares f_is_plan f_ask_plan f_show_plan f_read_plan f_folded_deal f_folded f__law_cell_at f__law_numbers f__law_names f__law_game f__law_seen f__law_divisor f__law_shares f__law_fraction_text f__law_text f__law_alike f__law_told f__law_cards f_law : Addr} (X : K.In h) (G : h.Ns mainGlobals mg) (hfa : mg "law" = some (.ref fa))
    {od_is_whole an_is_whole od_divisor an_divisor od_is_ratio an_is_ratio od_ratio an_ratio od_plus an_plus od_times an_times od_under an_under od_total an_total od_show_ratio an_show_ratio od_number_of an_number_of od_read_ratio an_read_ratio od_is_name an_is_name od_words_of an_words_of od_behind an_behind od_branches an_branches od_seen_places an_seen_places od_first_places an_first_places od_rows_by an_rows_by od_table_of an_table_of od_rows_of an_rows_of od_are_shares an_are_shares od_is_plan an_is_plan od_ask_plan an_ask_plan od_show_plan an_show_plan od_read_plan an_read_plan od_folded_deal an_folded_deal od_folded an_folded od__law_cell_at an__law_cell_at od__law_numbers an__law_numbers od__law_names an__law_names od__law_game an__law_game od__law_seen an__law_seen od__law_divisor an__law_divisor od__law_shares an__law_shares od__law_fraction_text an__law_fraction_text od__law_text an__law_text od__law_alike an__law_alike od__law_told an__law_told od__law_cards an__law_cards od_law an_law : Option Addr} {sl_is_whole sl_divisor sl_is_ratio sl_ratio sl_plus sl_times sl_under sl_total sl_show_ratio sl_number_of sl_read_ratio sl_is_name sl_words_of sl_behind sl_branches sl_seen_places sl_first_places sl_rows_by sl_table_of sl_rows_of sl_are_shares sl_is_plan sl_ask_plan sl_show_plan sl_read_plan sl_folded_deal sl_folded sl__law_cell_at sl__law_numbers sl__law_names sl__law_game sl__law_seen sl__law_divisor sl__law_shares sl__law_fraction_text sl__law_text sl__law_alike sl__law_told sl__law_cards sl_law : Array (Option Value)} {oc_is_whole kV_is_whole dc_is_whole pm_is_whole cd_is_whole ct_is_whole oc_divisor kV_divisor dc_divisor pm_divisor cd_divisor ct_divisor oc_is_ratio kV_is_ratio dc_is_ratio pm_is_ratio cd_is_ratio ct_is_ratio oc_ratio kV_ratio dc_ratio pm_ratio cd_ratio ct_ratio oc_plus kV_plus dc_plus pm_plus cd_plus ct_plus oc_times kV_times dc_times pm_times cd_times ct_times oc_under kV_under dc_under pm_under cd_under ct_under oc_total kV_total dc_total pm_total cd_total ct_total oc_show_ratio kV_show_ratio dc_show_ratio pm_show_ratio cd_show_ratio ct_show_ratio oc_number_of kV_number_of dc_number_of pm_number_of cd_number_of ct_number_of oc_read_ratio kV_read_ratio dc_read_ratio pm_read_ratio cd_read_ratio ct_read_ratio oc_is_name kV_is_name dc_is_name pm_is_name cd_is_name ct_is_name oc_words_of kV_words_of dc_words_of pm_words_of cd_words_of ct_words_of oc_behind kV_behind dc_behind pm_behind cd_behind ct_behind oc_branches kV_branches dc_branches pm_branches cd_branches ct_branches oc_seen_places kV_seen_places dc_seen_places pm_seen_places cd_seen_places ct_seen_places oc_first_places kV_first_places dc_first_places pm_first_places cd_first_places ct_first_places oc_rows_by kV_rows_by dc_rows_by pm_rows_by cd_rows_by ct_rows_by oc_table_of kV_table_of dc_table_of pm_table_of cd_table_of ct_table_of oc_rows_of kV_rows_of dc_rows_of pm_rows_of cd_rows_of ct_rows_of oc_are_shares kV_are_shares dc_are_shares pm_are_shares cd_are_shares ct_are_shares oc_is_plan kV_is_plan dc_is_plan pm_is_plan cd_is_plan ct_is_plan oc_ask_plan kV_ask_plan dc_ask_plan pm_ask_plan cd_ask_plan ct_ask_plan oc_show_plan kV_show_plan dc_show_plan pm_show_plan cd_show_plan ct_show_plan oc_read_plan kV_read_plan dc_read_plan pm_read_plan cd_read_plan ct_read_plan oc_folded_deal kV_folded_deal dc_folded_deal pm_folded_deal cd_folded_deal ct_folded_deal oc_folded kV_folded dc_folded pm_folded cd_folded ct_folded oc__law_cell_at kV__law_cell_at dc__law_cell_at pm__law_cell_at cd__law_cell_at ct__law_cell_at oc__law_numbers kV__law_numbers dc__law_numbers pm__law_numbers cd__law_numbers ct__law_numbers oc__law_names kV__law_names dc__law_names pm__law_names cd__law_names ct__law_names oc__law_game kV__law_game dc__law_game pm__law_game cd__law_game ct__law_game oc__law_seen kV__law_seen dc__law_seen pm__law_seen cd__law_seen ct__law_seen oc__law_divisor kV__law_divisor dc__law_divisor pm__law_divisor cd__law_divisor ct__law_divisor oc__law_shares kV__law_shares dc__law_shares pm__law_shares cd__law_shares ct__law_shares oc__law_fraction_text kV__law_fraction_text dc__law_fraction_text pm__law_fraction_text cd__law_fraction_text ct__law_fraction_text oc__law_text kV__law_text dc__law_text pm__law_text cd__law_text ct__law_text oc__law_alike kV__law_alike dc__law_alike pm__law_alike cd__law_alike ct__law_alike oc__law_told kV__law_told dc__law_told pm__law_told cd__law_told ct__law_told oc__law_cards kV__law_cards dc__law_cards pm__law_cards cd__law_cards ct__law_cards oc_law kV_law dc_law pm_law cd_law ct_law : Value}
    {tk_FIGURES : Tok}
    {tk_MOST_FIGURES : Tok}
    {tk_SIGNS : Tok}
    {tk_LONGEST : Tok}
    {tk_MOST_PLACES : Tok}
    {tk_LONGEST_WAY : Tok}
    (e_DuelError : PySem.W.nsIn K mainGlobals "DuelError" = some (some (.ref c_DuelError)))
    (e_NoNumber : PySem.W.nsIn K mainGlobals "NoNumber" = some (some (.ref c_NoNumber)))
    (e_NoText : PySem.W.nsIn K mainGlobals "NoText" = some (some (.ref c_NoText)))
    (e_TooGreat : PySem.W.nsIn K mainGlobals "TooGreat" = some (some (.ref c_TooGreat)))
    (e_NoPlan : PySem.W.nsIn K mainGlobals "NoPlan" = some (some (.ref c_NoPlan)))
    (a_is_whole : PySem.W.nsIn K mainGlobals "is_whole" = some (some (.ref f_is_whole)))
    (l_is_whole : K.lookup f_is_whole = some ⟨oc_is_whole, od_is_whole, .func (PySem.W.fnOf "is_whole" "is_whole" (defArgs s_is_whole) (defBody s_is_whole) (defScope s_is_whole) .none kV_is_whole dc_is_whole pm_is_whole an_is_whole cd_is_whole ct_is_whole), sl_is_whole⟩)
    (q_is_whole : PySem.W.codeIn K cd_is_whole "is_whole" = true)
    (p_is_whole : PySem.W.keepIn K (.ref f_is_whole) = true)
    (a_divisor : PySem.W.nsIn K mainGlobals "divisor" = some (some (.ref f_divisor)))
    (l_divisor : K.lookup f_divisor = some ⟨oc_divisor, od_divisor, .func (PySem.W.fnOf "divisor" "divisor" (defArgs s_divisor) (defBody s_divisor) (defScope s_divisor) .none kV_divisor dc_divisor pm_divisor an_divisor cd_divisor ct_divisor), sl_divisor⟩)
    (q_divisor : PySem.W.codeIn K cd_divisor "divisor" = true)
    (p_divisor : PySem.W.keepIn K (.ref f_divisor) = true)
    (a_is_ratio : PySem.W.nsIn K mainGlobals "is_ratio" = some (some (.ref f_is_ratio)))
    (l_is_ratio : K.lookup f_is_ratio = some ⟨oc_is_ratio, od_is_ratio, .func (PySem.W.fnOf "is_ratio" "is_ratio" (defArgs s_is_ratio) (defBody s_is_ratio) (defScope s_is_ratio) .none kV_is_ratio dc_is_ratio pm_is_ratio an_is_ratio cd_is_ratio ct_is_ratio), sl_is_ratio⟩)
    (q_is_ratio : PySem.W.codeIn K cd_is_ratio "is_ratio" = true)
    (p_is_ratio : PySem.W.keepIn K (.ref f_is_ratio) = true)
    (a_ratio : PySem.W.nsIn K mainGlobals "ratio" = some (some (.ref f_ratio)))
    (l_ratio : K.lookup f_ratio = some ⟨oc_ratio, od_ratio, .func (PySem.W.fnOf "ratio" "ratio" (defArgs s_ratio) (defBody s_ratio) (defScope s_ratio) .none kV_ratio dc_ratio pm_ratio an_ratio cd_ratio ct_ratio), sl_ratio⟩)
    (q_ratio : PySem.W.codeIn K cd_ratio "ratio" = true)
    (p_ratio : PySem.W.keepIn K (.ref f_ratio) = true)
    (a_plus : PySem.W.nsIn K mainGlobals "plus" = some (some (.ref f_plus)))
    (l_plus : K.lookup f_plus = some ⟨oc_plus, od_plus, .func (PySem.W.fnOf "plus" "plus" (defArgs s_plus) (defBody s_plus) (defScope s_plus) .none kV_plus dc_plus pm_plus an_plus cd_plus ct_plus), sl_plus⟩)
    (q_plus : PySem.W.codeIn K cd_plus "plus" = true)
    (p_plus : PySem.W.keepIn K (.ref f_plus) = true)
    (a_times : PySem.W.nsIn K mainGlobals "times" = some (some (.ref f_times)))
    (l_times : K.lookup f_times = some ⟨oc_times, od_times, .func (PySem.W.fnOf "times" "times" (defArgs s_times) (defBody s_times) (defScope s_times) .none kV_times dc_times pm_times an_times cd_times ct_times), sl_times⟩)
    (q_times : PySem.W.codeIn K cd_times "times" = true)
    (p_times : PySem.W.keepIn K (.ref f_times) = true)
    (a_under : PySem.W.nsIn K mainGlobals "under" = some (some (.ref f_under)))
    (l_under : K.lookup f_under = some ⟨oc_under, od_under, .func (PySem.W.fnOf "under" "under" (defArgs s_under) (defBody s_under) (defScope s_under) .none kV_under dc_under pm_under an_under cd_under ct_under), sl_under⟩)
    (q_under : PySem.W.codeIn K cd_under "under" = true)
    (p_under : PySem.W.keepIn K (.ref f_under) = true)
    (a_total : PySem.W.nsIn K mainGlobals "total" = some (some (.ref f_total)))
    (l_total : K.lookup f_total = some ⟨oc_total, od_total, .func (PySem.W.fnOf "total" "total" (defArgs s_total) (defBody s_total) (defScope s_total) .none kV_total dc_total pm_total an_total cd_total ct_total), sl_total⟩)
    (q_total : PySem.W.codeIn K cd_total "total" = true)
    (p_total : PySem.W.keepIn K (.ref f_total) = true)
    (a_show_ratio : PySem.W.nsIn K mainGlobals "show_ratio" = some (some (.ref f_show_ratio)))
    (l_show_ratio : K.lookup f_show_ratio = some ⟨oc_show_ratio, od_show_ratio, .func (PySem.W.fnOf "show_ratio" "show_ratio" (defArgs s_show_ratio) (defBody s_show_ratio) (defScope s_show_ratio) .none kV_show_ratio dc_show_ratio pm_show_ratio an_show_ratio cd_show_ratio ct_show_ratio), sl_show_ratio⟩)
    (q_show_ratio : PySem.W.codeIn K cd_show_ratio "show_ratio" = true)
    (p_show_ratio : PySem.W.keepIn K (.ref f_show_ratio) = true)
    (a_number_of : PySem.W.nsIn K mainGlobals "number_of" = some (some (.ref f_number_of)))
    (l_number_of : K.lookup f_number_of = some ⟨oc_number_of, od_number_of, .func (PySem.W.fnOf "number_of" "number_of" (defArgs s_number_of) (defBody s_number_of) (defScope s_number_of) .none kV_number_of dc_number_of pm_number_of an_number_of cd_number_of ct_number_of), sl_number_of⟩)
    (q_number_of : PySem.W.codeIn K cd_number_of "number_of" = true)
    (p_number_of : PySem.W.keepIn K (.ref f_number_of) = true)
    (a_read_ratio : PySem.W.nsIn K mainGlobals "read_ratio" = some (some (.ref f_read_ratio)))
    (l_read_ratio : K.lookup f_read_ratio = some ⟨oc_read_ratio, od_read_ratio, .func (PySem.W.fnOf "read_ratio" "read_ratio" (defArgs s_read_ratio) (defBody s_read_ratio) (defScope s_read_ratio) .none kV_read_ratio dc_read_ratio pm_read_ratio an_read_ratio cd_read_ratio ct_read_ratio), sl_read_ratio⟩)
    (q_read_ratio : PySem.W.codeIn K cd_read_ratio "read_ratio" = true)
    (p_read_ratio : PySem.W.keepIn K (.ref f_read_ratio) = true)
    (a_is_name : PySem.W.nsIn K mainGlobals "is_name" = some (some (.ref f_is_name)))
    (l_is_name : K.lookup f_is_name = some ⟨oc_is_name, od_is_name, .func (PySem.W.fnOf "is_name" "is_name" (defArgs s_is_name) (defBody s_is_name) (defScope s_is_name) .none kV_is_name dc_is_name pm_is_name an_is_name cd_is_name ct_is_name), sl_is_name⟩)
    (q_is_name : PySem.W.codeIn K cd_is_name "is_name" = true)
    (p_is_name : PySem.W.keepIn K (.ref f_is_name) = true)
    (a_words_of : PySem.W.nsIn K mainGlobals "words_of" = some (some (.ref f_words_of)))
    (l_words_of : K.lookup f_words_of = some ⟨oc_words_of, od_words_of, .func (PySem.W.fnOf "words_of" "words_of" (defArgs s_words_of) (defBody s_words_of) (defScope s_words_of) .none kV_words_of dc_words_of pm_words_of an_words_of cd_words_of ct_words_of), sl_words_of⟩)
    (q_words_of : PySem.W.codeIn K cd_words_of "words_of" = true)
    (p_words_of : PySem.W.keepIn K (.ref f_words_of) = true)
    (a_behind : PySem.W.nsIn K mainGlobals "behind" = some (some (.ref f_behind)))
    (l_behind : K.lookup f_behind = some ⟨oc_behind, od_behind, .func (PySem.W.fnOf "behind" "behind" (defArgs s_behind) (defBody s_behind) (defScope s_behind) .none kV_behind dc_behind pm_behind an_behind cd_behind ct_behind), sl_behind⟩)
    (q_behind : PySem.W.codeIn K cd_behind "behind" = true)
    (p_behind : PySem.W.keepIn K (.ref f_behind) = true)
    (a_branches : PySem.W.nsIn K mainGlobals "branches" = some (some (.ref f_branches)))
    (l_branches : K.lookup f_branches = some ⟨oc_branches, od_branches, .func (PySem.W.fnOf "branches" "branches" (defArgs s_branches) (defBody s_branches) (defScope s_branches) .none kV_branches dc_branches pm_branches an_branches cd_branches ct_branches), sl_branches⟩)
    (q_branches : PySem.W.codeIn K cd_branches "branches" = true)
    (p_branches : PySem.W.keepIn K (.ref f_branches) = true)
    (a_seen_places : PySem.W.nsIn K mainGlobals "seen_places" = some (some (.ref f_seen_places)))
    (l_seen_places : K.lookup f_seen_places = some ⟨oc_seen_places, od_seen_places, .func (PySem.W.fnOf "seen_places" "seen_places" (defArgs s_seen_places) (defBody s_seen_places) (defScope s_seen_places) .none kV_seen_places dc_seen_places pm_seen_places an_seen_places cd_seen_places ct_seen_places), sl_seen_places⟩)
    (q_seen_places : PySem.W.codeIn K cd_seen_places "seen_places" = true)
    (p_seen_places : PySem.W.keepIn K (.ref f_seen_places) = true)
    (a_first_places : PySem.W.nsIn K mainGlobals "first_places" = some (some (.ref f_first_places)))
    (l_first_places : K.lookup f_first_places = some ⟨oc_first_places, od_first_places, .func (PySem.W.fnOf "first_places" "first_places" (defArgs s_first_places) (defBody s_first_places) (defScope s_first_places) .none kV_first_places dc_first_places pm_first_places an_first_places cd_first_places ct_first_places), sl_first_places⟩)
    (q_first_places : PySem.W.codeIn K cd_first_places "first_places" = true)
    (p_first_places : PySem.W.keepIn K (.ref f_first_places) = true)
    (a_rows_by : PySem.W.nsIn K mainGlobals "rows_by" = some (some (.ref f_rows_by)))
    (l_rows_by : K.lookup f_rows_by = some ⟨oc_rows_by, od_rows_by, .func (PySem.W.fnOf "rows_by" "rows_by" (defArgs s_rows_by) (defBody s_rows_by) (defScope s_rows_by) .none kV_rows_by dc_rows_by pm_rows_by an_rows_by cd_rows_by ct_rows_by), sl_rows_by⟩)
    (q_rows_by : PySem.W.codeIn K cd_rows_by "rows_by" = true)
    (p_rows_by : PySem.W.keepIn K (.ref f_rows_by) = true)
    (a_table_of : PySem.W.nsIn K mainGlobals "table_of" = some (some (.ref f_table_of)))
    (l_table_of : K.lookup f_table_of = some ⟨oc_table_of, od_table_of, .func (PySem.W.fnOf "table_of" "table_of" (defArgs s_table_of) (defBody s_table_of) (defScope s_table_of) .none kV_table_of dc_table_of pm_table_of an_table_of cd_table_of ct_table_of), sl_table_of⟩)
    (q_table_of : PySem.W.codeIn K cd_table_of "table_of" = true)
    (p_table_of : PySem.W.keepIn K (.ref f_table_of) = true)
    (a_rows_of : PySem.W.nsIn K mainGlobals "rows_of" = some (some (.ref f_rows_of)))
    (l_rows_of : K.lookup f_rows_of = some ⟨oc_rows_of, od_rows_of, .func (PySem.W.fnOf "rows_of" "rows_of" (defArgs s_rows_of) (defBody s_rows_of) (defScope s_rows_of) .none kV_rows_of dc_rows_of pm_rows_of an_rows_of cd_rows_of ct_rows_of), sl_rows_of⟩)
    (q_rows_of : PySem.W.codeIn K cd_rows_of "rows_of" = true)
    (p_rows_of : PySem.W.keepIn K (.ref f_rows_of) = true)
    (a_are_shares : PySem.W.nsIn K mainGlobals "are_shares" = some (some (.ref f_are_shares)))
    (l_are_shares : K.lookup f_are_shares = some ⟨oc_are_shares, od_are_shares, .func (PySem.W.fnOf "are_shares" "are_shares" (defArgs s_are_shares) (defBody s_are_shares) (defScope s_are_shares) .none kV_are_shares dc_are_shares pm_are_shares an_are_shares cd_are_shares ct_are_shares), sl_are_shares⟩)
    (q_are_shares : PySem.W.codeIn K cd_are_shares "are_shares" = true)
    (p_are_shares : PySem.W.keepIn K (.ref f_are_shares) = true)
    (a_is_plan : PySem.W.nsIn K mainGlobals "is_plan" = some (some (.ref f_is_plan)))
    (l_is_plan : K.lookup f_is_plan = some ⟨oc_is_plan, od_is_plan, .func (PySem.W.fnOf "is_plan" "is_plan" (defArgs s_is_plan) (defBody s_is_plan) (defScope s_is_plan) .none kV_is_plan dc_is_plan pm_is_plan an_is_plan cd_is_plan ct_is_plan), sl_is_plan⟩)
    (q_is_plan : PySem.W.codeIn K cd_is_plan "is_plan" = true)
    (p_is_plan : PySem.W.keepIn K (.ref f_is_plan) = true)
    (a_ask_plan : PySem.W.nsIn K mainGlobals "ask_plan" = some (some (.ref f_ask_plan)))
    (l_ask_plan : K.lookup f_ask_plan = some ⟨oc_ask_plan, od_ask_plan, .func (PySem.W.fnOf "ask_plan" "ask_plan" (defArgs s_ask_plan) (defBody s_ask_plan) (defScope s_ask_plan) .none kV_ask_plan dc_ask_plan pm_ask_plan an_ask_plan cd_ask_plan ct_ask_plan), sl_ask_plan⟩)
    (q_ask_plan : PySem.W.codeIn K cd_ask_plan "ask_plan" = true)
    (p_ask_plan : PySem.W.keepIn K (.ref f_ask_plan) = true)
    (a_show_plan : PySem.W.nsIn K mainGlobals "show_plan" = some (some (.ref f_show_plan)))
    (l_show_plan : K.lookup f_show_plan = some ⟨oc_show_plan, od_show_plan, .func (PySem.W.fnOf "show_plan" "show_plan" (defArgs s_show_plan) (defBody s_show_plan) (defScope s_show_plan) .none kV_show_plan dc_show_plan pm_show_plan an_show_plan cd_show_plan ct_show_plan), sl_show_plan⟩)
    (q_show_plan : PySem.W.codeIn K cd_show_plan "show_plan" = true)
    (p_show_plan : PySem.W.keepIn K (.ref f_show_plan) = true)
    (a_read_plan : PySem.W.nsIn K mainGlobals "read_plan" = some (some (.ref f_read_plan)))
    (l_read_plan : K.lookup f_read_plan = some ⟨oc_read_plan, od_read_plan, .func (PySem.W.fnOf "read_plan" "read_plan" (defArgs s_read_plan) (defBody s_read_plan) (defScope s_read_plan) .none kV_read_plan dc_read_plan pm_read_plan an_read_plan cd_read_plan ct_read_plan), sl_read_plan⟩)
    (q_read_plan : PySem.W.codeIn K cd_read_plan "read_plan" = true)
    (p_read_plan : PySem.W.keepIn K (.ref f_read_plan) = true)
    (a_folded_deal : PySem.W.nsIn K mainGlobals "folded_deal" = some (some (.ref f_folded_deal)))
    (l_folded_deal : K.lookup f_folded_deal = some ⟨oc_folded_deal, od_folded_deal, .func (PySem.W.fnOf "folded_deal" "folded_deal" (defArgs s_folded_deal) (defBody s_folded_deal) (defScope s_folded_deal) .none kV_folded_deal dc_folded_deal pm_folded_deal an_folded_deal cd_folded_deal ct_folded_deal), sl_folded_deal⟩)
    (q_folded_deal : PySem.W.codeIn K cd_folded_deal "folded_deal" = true)
    (p_folded_deal : PySem.W.keepIn K (.ref f_folded_deal) = true)
    (a_folded : PySem.W.nsIn K mainGlobals "folded" = some (some (.ref f_folded)))
    (l_folded : K.lookup f_folded = some ⟨oc_folded, od_folded, .func (PySem.W.fnOf "folded" "folded" (defArgs s_folded) (defBody s_folded) (defScope s_folded) .none kV_folded dc_folded pm_folded an_folded cd_folded ct_folded), sl_folded⟩)
    (q_folded : PySem.W.codeIn K cd_folded "folded" = true)
    (p_folded : PySem.W.keepIn K (.ref f_folded) = true)
    (a__law_cell_at : PySem.W.nsIn K mainGlobals "_law_cell_at" = some (some (.ref f__law_cell_at)))
    (l__law_cell_at : K.lookup f__law_cell_at = some ⟨oc__law_cell_at, od__law_cell_at, .func (PySem.W.fnOf "_law_cell_at" "_law_cell_at" (defArgs s__law_cell_at) (defBody s__law_cell_at) (defScope s__law_cell_at) .none kV__law_cell_at dc__law_cell_at pm__law_cell_at an__law_cell_at cd__law_cell_at ct__law_cell_at), sl__law_cell_at⟩)
    (q__law_cell_at : PySem.W.codeIn K cd__law_cell_at "_law_cell_at" = true)
    (p__law_cell_at : PySem.W.keepIn K (.ref f__law_cell_at) = true)
    (a__law_numbers : PySem.W.nsIn K mainGlobals "_law_numbers" = some (some (.ref f__law_numbers)))
    (l__law_numbers : K.lookup f__law_numbers = some ⟨oc__law_numbers, od__law_numbers, .func (PySem.W.fnOf "_law_numbers" "_law_numbers" (defArgs s__law_numbers) (defBody s__law_numbers) (defScope s__law_numbers) .none kV__law_numbers dc__law_numbers pm__law_numbers an__law_numbers cd__law_numbers ct__law_numbers), sl__law_numbers⟩)
    (q__law_numbers : PySem.W.codeIn K cd__law_numbers "_law_numbers" = true)
    (p__law_numbers : PySem.W.keepIn K (.ref f__law_numbers) = true)
    (a__law_names : PySem.W.nsIn K mainGlobals "_law_names" = some (some (.ref f__law_names)))
    (l__law_names : K.lookup f__law_names = some ⟨oc__law_names, od__law_names, .func (PySem.W.fnOf "_law_names" "_law_names" (defArgs s__law_names) (defBody s__law_names) (defScope s__law_names) .none kV__law_names dc__law_names pm__law_names an__law_names cd__law_names ct__law_names), sl__law_names⟩)
    (q__law_names : PySem.W.codeIn K cd__law_names "_law_names" = true)
    (p__law_names : PySem.W.keepIn K (.ref f__law_names) = true)
    (a__law_game : PySem.W.nsIn K mainGlobals "_law_game" = some (some (.ref f__law_game)))
    (l__law_game : K.lookup f__law_game = some ⟨oc__law_game, od__law_game, .func (PySem.W.fnOf "_law_game" "_law_game" (defArgs s__law_game) (defBody s__law_game) (defScope s__law_game) .none kV__law_game dc__law_game pm__law_game an__law_game cd__law_game ct__law_game), sl__law_game⟩)
    (q__law_game : PySem.W.codeIn K cd__law_game "_law_game" = true)
    (p__law_game : PySem.W.keepIn K (.ref f__law_game) = true)
    (a__law_seen : PySem.W.nsIn K mainGlobals "_law_seen" = some (some (.ref f__law_seen)))
    (l__law_seen : K.lookup f__law_seen = some ⟨oc__law_seen, od__law_seen, .func (PySem.W.fnOf "_law_seen" "_law_seen" (defArgs s__law_seen) (defBody s__law_seen) (defScope s__law_seen) .none kV__law_seen dc__law_seen pm__law_seen an__law_seen cd__law_seen ct__law_seen), sl__law_seen⟩)
    (q__law_seen : PySem.W.codeIn K cd__law_seen "_law_seen" = true)
    (p__law_seen : PySem.W.keepIn K (.ref f__law_seen) = true)
    (a__law_divisor : PySem.W.nsIn K mainGlobals "_law_divisor" = some (some (.ref f__law_divisor)))
    (l__law_divisor : K.lookup f__law_divisor = some ⟨oc__law_divisor, od__law_divisor, .func (PySem.W.fnOf "_law_divisor" "_law_divisor" (defArgs s__law_divisor) (defBody s__law_divisor) (defScope s__law_divisor) .none kV__law_divisor dc__law_divisor pm__law_divisor an__law_divisor cd__law_divisor ct__law_divisor), sl__law_divisor⟩)
    (q__law_divisor : PySem.W.codeIn K cd__law_divisor "_law_divisor" = true)
    (p__law_divisor : PySem.W.keepIn K (.ref f__law_divisor) = true)
    (a__law_shares : PySem.W.nsIn K mainGlobals "_law_shares" = some (some (.ref f__law_shares)))
    (l__law_shares : K.lookup f__law_shares = some ⟨oc__law_shares, od__law_shares, .func (PySem.W.fnOf "_law_shares" "_law_shares" (defArgs s__law_shares) (defBody s__law_shares) (defScope s__law_shares) .none kV__law_shares dc__law_shares pm__law_shares an__law_shares cd__law_shares ct__law_shares), sl__law_shares⟩)
    (q__law_shares : PySem.W.codeIn K cd__law_shares "_law_shares" = true)
    (p__law_shares : PySem.W.keepIn K (.ref f__law_shares) = true)
    (a__law_fraction_text : PySem.W.nsIn K mainGlobals "_law_fraction_text" = some (some (.ref f__law_fraction_text)))
    (l__law_fraction_text : K.lookup f__law_fraction_text = some ⟨oc__law_fraction_text, od__law_fraction_text, .func (PySem.W.fnOf "_law_fraction_text" "_law_fraction_text" (defArgs s__law_fraction_text) (defBody s__law_fraction_text) (defScope s__law_fraction_text) .none kV__law_fraction_text dc__law_fraction_text pm__law_fraction_text an__law_fraction_text cd__law_fraction_text ct__law_fraction_text), sl__law_fraction_text⟩)
    (q__law_fraction_text : PySem.W.codeIn K cd__law_fraction_text "_law_fraction_text" = true)
    (p__law_fraction_text : PySem.W.keepIn K (.ref f__law_fraction_text) = true)
    (a__law_text : PySem.W.nsIn K mainGlobals "_law_text" = some (some (.ref f__law_text)))
    (l__law_text : K.lookup f__law_text = some ⟨oc__law_text, od__law_text, .func (PySem.W.fnOf "_law_text" "_law_text" (defArgs s__law_text) (defBody s__law_text) (defScope s__law_text) .none kV__law_text dc__law_text pm__law_text an__law_text cd__law_text ct__law_text), sl__law_text⟩)
    (q__law_text : PySem.W.codeIn K cd__law_text "_law_text" = true)
    (p__law_text : PySem.W.keepIn K (.ref f__law_text) = true)
    (a__law_alike : PySem.W.nsIn K mainGlobals "_law_alike" = some (some (.ref f__law_alike)))
    (l__law_alike : K.lookup f__law_alike = some ⟨oc__law_alike, od__law_alike, .func (PySem.W.fnOf "_law_alike" "_law_alike" (defArgs s__law_alike) (defBody s__law_alike) (defScope s__law_alike) .none kV__law_alike dc__law_alike pm__law_alike an__law_alike cd__law_alike ct__law_alike), sl__law_alike⟩)
    (q__law_alike : PySem.W.codeIn K cd__law_alike "_law_alike" = true)
    (p__law_alike : PySem.W.keepIn K (.ref f__law_alike) = true)
    (a__law_told : PySem.W.nsIn K mainGlobals "_law_told" = some (some (.ref f__law_told)))
    (l__law_told : K.lookup f__law_told = some ⟨oc__law_told, od__law_told, .func (PySem.W.fnOf "_law_told" "_law_told" (defArgs s__law_told) (defBody s__law_told) (defScope s__law_told) .none kV__law_told dc__law_told pm__law_told an__law_told cd__law_told ct__law_told), sl__law_told⟩)
    (q__law_told : PySem.W.codeIn K cd__law_told "_law_told" = true)
    (p__law_told : PySem.W.keepIn K (.ref f__law_told) = true)
    (a__law_cards : PySem.W.nsIn K mainGlobals "_law_cards" = some (some (.ref f__law_cards)))
    (l__law_cards : K.lookup f__law_cards = some ⟨oc__law_cards, od__law_cards, .func (PySem.W.fnOf "_law_cards" "_law_cards" (defArgs s__law_cards) (defBody s__law_cards) (defScope s__law_cards) .none kV__law_cards dc__law_cards pm__law_cards an__law_cards cd__law_cards ct__law_cards), sl__law_cards⟩)
    (q__law_cards : PySem.W.codeIn K cd__law_cards "_law_cards" = true)
    (p__law_cards : PySem.W.keepIn K (.ref f__law_cards) = true)
    (a_law : PySem.W.nsIn K mainGlobals "law" = some (some (.ref f_law)))
    (l_law : K.lookup f_law = some ⟨oc_law, od_law, .func (PySem.W.fnOf "law" "law" (defArgs s_law) (defBody s_law) (defScope s_law) .none kV_law dc_law pm_law an_law cd_law ct_law), sl_law⟩)
    (q_law : PySem.W.codeIn K cd_law "law" = true)
    (p_law : PySem.W.keepIn K (.ref f_law) = true)
    (zb_abs : PySem.W.nsIn K mainGlobals "abs" = some none)
    (zb_bool : PySem.W.nsIn K mainGlobals "bool" = some none)
    (zb_dict : PySem.W.nsIn K mainGlobals "dict" = some none)
    (zb_int : PySem.W.nsIn K mainGlobals "int" = some none)
    (zb_isinstance : PySem.W.nsIn K mainGlobals "isinstance" = some none)
    (zb_len : PySem.W.nsIn K mainGlobals "len" = some none)
    (zb_list : PySem.W.nsIn K mainGlobals "list" = some none)
    (zb_range : PySem.W.nsIn K mainGlobals "range" = some none)
    (zb_reversed : PySem.W.nsIn K mainGlobals "reversed" = some none)
    (zb_str : PySem.W.nsIn K mainGlobals "str" = some none)
    (zb_tuple : PySem.W.nsIn K mainGlobals "tuple" = some none)
    (hk_NoNumber : PySem.W.keepIn K (.ref c_NoNumber) = true)
    (hx_NoNumber : PySem.W.excIn K c_NoNumber [.type "ValueError", .type "Exception", .type "BaseException", .type "object"] "ValueError.__new__" = true)
    (hs_NoNumber : PySem.W.subIn K (.ref c_NoNumber) (.type "BaseException") = some true)
    (ht_NoNumber : PySem.W.typeIn K (.ref c_NoNumber) = some (.type "type"))
    (hk_NoText : PySem.W.keepIn K (.ref c_NoText) = true)
    (hx_NoText : PySem.W.excIn K c_NoText [.type "ValueError", .type "Exception", .type "BaseException", .type "object"] "ValueError.__new__" = true)
    (hs_NoText : PySem.W.subIn K (.ref c_NoText) (.type "BaseException") = some true)
    (ht_NoText : PySem.W.typeIn K (.ref c_NoText) = some (.type "type"))
    (hk_TooGreat : PySem.W.keepIn K (.ref c_TooGreat) = true)
    (hx_TooGreat : PySem.W.excIn K c_TooGreat [.type "ValueError", .type "Exception", .type "BaseException", .type "object"] "ValueError.__new__" = true)
    (hs_TooGreat : PySem.W.subIn K (.ref c_TooGreat) (.type "BaseException") = some true)
    (ht_TooGreat : PySem.W.typeIn K (.ref c_TooGreat) = some (.type "type"))
    (hk_NoPlan : PySem.W.keepIn K (.ref c_NoPlan) = true)
    (hx_NoPlan : PySem.W.excIn K c_NoPlan [.type "ValueError", .type "Exception", .type "BaseException", .type "object"] "ValueError.__new__" = true)
    (hs_NoPlan : PySem.W.subIn K (.ref c_NoPlan) (.type "BaseException") = some true)
    (ht_NoPlan : PySem.W.typeIn K (.ref c_NoPlan) = some (.type "type"))
    (em_FIGURES : PySem.W.nsIn K mainGlobals "FIGURES" = some (some (.str "0123456789" tk_FIGURES)))
    (em_MOST_FIGURES : PySem.W.nsIn K mainGlobals "MOST_FIGURES" = some (some (.int 30 tk_MOST_FIGURES)))
    (em_SIGNS : PySem.W.nsIn K mainGlobals "SIGNS" = some (some (.str "abcdefghijklmnopqrstuvwxyz0123456789" tk_SIGNS)))
    (em_LONGEST : PySem.W.nsIn K mainGlobals "LONGEST" = some (some (.int 8 tk_LONGEST)))
    (em_MOST_PLACES : PySem.W.nsIn K mainGlobals "MOST_PLACES" = some (some (.int 64 tk_MOST_PLACES)))
    (em_LONGEST_WAY : PySem.W.nsIn K mainGlobals "LONGEST_WAY" = some (some (.int 12 tk_LONGEST_WAY)))
    : ∃ fd : FuncData, (∀ (s : Shared) (v : Value), BindsTo s fd ⟨[v], []⟩ [("_law_script", v)]) ∧ ∀ base : Heap, K.In base → base.Ns mainGlobals mg → FnOk l.prog w K mg base (L2.CX l.prog w) 15 fa fd P_law (spD ⟨⟨K, w⟩, ecOf c_DuelError c_NoNumber c_NoText c_TooGreat c_NoPlan, fun _ _ => False, []⟩ d_law) := by
  have e := hfa.symm.trans (PySem.W.mg_of X G a_law)
  cases e
  have T : Txt K mg (ecOf c_DuelError c_NoNumber c_NoText c_TooGreat c_NoPlan) := {
    b_abs := PySem.W.mg_none_of X G zb_abs
    b_bool := PySem.W.mg_none_of X G zb_bool
    b_dict := PySem.W.mg_none_of X G zb_dict
    b_int := PySem.W.mg_none_of X G zb_int
    b_isinstance := PySem.W.mg_none_of X G zb_isinstance
    b_len := PySem.W.mg_none_of X G zb_len
    b_list := PySem.W.mg_none_of X G zb_list
    b_range := PySem.W.mg_none_of X G zb_range
    b_reversed := PySem.W.mg_none_of X G zb_reversed
    b_str := PySem.W.mg_none_of X G zb_str
    b_tuple := PySem.W.mg_none_of X G zb_tuple
    g_DuelError := PySem.W.mg_of X G e_DuelError
    g_NoNumber := PySem.W.mg_of X G e_NoNumber
    g_NoText := PySem.W.mg_of X G e_NoText
    g_TooGreat := PySem.W.mg_of X G e_TooGreat
    g_NoPlan := PySem.W.mg_of X G e_NoPlan
    k_NoNumber := hk_NoNumber
    x_NoNumber := hx_NoNumber
    s_NoNumber := hs_NoNumber
    t_NoNumber := ht_NoNumber
    k_NoText := hk_NoText
    x_NoText := hx_NoText
    s_NoText := hs_NoText
    t_NoText := ht_NoText
    k_TooGreat := hk_TooGreat
    x_TooGreat := hx_TooGreat
    s_TooGreat := hs_TooGreat
    t_TooGreat := ht_TooGreat
    k_NoPlan := hk_NoPlan
    x_NoPlan := hx_NoPlan
    s_NoPlan := hs_NoPlan
    t_NoPlan := ht_NoPlan
    m_FIGURES := ⟨_, PySem.W.mg_of X G em_FIGURES, ⟨_, rfl⟩⟩
    m_MOST_FIGURES := ⟨_, PySem.W.mg_of X G em_MOST_FIGURES, ⟨_, rfl⟩⟩
    m_SIGNS := ⟨_, PySem.W.mg_of X G em_SIGNS, ⟨_, rfl⟩⟩
    m_LONGEST := ⟨_, PySem.W.mg_of X G em_LONGEST, ⟨_, rfl⟩⟩
    m_MOST_PLACES := ⟨_, PySem.W.mg_of X G em_MOST_PLACES, ⟨_, rfl⟩⟩
    m_LONGEST_WAY := ⟨_, PySem.W.mg_of X G em_LONGEST_WAY, ⟨_, rfl⟩⟩
  }
  have L_is_whole : Ln K mg "is_whole" s_is_whole P_is_whole := ⟨f_is_whole, _, fun_mk (st := s_is_whole) l_is_whole q_is_whole p_is_whole, PySem.W.mg_of X G a_is_whole, (fun_mk (st := s_is_whole) l_is_whole q_is_whole p_is_whole).binds (ps := P_is_whole) fun _ _ _ _ _ _ us hl => match us, hl with | [_], _ => rfl⟩
  have L_divisor : Ln K mg "divisor" s_divisor P_divisor := ⟨f_divisor, _, fun_mk (st := s_divisor) l_divisor q_divisor p_divisor, PySem.W.mg_of X G a_divisor, (fun_mk (st := s_divisor) l_divisor q_divisor p_divisor).binds (ps := P_divisor) fun _ _ _ _ _ _ us hl => match us, hl with | [_, _], _ => rfl⟩
  have L_is_ratio : Ln K mg "is_ratio" s_is_ratio P_is_ratio := ⟨f_is_ratio, _, fun_mk (st := s_is_ratio) l_is_ratio q_is_ratio p_is_ratio, PySem.W.mg_of X G a_is_ratio, (fun_mk (st := s_is_ratio) l_is_ratio q_is_ratio p_is_ratio).binds (ps := P_is_ratio) fun _ _ _ _ _ _ us hl => match us, hl with | [_], _ => rfl⟩
  have L_ratio : Ln K mg "ratio" s_ratio P_ratio := ⟨f_ratio, _, fun_mk (st := s_ratio) l_ratio q_ratio p_ratio, PySem.W.mg_of X G a_ratio, (fun_mk (st := s_ratio) l_ratio q_ratio p_ratio).binds (ps := P_ratio) fun _ _ _ _ _ _ us hl => match us, hl with | [_, _], _ => rfl⟩
  have L_plus : Ln K mg "plus" s_plus P_plus := ⟨f_plus, _, fun_mk (st := s_plus) l_plus q_plus p_plus, PySem.W.mg_of X G a_plus, (fun_mk (st := s_plus) l_plus q_plus p_plus).binds (ps := P_plus) fun _ _ _ _ _ _ us hl => match us, hl with | [_, _], _ => rfl⟩
  have L_times : Ln K mg "times" s_times P_times := ⟨f_times, _, fun_mk (st := s_times) l_times q_times p_times, PySem.W.mg_of X G a_times, (fun_mk (st := s_times) l_times q_times p_times).binds (ps := P_times) fun _ _ _ _ _ _ us hl => match us, hl with | [_, _], _ => rfl⟩
  have L_under : Ln K mg "under" s_under P_under := ⟨f_under, _, fun_mk (st := s_under) l_under q_under p_under, PySem.W.mg_of X G a_under, (fun_mk (st := s_under) l_under q_under p_under).binds (ps := P_under) fun _ _ _ _ _ _ us hl => match us, hl with | [_, _], _ => rfl⟩
  have L_total : Ln K mg "total" s_total P_total := ⟨f_total, _, fun_mk (st := s_total) l_total q_total p_total, PySem.W.mg_of X G a_total, (fun_mk (st := s_total) l_total q_total p_total).binds (ps := P_total) fun _ _ _ _ _ _ us hl => match us, hl with | [_], _ => rfl⟩
  have L_show_ratio : Ln K mg "show_ratio" s_show_ratio P_show_ratio := ⟨f_show_ratio, _, fun_mk (st := s_show_ratio) l_show_ratio q_show_ratio p_show_ratio, PySem.W.mg_of X G a_show_ratio, (fun_mk (st := s_show_ratio) l_show_ratio q_show_ratio p_show_ratio).binds (ps := P_show_ratio) fun _ _ _ _ _ _ us hl => match us, hl with | [_], _ => rfl⟩
  have L_number_of : Ln K mg "number_of" s_number_of P_number_of := ⟨f_number_of, _, fun_mk (st := s_number_of) l_number_of q_number_of p_number_of, PySem.W.mg_of X G a_number_of, (fun_mk (st := s_number_of) l_number_of q_number_of p_number_of).binds (ps := P_number_of) fun _ _ _ _ _ _ us hl => match us, hl with | [_], _ => rfl⟩
  have L_read_ratio : Ln K mg "read_ratio" s_read_ratio P_read_ratio := ⟨f_read_ratio, _, fun_mk (st := s_read_ratio) l_read_ratio q_read_ratio p_read_ratio, PySem.W.mg_of X G a_read_ratio, (fun_mk (st := s_read_ratio) l_read_ratio q_read_ratio p_read_ratio).binds (ps := P_read_ratio) fun _ _ _ _ _ _ us hl => match us, hl with | [_], _ => rfl⟩
  have L_is_name : Ln K mg "is_name" s_is_name P_is_name := ⟨f_is_name, _, fun_mk (st := s_is_name) l_is_name q_is_name p_is_name, PySem.W.mg_of X G a_is_name, (fun_mk (st := s_is_name) l_is_name q_is_name p_is_name).binds (ps := P_is_name) fun _ _ _ _ _ _ us hl => match us, hl with | [_], _ => rfl⟩
  have L_words_of : Ln K mg "words_of" s_words_of P_words_of := ⟨f_words_of, _, fun_mk (st := s_words_of) l_words_of q_words_of p_words_of, PySem.W.mg_of X G a_words_of, (fun_mk (st := s_words_of) l_words_of q_words_of p_words_of).binds (ps := P_words_of) fun _ _ _ _ _ _ us hl => match us, hl with | [_], _ => rfl⟩
  have L_behind : Ln K mg "behind" s_behind P_behind := ⟨f_behind, _, fun_mk (st := s_behind) l_behind q_behind p_behind, PySem.W.mg_of X G a_behind, (fun_mk (st := s_behind) l_behind q_behind p_behind).binds (ps := P_behind) fun _ _ _ _ _ _ us hl => match us, hl with | [_, _, _], _ => rfl⟩
  have L_branches : Ln K mg "branches" s_branches P_branches := ⟨f_branches, _, fun_mk (st := s_branches) l_branches q_branches p_branches, PySem.W.mg_of X G a_branches, (fun_mk (st := s_branches) l_branches q_branches p_branches).binds (ps := P_branches) fun _ _ _ _ _ _ us hl => match us, hl with | [_, _], _ => rfl⟩
  have L_seen_places : Ln K mg "seen_places" s_seen_places P_seen_places := ⟨f_seen_places, _, fun_mk (st := s_seen_places) l_seen_places q_seen_places p_seen_places, PySem.W.mg_of X G a_seen_places, (fun_mk (st := s_seen_places) l_seen_places q_seen_places p_seen_places).binds (ps := P_seen_places) fun _ _ _ _ _ _ us hl => match us, hl with | [_, _], _ => rfl⟩
  have L_first_places : Ln K mg "first_places" s_first_places P_first_places := ⟨f_first_places, _, fun_mk (st := s_first_places) l_first_places q_first_places p_first_places, PySem.W.mg_of X G a_first_places, (fun_mk (st := s_first_places) l_first_places q_first_places p_first_places).binds (ps := P_first_places) fun _ _ _ _ _ _ us hl => match us, hl with | [_], _ => rfl⟩
  have L_rows_by : Ln K mg "rows_by" s_rows_by P_rows_by := ⟨f_rows_by, _, fun_mk (st := s_rows_by) l_rows_by q_rows_by p_rows_by, PySem.W.mg_of X G a_rows_by, (fun_mk (st := s_rows_by) l_rows_by q_rows_by p_rows_by).binds (ps := P_rows_by) fun _ _ _ _ _ _ us hl => match us, hl with | [_], _ => rfl⟩
  have L_table_of : Ln K mg "table_of" s_table_of P_table_of := ⟨f_table_of, _, fun_mk (st := s_table_of) l_table_of q_table_of p_table_of, PySem.W.mg_of X G a_table_of, (fun_mk (st := s_table_of) l_table_of q_table_of p_table_of).binds (ps := P_table_of) fun _ _ _ _ _ _ us hl => match us, hl with | [_], _ => rfl⟩
  have L_rows_of : Ln K mg "rows_of" s_rows_of P_rows_of := ⟨f_rows_of, _, fun_mk (st := s_rows_of) l_rows_of q_rows_of p_rows_of, PySem.W.mg_of X G a_rows_of, (fun_mk (st := s_rows_of) l_rows_of q_rows_of p_rows_of).binds (ps := P_rows_of) fun _ _ _ _ _ _ us hl => match us, hl with | [_, _], _ => rfl⟩
  have L_are_shares : Ln K mg "are_shares" s_are_shares P_are_shares := ⟨f_are_shares, _, fun_mk (st := s_are_shares) l_are_shares q_are_shares p_are_shares, PySem.W.mg_of X G a_are_shares, (fun_mk (st := s_are_shares) l_are_shares q_are_shares p_are_shares).binds (ps := P_are_shares) fun _ _ _ _ _ _ us hl => match us, hl with | [_, _], _ => rfl⟩
  have L_is_plan : Ln K mg "is_plan" s_is_plan P_is_plan := ⟨f_is_plan, _, fun_mk (st := s_is_plan) l_is_plan q_is_plan p_is_plan, PySem.W.mg_of X G a_is_plan, (fun_mk (st := s_is_plan) l_is_plan q_is_plan p_is_plan).binds (ps := P_is_plan) fun _ _ _ _ _ _ us hl => match us, hl with | [_, _, _], _ => rfl⟩
  have L_ask_plan : Ln K mg "ask_plan" s_ask_plan P_ask_plan := ⟨f_ask_plan, _, fun_mk (st := s_ask_plan) l_ask_plan q_ask_plan p_ask_plan, PySem.W.mg_of X G a_ask_plan, (fun_mk (st := s_ask_plan) l_ask_plan q_ask_plan p_ask_plan).binds (ps := P_ask_plan) fun _ _ _ _ _ _ us hl => match us, hl with | [_, _, _], _ => rfl⟩
  have L_show_plan : Ln K mg "show_plan" s_show_plan P_show_plan := ⟨f_show_plan, _, fun_mk (st := s_show_plan) l_show_plan q_show_plan p_show_plan, PySem.W.mg_of X G a_show_plan, (fun_mk (st := s_show_plan) l_show_plan q_show_plan p_show_plan).binds (ps := P_show_plan) fun _ _ _ _ _ _ us hl => match us, hl with | [_, _, _], _ => rfl⟩
  have L_read_plan : Ln K mg "read_plan" s_read_plan P_read_plan := ⟨f_read_plan, _, fun_mk (st := s_read_plan) l_read_plan q_read_plan p_read_plan, PySem.W.mg_of X G a_read_plan, (fun_mk (st := s_read_plan) l_read_plan q_read_plan p_read_plan).binds (ps := P_read_plan) fun _ _ _ _ _ _ us hl => match us, hl with | [_, _, _], _ => rfl⟩
  have L_folded_deal : Ln K mg "folded_deal" s_folded_deal P_folded_deal := ⟨f_folded_deal, _, fun_mk (st := s_folded_deal) l_folded_deal q_folded_deal p_folded_deal, PySem.W.mg_of X G a_folded_deal, (fun_mk (st := s_folded_deal) l_folded_deal q_folded_deal p_folded_deal).binds (ps := P_folded_deal) fun _ _ _ _ _ _ us hl => match us, hl with | [_, _], _ => rfl⟩
  have L_folded : Ln K mg "folded" s_folded P_folded := ⟨f_folded, _, fun_mk (st := s_folded) l_folded q_folded p_folded, PySem.W.mg_of X G a_folded, (fun_mk (st := s_folded) l_folded q_folded p_folded).binds (ps := P_folded) fun _ _ _ _ _ _ us hl => match us, hl with | [_], _ => rfl⟩
  have L__law_cell_at : Ln K mg "_law_cell_at" s__law_cell_at P__law_cell_at := ⟨f__law_cell_at, _, fun_mk (st := s__law_cell_at) l__law_cell_at q__law_cell_at p__law_cell_at, PySem.W.mg_of X G a__law_cell_at, (fun_mk (st := s__law_cell_at) l__law_cell_at q__law_cell_at p__law_cell_at).binds (ps := P__law_cell_at) fun _ _ _ _ _ _ us hl => match us, hl with | [_, _], _ => rfl⟩
  have L__law_numbers : Ln K mg "_law_numbers" s__law_numbers P__law_numbers := ⟨f__law_numbers, _, fun_mk (st := s__law_numbers) l__law_numbers q__law_numbers p__law_numbers, PySem.W.mg_of X G a__law_numbers, (fun_mk (st := s__law_numbers) l__law_numbers q__law_numbers p__law_numbers).binds (ps := P__law_numbers) fun _ _ _ _ _ _ us hl => match us, hl with | [_], _ => rfl⟩
  have L__law_names : Ln K mg "_law_names" s__law_names P__law_names := ⟨f__law_names, _, fun_mk (st := s__law_names) l__law_names q__law_names p__law_names, PySem.W.mg_of X G a__law_names, (fun_mk (st := s__law_names) l__law_names q__law_names p__law_names).binds (ps := P__law_names) fun _ _ _ _ _ _ us hl => match us, hl with | [_, _, _], _ => rfl⟩
  have L__law_game : Ln K mg "_law_game" s__law_game P__law_game := ⟨f__law_game, _, fun_mk (st := s__law_game) l__law_game q__law_game p__law_game, PySem.W.mg_of X G a__law_game, (fun_mk (st := s__law_game) l__law_game q__law_game p__law_game).binds (ps := P__law_game) fun _ _ _ _ _ _ us hl => match us, hl with | [_], _ => rfl⟩
  have L__law_seen : Ln K mg "_law_seen" s__law_seen P__law_seen := ⟨f__law_seen, _, fun_mk (st := s__law_seen) l__law_seen q__law_seen p__law_seen, PySem.W.mg_of X G a__law_seen, (fun_mk (st := s__law_seen) l__law_seen q__law_seen p__law_seen).binds (ps := P__law_seen) fun _ _ _ _ _ _ us hl => match us, hl with | [_, _], _ => rfl⟩
  have L__law_divisor : Ln K mg "_law_divisor" s__law_divisor P__law_divisor := ⟨f__law_divisor, _, fun_mk (st := s__law_divisor) l__law_divisor q__law_divisor p__law_divisor, PySem.W.mg_of X G a__law_divisor, (fun_mk (st := s__law_divisor) l__law_divisor q__law_divisor p__law_divisor).binds (ps := P__law_divisor) fun _ _ _ _ _ _ us hl => match us, hl with | [_, _], _ => rfl⟩
  have L__law_shares : Ln K mg "_law_shares" s__law_shares P__law_shares := ⟨f__law_shares, _, fun_mk (st := s__law_shares) l__law_shares q__law_shares p__law_shares, PySem.W.mg_of X G a__law_shares, (fun_mk (st := s__law_shares) l__law_shares q__law_shares p__law_shares).binds (ps := P__law_shares) fun _ _ _ _ _ _ us hl => match us, hl with | [_], _ => rfl⟩
  have L__law_fraction_text : Ln K mg "_law_fraction_text" s__law_fraction_text P__law_fraction_text := ⟨f__law_fraction_text, _, fun_mk (st := s__law_fraction_text) l__law_fraction_text q__law_fraction_text p__law_fraction_text, PySem.W.mg_of X G a__law_fraction_text, (fun_mk (st := s__law_fraction_text) l__law_fraction_text q__law_fraction_text p__law_fraction_text).binds (ps := P__law_fraction_text) fun _ _ _ _ _ _ us hl => match us, hl with | [_], _ => rfl⟩
  have L__law_text : Ln K mg "_law_text" s__law_text P__law_text := ⟨f__law_text, _, fun_mk (st := s__law_text) l__law_text q__law_text p__law_text, PySem.W.mg_of X G a__law_text, (fun_mk (st := s__law_text) l__law_text q__law_text p__law_text).binds (ps := P__law_text) fun _ _ _ _ _ _ us hl => match us, hl with | [_, _], _ => rfl⟩
  have L__law_alike : Ln K mg "_law_alike" s__law_alike P__law_alike := ⟨f__law_alike, _, fun_mk (st := s__law_alike) l__law_alike q__law_alike p__law_alike, PySem.W.mg_of X G a__law_alike, (fun_mk (st := s__law_alike) l__law_alike q__law_alike p__law_alike).binds (ps := P__law_alike) fun _ _ _ _ _ _ us hl => match us, hl with | [_, _], _ => rfl⟩
  have L__law_told : Ln K mg "_law_told" s__law_told P__law_told := ⟨f__law_told, _, fun_mk (st := s__law_told) l__law_told q__law_told p__law_told, PySem.W.mg_of X G a__law_told, (fun_mk (st := s__law_told) l__law_told q__law_told p__law_told).binds (ps := P__law_told) fun _ _ _ _ _ _ us hl => match us, hl with | [_, _, _], _ => rfl⟩
  have L__law_cards : Ln K mg "_law_cards" s__law_cards P__law_cards := ⟨f__law_cards, _, fun_mk (st := s__law_cards) l__law_cards q__law_cards p__law_cards, PySem.W.mg_of X G a__law_cards, (fun_mk (st := s__law_cards) l__law_cards q__law_cards p__law_cards).binds (ps := P__law_cards) fun _ _ _ _ _ _ us hl => match us, hl with | [], _ => rfl⟩
  refine ⟨PySem.W.fnOf "law" "law" (defArgs s_law) (defBody s_law) (defScope s_law) .none kV_law dc_law pm_law an_law cd_law ct_law, fun s v => .of_eq rfl, fun base _ _ => ?_⟩
  have F_is_whole : Fd l.prog w K mg base _ "is_whole" P_is_whole 1 Pg.d_is_whole := ok_is_whole T  L_is_whole
  have F_divisor : Fd l.prog w K mg base _ "divisor" P_divisor 1 Pg.d_divisor := ok_divisor T  L_divisor
  have F_is_ratio : Fd l.prog w K mg base _ "is_ratio" P_is_ratio 2 Pg.d_is_ratio := ok_is_ratio T F_divisor F_is_whole L_is_ratio
  have F_ratio : Fd l.prog w K mg base _ "ratio" P_ratio 2 Pg.d_ratio := ok_ratio T F_divisor L_ratio
  have F_plus : Fd l.prog w K mg base _ "plus" P_plus 3 Pg.d_plus := ok_plus T F_ratio L_plus
  have F_times : Fd l.prog w K mg base _ "times" P_times 3 Pg.d_times := ok_times T F_ratio L_times
  have F_under : Fd l.prog w K mg base _ "under" P_under 1 Pg.d_under := ok_under T  L_under
  have F_total : Fd l.prog w K mg base _ "total" P_total 4 Pg.d_total := ok_total T F_plus L_total
  have F_show_ratio : Fd l.prog w K mg base _ "show_ratio" P_show_ratio 1 Pg.d_show_ratio := ok_show_ratio T  L_show_ratio
  have F_number_of : Fd l.prog w K mg base _ "number_of" P_number_of 1 Pg.d_number_of := ok_number_of T  L_number_of
  have F_read_ratio : Fd l.prog w K mg base _ "read_ratio" P_read_ratio 3 Pg.d_read_ratio := ok_read_ratio T F_is_ratio F_show_ratio F_number_of L_read_ratio
  have F_is_name : Fd l.prog w K mg base _ "is_name" P_is_name 1 Pg.d_is_name := ok_is_name T  L_is_name
  have F_words_of : Fd l.prog w K mg base _ "words_of" P_words_of 1 Pg.d_words_of := ok_words_of T  L_words_of
  have F_behind : Fd l.prog w K mg base _ "behind" P_behind 1 Pg.d_behind := ok_behind T  L_behind
  have F_branches : Fd l.prog w K mg base _ "branches" P_branches 2 Pg.d_branches := ok_branches T F_behind L_branches
  have F_seen_places : Fd l.prog w K mg base _ "seen_places" P_seen_places 3 Pg.d_seen_places := ok_seen_places T F_branches L_seen_places
  have F_first_places : Fd l.prog w K mg base _ "first_places" P_first_places 1 Pg.d_first_places := ok_first_places T  L_first_places
  have F_rows_by : Fd l.prog w K mg base _ "rows_by" P_rows_by 2 Pg.d_rows_by := ok_rows_by T F_first_places F_words_of L_rows_by
  have F_table_of : Fd l.prog w K mg base _ "table_of" P_table_of 4 Pg.d_table_of := ok_table_of T F_rows_by F_seen_places L_table_of
  have F_rows_of : Fd l.prog w K mg base _ "rows_of" P_rows_of 5 Pg.d_rows_of := ok_rows_of T F_table_of L_rows_of
  have F_are_shares : Fd l.prog w K mg base _ "are_shares" P_are_shares 5 Pg.d_are_shares := ok_are_shares T F_total F_is_ratio F_under L_are_shares
  have F_is_plan : Fd l.prog w K mg base _ "is_plan" P_is_plan 6 Pg.d_is_plan := ok_is_plan T F_are_shares F_rows_of L_is_plan
  have F_ask_plan : Fd l.prog w K mg base _ "ask_plan" P_ask_plan 7 Pg.d_ask_plan := ok_ask_plan T F_is_plan L_ask_plan
  have F_show_plan : Fd l.prog w K mg base _ "show_plan" P_show_plan 8 Pg.d_show_plan := ok_show_plan T F_rows_of F_show_ratio F_ask_plan L_show_plan
  have F_read_plan : Fd l.prog w K mg base _ "read_plan" P_read_plan 8 Pg.d_read_plan := ok_read_plan T F_ask_plan F_read_ratio F_is_name L_read_plan
  have F_folded_deal : Fd l.prog w K mg base _ "folded_deal" P_folded_deal 4 Pg.d_folded_deal := ok_folded_deal T F_plus L_folded_deal
  have F_folded : Fd l.prog w K mg base _ "folded" P_folded 13 (Pg.d_folded 8) := (ok_folded T F_folded_deal F_times L_folded 8)
  have F__law_cell_at : Fd l.prog w K mg base _ "_law_cell_at" P__law_cell_at 1 d__law_cell_at := ok__law_cell_at T  L__law_cell_at
  have F__law_numbers : Fd l.prog w K mg base _ "_law_numbers" P__law_numbers 2 d__law_numbers := ok__law_numbers T F__law_cell_at L__law_numbers
  have F__law_names : Fd l.prog w K mg base _ "_law_names" P__law_names 1 d__law_names := ok__law_names T  L__law_names
  have F__law_game : Fd l.prog w K mg base _ "_law_game" P__law_game 2 d__law_game := ok__law_game T F__law_names L__law_game
  have F__law_seen : Fd l.prog w K mg base _ "_law_seen" P__law_seen 9 (d__law_seen 8) := (ok__law_seen T  L__law_seen 8)
  have F__law_divisor : Fd l.prog w K mg base _ "_law_divisor" P__law_divisor 1 d__law_divisor := ok__law_divisor T  L__law_divisor
  have F__law_shares : Fd l.prog w K mg base _ "_law_shares" P__law_shares 2 d__law_shares := ok__law_shares T F__law_divisor L__law_shares
  have F__law_fraction_text : Fd l.prog w K mg base _ "_law_fraction_text" P__law_fraction_text 1 d__law_fraction_text := ok__law_fraction_text T  L__law_fraction_text
  have F__law_text : Fd l.prog w K mg base _ "_law_text" P__law_text 2 d__law_text := ok__law_text T F__law_fraction_text L__law_text
  have F__law_alike : Fd l.prog w K mg base _ "_law_alike" P__law_alike 1 d__law_alike := ok__law_alike T  L__law_alike
  have F__law_told : Fd l.prog w K mg base _ "_law_told" P__law_told 10 d__law_told := ok__law_told T F__law_alike F_show_plan F_read_plan F__law_text F__law_shares F__law_seen L__law_told
  have F__law_cards : Fd l.prog w K mg base _ "_law_cards" P__law_cards 14 d__law_cards := ok__law_cards T F__law_alike F_read_plan F_show_plan F_folded L__law_cards
  exact ok_law T F__law_cards F_show_plan F_read_plan F__law_told F__law_game F__law_numbers (fun_mk (st := s_law) l_law q_law p_law)
theorem walk {l : PySem.W.OpenLaw} {q : Program} {loose : List Str} {XP : (Str → Option Value) → Heap → Prop} {YP : World → Heap → Prop} {d : DefRec} {K : Params → PySem.W.Frag} (hn : l.most = some 63) (hdf : d.params.defaults = [])
    (hY : ∀ (w : World) (h : Heap), YP w h → (K w.params).In h) {ec : EC → Addr}
    (F : ∀ (w : World) (mg : Str → Option Value) (fa : Addr) (h : Heap), (K w.params).In h → h.Ns mainGlobals mg → mg d.name = some (.ref fa) →
      ∃ fd : FuncData, (∀ (s : Shared) (u : Value), BindsTo s fd ⟨[u], []⟩ [("_law_script", u)]) ∧ ∀ base : Heap, (K w.params).In base → base.Ns mainGlobals mg → FnOk l.prog w (K w.params) mg base (L2.CX l.prog w) 15 fa fd P_law (spD ⟨⟨K w.params, w⟩, ec, fun _ _ => False, []⟩ d_law)) :
    PySem.W.WalkO q loose XP YP l.row.toRowW d [] (fun f vs => PySem.call f vs) :=
  L2.walk_ofB (n := 63) (k := 15) (x := "_law_script") (CX := fun w => L2.CX l.prog w) (sp := fun w => spD ⟨⟨K w.params, w⟩, ec, fun _ _ => False, []⟩ d_law) hn (by decide) hdf ⟨rfl, by decide, by decide⟩ hY F (fun _ _ a ns hl hb _ hS => law_sp hS (law_ok ns hl)) fun _ _ _ _ _ z => cx_none z
end Gk70
open PySem PySem.W PyProof.Rows in
set_option maxRecDepth 100000 in
set_option maxHeartbeats 0 in
theorem PySem.Challenge.cw_hushduel_k70_plans_as_text_holds : PySem.Challenge.rw_hushduel_k70_plans_as_text.Holds := by
  w_on; o_law; k_head; (case hw => w_witness2)
  k_fill
  refine' Gk70.walk (l := PySem.Challenge.rw_hushduel_k70_plans_as_text) (ec := Gk70.ecOf _ _ _ _ _) rfl rfl (fun w h Y => PySem.W.kIn_of Y) ?F
  case F =>
    intro w mg fa h KX G hmg
    refine' Gk70.all_mk KX G hmg ?e_DuelError ?e_NoNumber ?e_NoText ?e_TooGreat ?e_NoPlan ?a_is_whole ?l_is_whole ?q_is_whole ?p_is_whole ?a_divisor ?l_divisor ?q_divisor ?p_divisor ?a_is_ratio ?l_is_ratio ?q_is_ratio ?p_is_ratio ?a_ratio ?l_ratio ?q_ratio ?p_ratio ?a_plus ?l_plus ?q_plus ?p_plus ?a_times ?l_times ?q_times ?p_times ?a_under ?l_under ?q_under ?p_under ?a_total ?l_total ?q_total ?p_total ?a_show_ratio ?l_show_ratio ?q_show_ratio ?p_show_ratio ?a_number_of ?l_number_of ?q_number_of ?p_number_of ?a_read_ratio ?l_read_ratio ?q_read_ratio ?p_read_ratio ?a_is_name ?l_is_name ?q_is_name ?p_is_name ?a_words_of ?l_words_of ?q_words_of ?p_words_of ?a_behind ?l_behind ?q_behind ?p_behind ?a_branches ?l_branches ?q_branches ?p_branches ?a_seen_places ?l_seen_places ?q_seen_places ?p_seen_places ?a_first_places ?l_first_places ?q_first_places ?p_first_places ?a_rows_by ?l_rows_by ?q_rows_by ?p_rows_by ?a_table_of ?l_table_of ?q_table_of ?p_table_of ?a_rows_of ?l_rows_of ?q_rows_of ?p_rows_of ?a_are_shares ?l_are_shares ?q_are_shares ?p_are_shares ?a_is_plan ?l_is_plan ?q_is_plan ?p_is_plan ?a_ask_plan ?l_ask_plan ?q_ask_plan ?p_ask_plan ?a_show_plan ?l_show_plan ?q_show_plan ?p_show_plan ?a_read_plan ?l_read_plan ?q_read_plan ?p_read_plan ?a_folded_deal ?l_folded_deal ?q_folded_deal ?p_folded_deal ?a_folded ?l_folded ?q_folded ?p_folded ?a__law_cell_at ?l__law_cell_at ?q__law_cell_at ?p__law_cell_at ?a__law_numbers ?l__law_numbers ?q__law_numbers ?p__law_numbers ?a__law_names ?l__law_names ?q__law_names ?p__law_names ?a__law_game ?l__law_game ?q__law_game ?p__law_game ?a__law_seen ?l__law_seen ?q__law_seen ?p__law_seen ?a__law_divisor ?l__law_divisor ?q__law_divisor ?p__law_divisor ?a__law_shares ?l__law_shares ?q__law_shares ?p__law_shares ?a__law_fraction_text ?l__law_fraction_text ?q__law_fraction_text ?p__law_fraction_text ?a__law_text ?l__law_text ?q__law_text ?p__law_text ?a__law_alike ?l__law_alike ?q__law_alike ?p__law_alike ?a__law_told ?l__law_told ?q__law_told ?p__law_told ?a__law_cards ?l__law_cards ?q__law_cards ?p__law_cards ?a_law ?l_law ?q_law ?p_law ?zb_abs ?zb_bool ?zb_dict ?zb_int ?zb_isinstance ?zb_len ?zb_list ?zb_range ?zb_reversed ?zb_str ?zb_tuple ?hk_NoNumber ?hx_NoNumber ?hs_NoNumber ?ht_NoNumber ?hk_NoText ?hx_NoText ?hs_NoText ?ht_NoText ?hk_TooGreat ?hx_TooGreat ?hs_TooGreat ?ht_TooGreat ?hk_NoPlan ?hx_NoPlan ?hs_NoPlan ?ht_NoPlan ?em_FIGURES ?em_MOST_FIGURES ?em_SIGNS ?em_LONGEST ?em_MOST_PLACES ?em_LONGEST_WAY
    (case e_DuelError => k_is)
    (case e_NoNumber => k_is)
    (case e_NoText => k_is)
    (case e_TooGreat => k_is)
    (case e_NoPlan => k_is)
    (case a_is_whole => k_is)
    (case l_is_whole => k_is)
    (case q_is_whole => k_is)
    (case p_is_whole => k_is)
    (case a_divisor => k_is)
    (case l_divisor => k_is)
    (case q_divisor => k_is)
    (case p_divisor => k_is)
    (case a_is_ratio => k_is)
    (case l_is_ratio => k_is)
    (case q_is_ratio => k_is)
    (case p_is_ratio => k_is)
    (case a_ratio => k_is)
    (case l_ratio => k_is)
    (case q_ratio => k_is)
    (case p_ratio => k_is)
    (case a_plus => k_is)
    (case l_plus => k_is)
    (case q_plus => k_is)
    (case p_plus => k_is)
    (case a_times => k_is)
    (case l_times => k_is)
    (case q_times => k_is)
    (case p_times => k_is)
    (case a_under => k_is)
    (case l_under => k_is)
    (case q_under => k_is)
    (case p_under => k_is)
    (case a_total => k_is)
    (case l_total => k_is)
    (case q_total => k_is)
    (case p_total => k_is)
    (case a_show_ratio => k_is)
    (case l_show_ratio => k_is)
    (case q_show_ratio => k_is)
    (case p_show_ratio => k_is)
    (case a_number_of => k_is)
    (case l_number_of => k_is)
    (case q_number_of => k_is)
    (case p_number_of => k_is)
    (case a_read_ratio => k_is)
    (case l_read_ratio => k_is)
    (case q_read_ratio => k_is)
    (case p_read_ratio => k_is)
    (case a_is_name => k_is)
    (case l_is_name => k_is)
    (case q_is_name => k_is)
    (case p_is_name => k_is)
    (case a_words_of => k_is)
    (case l_words_of => k_is)
    (case q_words_of => k_is)
    (case p_words_of => k_is)
    (case a_behind => k_is)
    (case l_behind => k_is)
    (case q_behind => k_is)
    (case p_behind => k_is)
    (case a_branches => k_is)
    (case l_branches => k_is)
    (case q_branches => k_is)
    (case p_branches => k_is)
    (case a_seen_places => k_is)
    (case l_seen_places => k_is)
    (case q_seen_places => k_is)
    (case p_seen_places => k_is)
    (case a_first_places => k_is)
    (case l_first_places => k_is)
    (case q_first_places => k_is)
    (case p_first_places => k_is)
    (case a_rows_by => k_is)
    (case l_rows_by => k_is)
    (case q_rows_by => k_is)
    (case p_rows_by => k_is)
    (case a_table_of => k_is)
    (case l_table_of => k_is)
    (case q_table_of => k_is)
    (case p_table_of => k_is)
    (case a_rows_of => k_is)
    (case l_rows_of => k_is)
    (case q_rows_of => k_is)
    (case p_rows_of => k_is)
    (case a_are_shares => k_is)
    (case l_are_shares => k_is)
    (case q_are_shares => k_is)
    (case p_are_shares => k_is)
    (case a_is_plan => k_is)
    (case l_is_plan => k_is)
    (case q_is_plan => k_is)
    (case p_is_plan => k_is)
    (case a_ask_plan => k_is)
    (case l_ask_plan => k_is)
    (case q_ask_plan => k_is)
    (case p_ask_plan => k_is)
    (case a_show_plan => k_is)
    (case l_show_plan => k_is)
    (case q_show_plan => k_is)
    (case p_show_plan => k_is)
    (case a_read_plan => k_is)
    (case l_read_plan => k_is)
    (case q_read_plan => k_is)
    (case p_read_plan => k_is)
    (case a_folded_deal => k_is)
    (case l_folded_deal => k_is)
    (case q_folded_deal => k_is)
    (case p_folded_deal => k_is)
    (case a_folded => k_is)
    (case l_folded => k_is)
    (case q_folded => k_is)
    (case p_folded => k_is)
    (case a__law_cell_at => k_is)
    (case l__law_cell_at => k_is)
    (case q__law_cell_at => k_is)
    (case p__law_cell_at => k_is)
    (case a__law_numbers => k_is)
    (case l__law_numbers => k_is)
    (case q__law_numbers => k_is)
    (case p__law_numbers => k_is)
    (case a__law_names => k_is)
    (case l__law_names => k_is)
    (case q__law_names => k_is)
    (case p__law_names => k_is)
    (case a__law_game => k_is)
    (case l__law_game => k_is)
    (case q__law_game => k_is)
    (case p__law_game => k_is)
    (case a__law_seen => k_is)
    (case l__law_seen => k_is)
    (case q__law_seen => k_is)
    (case p__law_seen => k_is)
    (case a__law_divisor => k_is)
    (case l__law_divisor => k_is)
    (case q__law_divisor => k_is)
    (case p__law_divisor => k_is)
    (case a__law_shares => k_is)
    (case l__law_shares => k_is)
    (case q__law_shares => k_is)
    (case p__law_shares => k_is)
    (case a__law_fraction_text => k_is)
    (case l__law_fraction_text => k_is)
    (case q__law_fraction_text => k_is)
    (case p__law_fraction_text => k_is)
    (case a__law_text => k_is)
    (case l__law_text => k_is)
    (case q__law_text => k_is)
    (case p__law_text => k_is)
    (case a__law_alike => k_is)
    (case l__law_alike => k_is)
    (case q__law_alike => k_is)
    (case p__law_alike => k_is)
    (case a__law_told => k_is)
    (case l__law_told => k_is)
    (case q__law_told => k_is)
    (case p__law_told => k_is)
    (case a__law_cards => k_is)
    (case l__law_cards => k_is)
    (case q__law_cards => k_is)
    (case p__law_cards => k_is)
    (case a_law => k_is)
    (case l_law => k_is)
    (case q_law => k_is)
    (case p_law => k_is)
    (case zb_abs => k_is)
    (case zb_bool => k_is)
    (case zb_dict => k_is)
    (case zb_int => k_is)
    (case zb_isinstance => k_is)
    (case zb_len => k_is)
    (case zb_list => k_is)
    (case zb_range => k_is)
    (case zb_reversed => k_is)
    (case zb_str => k_is)
    (case zb_tuple => k_is)
    (case hk_NoNumber => k_is)
    (case hx_NoNumber => k_exc)
    (case hs_NoNumber => k_is)
    (case ht_NoNumber => k_is)
    (case hk_NoText => k_is)
    (case hx_NoText => k_exc)
    (case hs_NoText => k_is)
    (case ht_NoText => k_is)
    (case hk_TooGreat => k_is)
    (case hx_TooGreat => k_exc)
    (case hs_TooGreat => k_is)
    (case ht_TooGreat => k_is)
    (case hk_NoPlan => k_is)
    (case hx_NoPlan => k_exc)
    (case hs_NoPlan => k_is)
    (case ht_NoPlan => k_is)
    (case em_FIGURES => k_is)
    (case em_MOST_FIGURES => k_is)
    (case em_SIGNS => k_is)
    (case em_LONGEST => k_is)
    (case em_MOST_PLACES => k_is)
    (case em_LONGEST_WAY => k_is)
