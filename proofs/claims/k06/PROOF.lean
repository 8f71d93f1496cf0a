import PyProof.Rows.All
import Wide.All
import OpenK.AllK
import Wide.FinOn
import HandS.ForMost
import HandS.Exc
import HandS.ExcOwn
import HandS.TryOnly
import HandS.WordsExc
import HandS.IsInst
import HandS.ExcIs
import HandS.Style
import HandS.Wide
import HandS.Deep
import KE.KDictKeyed
import KE.KDictWalk
import HandS.TupAny
import HandS.More
import HandS.Small
import HandS.EndBits
import HandS.Text
import HandS.RevRange
import HandS.TupLen
import HandS.Conv
import KE.KDictCopyH
import HandS.Strs
import PyProof.StrBlock2
import PySem.Challenge.RW_hushduel_k06_what_is_a_game
set_option Elab.async false
set_option linter.all false
set_option maxRecDepth 100000
set_option maxHeartbeats 4000000
/-! DLa: data without the heap, and how the heap bears it -/
namespace DL
open PySem L2
/-! ### 1. words -/
/-- the classes of refusal -/
inductive EC | DuelError | NoNumber | NoText | TooGreat | NoPlan | NoWord | NoPlace | NoName | NoRow | NoShares | Unlike | Forgets
  deriving DecidableEq
structure Exn where
  c : EC
  fs : List (Str × PyData) := []
/-- a thing with parts of one's own: d lasts; f is a list or dict of one's own, all in it lasts; l, m, p, o: a list, a dict, a tuple, an object of such -/
inductive T where
  | d (x : PyData) | f (x : PyData) | l (xs : List T) | m (kvs : List (Key × T)) | p (xs : List T) | o (fs : List (Str × T))
inductive Slot where
  | val (d : PyData) | own (d : PyData) | bor (d : PyData) | tr (t : T) | bt (t : T) | exn (x : Exn)
abbrev DEnv := List (Option Slot)
inductive Res (α : Type) where
  | ok (a : α) | exc (x : Exn) | stuck
inductive Out where
  | nx (δ : DEnv) | rt (s : Slot) (δ : DEnv) | bk (δ : DEnv) | ct (δ : DEnv) | ex (x : Exn) (δ : DEnv) | stuck
def Res.bind {α β : Type} (r : Res α) (f : α → Res β) : Res β := match r with
  | .ok a => f a
  | .exc x => .exc x
  | .stuck => .stuck
theorem bind_ok {α β : Type} (a : α) (f : α → Res β) : (Res.ok a).bind f = f a := rfl
theorem bind_exc {α β : Type} (x : Exn) (f : α → Res β) : (Res.exc x : Res α).bind f = .exc x := rfl
theorem bind_stuck {α β : Type} (f : α → Res β) : (Res.stuck : Res α).bind f = .stuck := rfl
/-! ### 2. how a heap bears data -/
/-- the written part, the world -/
structure Kw where
  K : PySem.W.Frag
  w : World
instance : Coe Kw PySem.W.Frag := ⟨Kw.K⟩
abbrev _root_.L2.Cx.kw (X : Cx) : Kw := ⟨X.K, X.w⟩
def keyD : Key → PyData
  | .inl i => .int i
  | .inr s => .str s
/-- a dict whose keys are tuples, nested as they are: keys, where they stand, values -/
def dnOk (w : World) (a : Addr) (l : List (NestedKey × Addr × V)) (h : Heap) : Prop :=
  (a == sysModules) = false ∧ ∃ (xs : List (NestedKey × Addr × Value)) (o : Obj) (es : Array DictEntry) (ep : Nat), Paired (fun p q => p.1 = q.1 ∧ p.2.1 = q.2.1 ∧ RelV p.2.2 q.2.2) l xs ∧ h.get? a = some o ∧ o.ExactDict ∧ o.data = .dict es ep ∧ es.toList = xs.map (fun x => (⟨x.1.hash w, .ref x.2.1, x.2.2⟩ : DictEntry)) ∧ (xs.map (·.1)).Nodup ∧ (∀ x ∈ xs, x.1.depth ≤ 8)
def dnO (w : World) (a : Addr) (l : List (NestedKey × Addr × V)) : HO := .ext (dnOk w a l)
mutual
inductive Rep (K : Kw) (G : Hp) : V → PyData → Prop
  | non : Rep K G .non .none
  | bl (b : Bool) : Rep K G (.bl b) (.bool b)
  | int (i : Int) : Rep K G (.int i) (.int i)
  | str (x : Str) : Rep K G (.str x) (.str x)
  | lst {a : Addr} {xs : List V} {ds : List PyData} : SqL K G a xs → RepL K G xs ds → Rep K G (.ref a) (.list ds)
  | tup {a : Addr} {xs : List V} {ds : List PyData} : SqT K G a xs → RepL K G xs ds → Rep K G (.ref a) (.tuple ds)
  | dk {a : Addr} {o : Obj} {l : List (Key × V)} {ds : List (PyData × PyData)} : G a = some (.frz o (.dK l)) → RepK K G l ds → Rep K G (.ref a) (.dict ds)
  | dn {a : Addr} {o : Obj} {l : List (NestedKey × Addr × V)} {ds : List (PyData × PyData)} : G a = some (.frz o (dnO K.w a l)) → l.length ≤ sizeLine → RepN K G l ds → Rep K G (.ref a) (.dict ds)
inductive RepL (K : Kw) (G : Hp) : List V → List PyData → Prop
  | nil : RepL K G [] []
  | cons {v : V} {vs : List V} {d : PyData} {ds : List PyData} : Rep K G v d → RepL K G vs ds → RepL K G (v :: vs) (d :: ds)
inductive RepK (K : Kw) (G : Hp) : List (Key × V) → List (PyData × PyData) → Prop
  | nil : RepK K G [] []
  | cons {k : Key} {v : V} {vs : List (Key × V)} {d : PyData} {ds : List (PyData × PyData)} : Rep K G v d → RepK K G vs ds → RepK K G ((k, v) :: vs) ((keyD k, d) :: ds)
inductive RepN (K : Kw) (G : Hp) : List (NestedKey × Addr × V) → List (PyData × PyData) → Prop
  | nil : RepN K G [] []
  | cons {k : NestedKey} {b : Addr} {v : V} {vs : List (NestedKey × Addr × V)} {kd d : PyData} {ds : List (PyData × PyData)} : kd = k.data → Rep K G (.ref b) kd → Rep K G v d → RepN K G vs ds → RepN K G ((k, b, v) :: vs) ((kd, d) :: ds)
end
section
variable {K : Kw} {G G' : Hp}
theorem rd_mono (s : Same G G') {a : Addr} {o : HO} (h : Rd G a o) : Rd G' a o := by
  rcases h with h | ⟨u, h⟩
  · exact .inl (s _ _ h)
  · exact .inr ⟨u, s _ _ h⟩
theorem sqL_mono (s : Same G G') {a : Addr} {xs : List V} (h : SqL K G a xs) : SqL K G' a xs := by
  rcases h with h | h
  · exact .inl (rd_mono s h)
  · exact .inr h
theorem sqT_mono (s : Same G G') {a : Addr} {xs : List V} (h : SqT K G a xs) : SqT K G' a xs := by
  rcases h with h | h
  · exact .inl (rd_mono s h)
  · exact .inr h
mutual
theorem Rep.mono (s : Same G G') : ∀ {d : PyData} {v : V}, Rep K G v d → Rep K G' v d
  | .none, _, .non => .non
  | .bool _, _, .bl b => .bl b
  | .int _, _, .int i => .int i
  | .str _, _, .str x => .str x
  | .list _, _, .lst h r => .lst (sqL_mono s h) (RepL.mono s r)
  | .tuple _, _, .tup h r => .tup (sqT_mono s h) (RepL.mono s r)
  | .dict _, _, .dk h r => .dk (s _ _ h) (RepK.mono s r)
  | .dict _, _, .dn h hl r => .dn (s _ _ h) hl (RepN.mono s r)
theorem RepL.mono (s : Same G G') : ∀ {ds : List PyData} {vs : List V}, RepL K G vs ds → RepL K G' vs ds
  | [], _, .nil => .nil
  | _ :: _, _, .cons h r => .cons (Rep.mono s h) (RepL.mono s r)
theorem RepK.mono (s : Same G G') : ∀ {ds : List (PyData × PyData)} {vs : List (Key × V)}, RepK K G vs ds → RepK K G' vs ds
  | [], _, .nil => .nil
  | _ :: _, _, .cons h r => .cons (Rep.mono s h) (RepK.mono s r)
theorem RepN.mono (s : Same G G') : ∀ {ds : List (PyData × PyData)} {vs : List (NestedKey × Addr × V)}, RepN K G vs ds → RepN K G' vs ds
  | [], _, .nil => .nil
  | (_, _) :: _, _, .cons e k h r => .cons e (Rep.mono s k) (Rep.mono s h) (RepN.mono s r)
end
theorem RepL.length : ∀ {ds : List PyData} {vs : List V}, RepL K G vs ds → vs.length = ds.length
  | [], _, .nil => rfl
  | _ :: _, _, .cons _ r => by rw [List.length_cons, List.length_cons, r.length]
theorem RepK.length : ∀ {ds : List (PyData × PyData)} {vs : List (Key × V)}, RepK K G vs ds → vs.length = ds.length
  | [], _, .nil => rfl
  | _ :: _, _, .cons _ r => by rw [List.length_cons, List.length_cons, r.length]
theorem RepN.length : ∀ {ds : List (PyData × PyData)} {vs : List (NestedKey × Addr × V)}, RepN K G vs ds → vs.length = ds.length
  | [], _, .nil => rfl
  | _ :: _, _, .cons _ _ _ r => by rw [List.length_cons, List.length_cons, r.length]
theorem RepL.get : ∀ {ds : List PyData} {vs : List V} {i : Nat} {d : PyData}, RepL K G vs ds → ds[i]? = some d → ∃ v, vs[i]? = some v ∧ Rep K G v d
  | [], _, i, _, .nil, e => by simp at e
  | _ :: _, _, 0, _, .cons h _, e => by simp at e; subst e; exact ⟨_, rfl, h⟩
  | _ :: _, _, i + 1, _, .cons _ r, e => by
    obtain ⟨v, h1, h2⟩ := RepL.get (i := i) r (by simpa using e)
    exact ⟨v, by simpa using h1, h2⟩
theorem RepL.get' : ∀ {ds : List PyData} {vs : List V} {i : Nat} {v : V}, RepL K G vs ds → vs[i]? = some v → ∃ d, ds[i]? = some d ∧ Rep K G v d
  | [], _, i, _, .nil, e => by simp at e
  | _ :: _, _, 0, _, .cons h _, e => by simp at e; subst e; exact ⟨_, rfl, h⟩
  | _ :: _, _, i + 1, _, .cons _ r, e => by
    obtain ⟨v, h1, h2⟩ := RepL.get' (i := i) r (by simpa using e)
    exact ⟨v, by simpa using h1, h2⟩
theorem RepL.append : ∀ {ds es : List PyData} {vs us : List V}, RepL K G vs ds → RepL K G us es → RepL K G (vs ++ us) (ds ++ es)
  | [], _, _, _, .nil, s => s
  | _ :: _, _, _, _, .cons h r, s => .cons h (RepL.append r s)
theorem RepL.take : ∀ {ds : List PyData} {vs : List V} (n : Nat), RepL K G vs ds → RepL K G (vs.take n) (ds.take n)
  | _, _, 0, _ => .nil
  | [], _, n + 1, .nil => .nil
  | _ :: _, _, n + 1, .cons h r => .cons h (RepL.take n r)
theorem RepL.drop : ∀ {ds : List PyData} {vs : List V} (n : Nat), RepL K G vs ds → RepL K G (vs.drop n) (ds.drop n)
  | _, _, 0, r => r
  | [], _, n + 1, .nil => .nil
  | _ :: _, _, n + 1, .cons h r => RepL.drop n r
theorem RepL.reverse : ∀ {ds : List PyData} {vs : List V}, RepL K G vs ds → RepL K G vs.reverse ds.reverse
  | [], _, .nil => .nil
  | _ :: _, _, .cons h r => by
    rw [List.reverse_cons, List.reverse_cons]
    exact (RepL.reverse r).append (.cons h .nil)
theorem RepL.snoc {ds : List PyData} {vs : List V} {d : PyData} {v : V} (r : RepL K G vs ds) (h : Rep K G v d) : RepL K G (vs ++ [v]) (ds ++ [d]) := r.append (.cons h .nil)
theorem RepL.set : ∀ {ds : List PyData} {vs : List V} (i : Nat) {d : PyData} {v : V}, RepL K G vs ds → Rep K G v d → RepL K G (vs.set i v) (ds.set i d)
  | [], _, _, _, _, .nil, _ => .nil
  | _ :: _, _, 0, _, _, .cons _ r, h => .cons h r
  | _ :: _, _, i + 1, _, _, .cons q r, h => .cons q (RepL.set i r h)
end
/-! ### 3. a top cell: a list or dict that may change, its items in G -/
def Top (K : Kw) (G H : Hp) (a : Addr) : PyData → Prop
  | .list ds => ∃ xs, H a = some (.lst xs) ∧ RepL K G xs ds
  | .dict ds => (∃ l, H a = some (.dK l) ∧ RepK K G l ds) ∨ (∃ l, H a = some (dnO K.w a l) ∧ l.length ≤ sizeLine ∧ RepN K G l ds)
  | _ => False
/-- readable: borne by G, or a top cell in H -/
def RdR (K : Kw) (G H : Hp) (v : V) (d : PyData) : Prop := Rep K G v d ∨ ∃ a, v = .ref a ∧ Top K G H a d
section
variable {K : Kw} {G G' H H' : Hp} {a : Addr} {d : PyData} {v : V}
theorem Top.some (h : Top K G H a d) : ∃ o, H a = some o := by
  cases d with
  | list ds => obtain ⟨_, e, _⟩ := h; exact ⟨_, e⟩
  | dict ds => rcases h with ⟨_, e, _⟩ | ⟨_, e, _⟩ <;> exact ⟨_, e⟩
  | none => exact h.elim
  | bool _ => exact h.elim
  | int _ => exact h.elim
  | str _ => exact h.elim
  | tuple _ => exact h.elim
theorem Top.ne (h : Top K G H a d) : H a ≠ none := by
  obtain ⟨o, e⟩ := h.some
  rw [e]
  exact fun z => nomatch z
theorem Top.mono' (g : Same G G') (e : H' a = H a) (h : Top K G H a d) : Top K G' H' a d := by
  cases d with
  | list ds => obtain ⟨xs, q, r⟩ := h; exact ⟨xs, e.trans q, r.mono g⟩
  | dict ds =>
    rcases h with ⟨l, q, r⟩ | ⟨l, q, hl, r⟩
    · exact .inl ⟨l, e.trans q, r.mono g⟩
    · exact .inr ⟨l, e.trans q, hl, r.mono g⟩
  | none => exact h.elim
  | bool _ => exact h.elim
  | int _ => exact h.elim
  | str _ => exact h.elim
  | tuple _ => exact h.elim
theorem Top.mono (g : Same G G') (s : Same H H') (h : Top K G H a d) : Top K G' H' a d := by
  obtain ⟨o, e⟩ := h.some
  exact h.mono' g ((s _ _ e).trans e.symm)
theorem RdR.mono (g : Same G G') (s : Same H H') (h : RdR K G H v d) : RdR K G' H' v d := by
  rcases h with h | ⟨a, e, h⟩
  · exact .inl (h.mono g)
  · exact .inr ⟨a, e, h.mono g s⟩
/-- P, where a dict at v is locked (what lasts is known to the object) -/
def Frz (H : Hp) (v : V) (P : Hp → Prop) : Prop := P H ∨ ∃ a u, v = .ref a ∧ H a = some u ∧ Mut (some u) ∧ ∀ o, P (upd H a (.frz o u))
/-- a top cell becomes lasting -/
theorem Top.freeze {P : Hp → Prop} (n : G a = none) (gh : Same G H) (h : Top K G H a d) (k : ∀ G' H', Same G G' → Same G' H' → Rep K G' (.ref a) d → (∀ b, b ≠ a → G' b = G b) → (∀ b, b ≠ a → H' b = H b) → H' a ≠ none → P H') : Frz H (.ref a) P := by
  have s1 : ∀ o, Same G (upd G a o) := fun o b u q => by rw [upd_ne (ne_of_none q n)]; exact q
  have s2 : ∀ o, Same (upd G a o) (upd H a o) := fun o b u q => by
    by_cases hb : b = a
    · subst hb; rw [upd_same] at q ⊢; exact q
    · rw [upd_ne hb] at q ⊢; exact gh _ _ q
  cases d with
  | list ds =>
    obtain ⟨xs, q, r⟩ := h
    refine .inl (k (upd G a (.lst xs)) H (s1 _) (fun b u e => ?_) (.lst (.inl (.inl upd_same)) (r.mono (s1 _))) (fun b hb => upd_ne hb) (fun _ _ => rfl) (by rw [q]; exact fun z => nomatch z))
    by_cases hb : b = a
    · subst hb; rw [upd_same] at e; rw [← e]; exact q
    · rw [upd_ne hb] at e; exact gh _ _ e
  | dict ds =>
    rcases h with ⟨l, q, r⟩ | ⟨l, q, hl, r⟩
    · exact .inr ⟨a, _, rfl, q, True.intro, fun o => k (upd G a (.frz o (.dK l))) (upd H a (.frz o (.dK l))) (s1 _) (s2 _) (.dk upd_same (r.mono (s1 _))) (fun b hb => upd_ne hb) (fun b hb => upd_ne hb) (by rw [upd_same]; exact fun z => nomatch z)⟩
    · exact .inr ⟨a, _, rfl, q, True.intro, fun o => k (upd G a (.frz o (dnO K.w a l))) (upd H a (.frz o (dnO K.w a l))) (s1 _) (s2 _) (.dn upd_same hl (r.mono (s1 _))) (fun b hb => upd_ne hb) (fun b hb => upd_ne hb) (by rw [upd_same]; exact fun z => nomatch z)⟩
  | none => exact h.elim
  | bool _ => exact h.elim
  | int _ => exact h.elim
  | str _ => exact h.elim
  | tuple _ => exact h.elim
end
/-! ### 4. steps -/
/-- from (G, H) to (G', H'): all stays, what lasts newly is new -/
structure Stp (G H G' H' : Hp) : Prop where
  g : Same G G'
  h : Same H H'
  gh : Same G' H'
  fr : ∀ a, G a = none → H a ≠ none → G' a = none
section
variable {G H G1 H1 G2 H2 : Hp}
theorem Stp.refl (s : Same G H) : Stp G H G H := ⟨Same.refl _, Same.refl _, s, fun _ e _ => e⟩
theorem Stp.trans (a : Stp G H G1 H1) (b : Stp G1 H1 G2 H2) : Stp G H G2 H2 :=
  ⟨a.g.trans b.g, a.h.trans b.h, b.gh, fun x e n => b.fr x (a.fr x e n) fun z => n (a.h.free z)⟩
/-- a new lasting object -/
theorem Stp.new {p : Addr} {o : HO} (s : Same G H) (n : H p = none) : Stp G H (upd G p o) (upd H p o) := by
  have ng : G p = none := s.free n
  refine ⟨fun b u q => ?_, fun b u q => ?_, fun b u q => ?_, fun b e h => ?_⟩
  · rw [upd_ne (ne_of_none q ng)]; exact q
  · rw [upd_ne (ne_of_none q n)]; exact q
  · by_cases hb : b = p
    · subst hb; rw [upd_same] at q ⊢; exact q
    · rw [upd_ne hb] at q ⊢; exact s _ _ q
  · have hb : b ≠ p := fun z => h (by rw [z]; exact n)
    rw [upd_ne hb]; exact e
/-- a new object of one's own -/
theorem Stp.newH {p : Addr} {o : HO} (s : Same G H) (n : H p = none) : Stp G H G (upd H p o) := by
  refine ⟨Same.refl _, fun b u q => ?_, fun b u q => ?_, fun b e h => e⟩
  · rw [upd_ne (ne_of_none q n)]; exact q
  · rw [upd_ne (ne_of_none (s _ _ q) n)]; exact s _ _ q
theorem Same.ne {H H' : Hp} (s : Same H H') {a : Addr} (h : H a ≠ none) : H' a ≠ none := fun z => h (s.free z)
theorem same_at {H H' : Hp} (s : Same H H') {a : Addr} (h : H a ≠ none) : H' a = H a := by
  cases e : H a with
  | none => exact absurd e h
  | some o => exact s _ _ e
end
/-! ### 5. things with parts of one's own -/
mutual
inductive Own (K : Kw) (G H : Hp) : V → T → List Addr → Prop
  | d {v : V} {x : PyData} : Rep K G v x → Own K G H v (.d x) []
  | f {a : Addr} {x : PyData} : Top K G H a x → Own K G H (.ref a) (.f x) [a]
  | l {a : Addr} {vs : List V} {ts : List T} {fp : List Addr} : H a = some (.lst vs) → OwnL K G H vs ts fp → Own K G H (.ref a) (.l ts) (a :: fp)
  | m {a : Addr} {vs : List (Key × V)} {ts : List (Key × T)} {fp : List Addr} : H a = some (.dK vs) → OwnM K G H vs ts fp → Own K G H (.ref a) (.m ts) (a :: fp)
  | p {a : Addr} {vs : List V} {ts : List T} {fp : List Addr} : H a = some (.tup vs) → OwnL K G H vs ts fp → Own K G H (.ref a) (.p ts) (a :: fp)
  | o {a c dx : Addr} {vs : List (Str × V)} {ts : List (Str × T)} {fp : List Addr} : H a = some (.ins c dx vs) → H dx = some (.own a) → OwnF K G H vs ts fp → Own K G H (.ref a) (.o ts) (a :: dx :: fp)
inductive OwnL (K : Kw) (G H : Hp) : List V → List T → List Addr → Prop
  | nil : OwnL K G H [] [] []
  | cons {v : V} {vs : List V} {t : T} {ts : List T} {f1 f2 : List Addr} : Own K G H v t f1 → OwnL K G H vs ts f2 → OwnL K G H (v :: vs) (t :: ts) (f1 ++ f2)
inductive OwnM (K : Kw) (G H : Hp) : List (Key × V) → List (Key × T) → List Addr → Prop
  | nil : OwnM K G H [] [] []
  | cons {k : Key} {v : V} {vs : List (Key × V)} {t : T} {ts : List (Key × T)} {f1 f2 : List Addr} : Own K G H v t f1 → OwnM K G H vs ts f2 → OwnM K G H ((k, v) :: vs) ((k, t) :: ts) (f1 ++ f2)
inductive OwnF (K : Kw) (G H : Hp) : List (Str × V) → List (Str × T) → List Addr → Prop
  | nil : OwnF K G H [] [] []
  | cons {k : Str} {v : V} {vs : List (Str × V)} {t : T} {ts : List (Str × T)} {f1 f2 : List Addr} : Own K G H v t f1 → OwnF K G H vs ts f2 → OwnF K G H ((k, v) :: vs) ((k, t) :: ts) (f1 ++ f2)
end
section
variable {K : Kw} {G G' H H' : Hp}
mutual
/-- it stays while its own cells stay -/
theorem Own.keep (g : Same G G') : ∀ {t : T} {v : V} {fp : List Addr}, Own K G H v t fp → (∀ b ∈ fp, H' b = H b) → Own K G' H' v t fp
  | .d _, _, _, .d r, _ => .d (r.mono g)
  | .f _, _, _, .f t, e => .f (t.mono' g (e _ List.mem_cons_self))
  | .l _, _, _, .l q r, e => .l ((e _ List.mem_cons_self).trans q) (OwnL.keep g r fun b hb => e b (List.mem_cons_of_mem _ hb))
  | .m _, _, _, .m q r, e => .m ((e _ List.mem_cons_self).trans q) (OwnM.keep g r fun b hb => e b (List.mem_cons_of_mem _ hb))
  | .p _, _, _, .p q r, e => .p ((e _ List.mem_cons_self).trans q) (OwnL.keep g r fun b hb => e b (List.mem_cons_of_mem _ hb))
  | .o _, _, _, .o q q2 r, e => .o ((e _ List.mem_cons_self).trans q) ((e _ (List.mem_cons_of_mem _ List.mem_cons_self)).trans q2) (OwnF.keep g r fun b hb => e b (List.mem_cons_of_mem _ (List.mem_cons_of_mem _ hb)))
theorem OwnL.keep (g : Same G G') : ∀ {ts : List T} {vs : List V} {fp : List Addr}, OwnL K G H vs ts fp → (∀ b ∈ fp, H' b = H b) → OwnL K G' H' vs ts fp
  | [], _, _, .nil, _ => .nil
  | _ :: _, _, _, .cons q r, e => .cons (Own.keep g q fun b hb => e b (List.mem_append_left _ hb)) (OwnL.keep g r fun b hb => e b (List.mem_append_right _ hb))
theorem OwnM.keep (g : Same G G') : ∀ {ts : List (Key × T)} {vs : List (Key × V)} {fp : List Addr}, OwnM K G H vs ts fp → (∀ b ∈ fp, H' b = H b) → OwnM K G' H' vs ts fp
  | [], _, _, .nil, _ => .nil
  | (_, _) :: _, _, _, .cons q r, e => .cons (Own.keep g q fun b hb => e b (List.mem_append_left _ hb)) (OwnM.keep g r fun b hb => e b (List.mem_append_right _ hb))
theorem OwnF.keep (g : Same G G') : ∀ {ts : List (Str × T)} {vs : List (Str × V)} {fp : List Addr}, OwnF K G H vs ts fp → (∀ b ∈ fp, H' b = H b) → OwnF K G' H' vs ts fp
  | [], _, _, .nil, _ => .nil
  | (_, _) :: _, _, _, .cons q r, e => .cons (Own.keep g q fun b hb => e b (List.mem_append_left _ hb)) (OwnF.keep g r fun b hb => e b (List.mem_append_right _ hb))
end
mutual
/-- its cells are there -/
theorem Own.there : ∀ {t : T} {v : V} {fp : List Addr}, Own K G H v t fp → ∀ b ∈ fp, H b ≠ none
  | .d _, _, _, .d _, b, hb => by cases hb
  | .f _, _, _, .f t, b, hb => by rw [List.mem_singleton] at hb; subst hb; exact t.ne
  | .l _, _, _, .l q r, b, hb => by
    rcases List.mem_cons.mp hb with rfl | hb
    · rw [q]; exact fun z => nomatch z
    · exact OwnL.there r b hb
  | .m _, _, _, .m q r, b, hb => by
    rcases List.mem_cons.mp hb with rfl | hb
    · rw [q]; exact fun z => nomatch z
    · exact OwnM.there r b hb
  | .p _, _, _, .p q r, b, hb => by
    rcases List.mem_cons.mp hb with rfl | hb
    · rw [q]; exact fun z => nomatch z
    · exact OwnL.there r b hb
  | .o _, _, _, .o q q2 r, b, hb => by
    rcases List.mem_cons.mp hb with rfl | hb
    · rw [q]; exact fun z => nomatch z
    · rcases List.mem_cons.mp hb with rfl | hb
      · rw [q2]; exact fun z => nomatch z
      · exact OwnF.there r b hb
theorem OwnL.there : ∀ {ts : List T} {vs : List V} {fp : List Addr}, OwnL K G H vs ts fp → ∀ b ∈ fp, H b ≠ none
  | [], _, _, .nil, b, hb => by cases hb
  | _ :: _, _, _, .cons q r, b, hb => by
    rcases List.mem_append.mp hb with hb | hb
    · exact Own.there q b hb
    · exact OwnL.there r b hb
theorem OwnM.there : ∀ {ts : List (Key × T)} {vs : List (Key × V)} {fp : List Addr}, OwnM K G H vs ts fp → ∀ b ∈ fp, H b ≠ none
  | [], _, _, .nil, b, hb => by cases hb
  | (_, _) :: _, _, _, .cons q r, b, hb => by
    rcases List.mem_append.mp hb with hb | hb
    · exact Own.there q b hb
    · exact OwnM.there r b hb
theorem OwnF.there : ∀ {ts : List (Str × T)} {vs : List (Str × V)} {fp : List Addr}, OwnF K G H vs ts fp → ∀ b ∈ fp, H b ≠ none
  | [], _, _, .nil, b, hb => by cases hb
  | (_, _) :: _, _, _, .cons q r, b, hb => by
    rcases List.mem_append.mp hb with hb | hb
    · exact Own.there q b hb
    · exact OwnF.there r b hb
end
theorem Own.mono (g : Same G G') (s : Same H H') {t : T} {v : V} {fp : List Addr} (h : Own K G H v t fp) : Own K G' H' v t fp := h.keep g fun b hb => same_at s (h.there b hb)
end
/-! ### 6. results -/
/-- what a result is, its own cells fp (new since H0) -/
def ResF (K : Kw) (H0 G H : Hp) : Slot → V → Prop
  | .val d, v => Rep K G v d
  | .own d, v => ∃ a, v = .ref a ∧ G a = none ∧ H0 a = none ∧ Top K G H a d
  | .bor d, v => ∃ a, v = .ref a ∧ Top K G H a d
  | .tr t, v => ∃ fp, Own K G H v t fp ∧ fp.Nodup ∧ ∀ a ∈ fp, G a = none ∧ H0 a = none
  | .bt t, v => ∃ fp, Own K G H v t fp
  | .exn _, _ => False
def Slot.rd : Slot → Res PyData
  | .val d => .ok d
  | .own d => .ok d
  | .bor d => .ok d
  | _ => .stuck
def Slot.vl : Slot → Res PyData
  | .val d => .ok d
  | .own d => .ok d
  | _ => .stuck
section
variable {K : Kw} {H0 G H G1 H1 G2 H2 : Hp} {s : Slot} {v : V}
theorem ResF.rd (h : ResF K H0 G H s v) {d : PyData} (e : s.rd = .ok d) : RdR K G H v d := by
  cases s with
  | val d => cases e; exact .inl h
  | own d => cases e; obtain ⟨a, e, _, _, t⟩ := h; exact .inr ⟨a, e, t⟩
  | bor d => cases e; obtain ⟨a, e, t⟩ := h; exact .inr ⟨a, e, t⟩
  | tr t => cases e
  | bt t => cases e
  | exn x => exact h.elim
theorem rd_noexc {x : Exn} : s.rd ≠ .exc x := by cases s <;> (intro h; cases h)
theorem vl_noexc {x : Exn} : s.vl ≠ .exc x := by cases s <;> (intro h; cases h)
theorem ResF.vl {d : PyData} {P : Hp → Prop} (st : Stp G H G1 H1) (h : ResF K H G1 H1 s v) (e : s.vl = .ok d) (k : ∀ G2 H2, Stp G H G2 H2 → Same G1 G2 → Rep K G2 v d → P H2) : Frz H1 v P := by
  cases s with
  | val d' =>
    cases e
    exact .inl (k G1 H1 st (Same.refl _) h)
  | own d' =>
    cases e
    obtain ⟨a, ev, n, n0, t⟩ := h
    subst ev
    refine t.freeze n st.gh fun G2 H2 s1 s2 r hb hh hn => k G2 H2 ⟨st.g.trans s1, fun x o q => ?_, s2, fun x ex hx => ?_⟩ s1 r
    · have hxa : x ≠ a := fun z => by rw [z, n0] at q; cases q
      rw [hh x hxa]; exact st.h x o q
    · have hxa : x ≠ a := fun z => hx (by rw [z]; exact n0)
      rw [hb x hxa]
      exact st.fr x ex hx
  | bor d' => cases e
  | tr d' => cases e
  | bt d' => cases e
  | exn x => cases e
theorem ResF.mono0 (s0 : Same H0 H1) (h : ResF K H1 G H s v) : ResF K H0 G H s v := by
  cases s with
  | val d => exact h
  | own d => obtain ⟨a, e, n, n0, t⟩ := h; exact ⟨a, e, n, s0.free n0, t⟩
  | bor d => exact h
  | tr t => obtain ⟨fp, o, n, q⟩ := h; exact ⟨fp, o, n, fun a ha => ⟨(q a ha).1, s0.free (q a ha).2⟩⟩
  | bt t => exact h
  | exn x => exact h
end
/-! ### 7. a frame's state -/
/-- the law's fixed things: the written part, the classes of refusal, what is held in an except suite, what the frame was lent: places and roots -/
structure Cn where
  K : Kw
  ec : EC → Addr
  A : Addr → Exn → Prop := fun _ _ => False
  R : List (Nat × V) := []
/-- a slot's value, its own cells fp -/
def SlR (C : Cn) (B G H : Hp) (fp : List Addr) : Slot → V → Prop
  | .val d, v => fp = [] ∧ Rep C.K G v d
  | .own d, v => ∃ a, v = .ref a ∧ fp = [a] ∧ Top C.K G H a d
  | .bor d, v => ∃ a, v = .ref a ∧ fp = [] ∧ B a ≠ none ∧ Top C.K G H a d
  | .tr t, v => Own C.K G H v t fp
  | .bt t, v => fp = [] ∧ ∃ fq, Own C.K G H v t fq ∧ ∀ a ∈ fq, B a ≠ none
  | .exn x, v => fp = [] ∧ ∃ a, v = .ref a ∧ C.A a x
theorem SlR.there {C : Cn} {B G H : Hp} {fp : List Addr} {s : Slot} {v : V} (h : SlR C B G H fp s v) : ∀ a ∈ fp, H a ≠ none := by
  cases s with
  | val d => obtain ⟨e, _⟩ := h; subst e; exact fun a ha => nomatch ha
  | own d => obtain ⟨b, _, e, t⟩ := h; subst e; intro a ha; rw [List.mem_singleton] at ha; subst ha; exact t.ne
  | bor d => obtain ⟨b, _, e, _⟩ := h; subst e; exact fun a ha => nomatch ha
  | tr t => exact Own.there h
  | bt t => obtain ⟨e, _⟩ := h; subst e; exact fun a ha => nomatch ha
  | exn x => obtain ⟨e, _⟩ := h; subst e; exact fun a ha => nomatch ha
theorem SlR.keep {C : Cn} {B G H G' H' : Hp} {fp : List Addr} {s : Slot} {v : V} (g : Same G G') (e : ∀ b ∈ fp, H' b = H b) (eb : ∀ b, B b ≠ none → H' b = H b) (h : SlR C B G H fp s v) : SlR C B G' H' fp s v := by
  cases s with
  | val d => exact ⟨h.1, h.2.mono g⟩
  | own d => obtain ⟨b, ev, ef, t⟩ := h; subst ef; exact ⟨b, ev, rfl, t.mono' g (e b List.mem_cons_self)⟩
  | bor d => obtain ⟨b, ev, ef, nb, t⟩ := h; exact ⟨b, ev, ef, nb, t.mono' g (eb b nb)⟩
  | tr t => exact Own.keep g h e
  | bt t => obtain ⟨ef, fq, o, q⟩ := h; exact ⟨ef, fq, o.keep g fun b hb => eb b (q b hb), q⟩
  | exn x => exact h
/-- the slots of a frame, the own cells of each -/
structure EnR (C : Cn) (B G H : Hp) (σ : St) (δ : DEnv) (fps : Nat → List Addr) : Prop where
  sl : ∀ (i : Nat) (s : Slot), δ[i]? = some (some s) → ∃ v, σ[i]? = some (some v) ∧ SlR C B G H (fps i) s v
  no : ∀ i : Nat, (∀ s, δ[i]? ≠ some (some s)) → fps i = []
  nd : ∀ i, (fps i).Nodup
  dj : ∀ i j a, i ≠ j → a ∈ fps i → a ∉ fps j
  off : ∀ i a, a ∈ fps i → B a = none ∧ G a = none
structure StR (C : Cn) (B G0 G H : Hp) (σ : St) (δ : DEnv) : Prop where
  bh : Same B H
  g0 : Same G0 G
  gh : Same G H
  fr : ∀ a, G0 a = none → B a ≠ none → G a = none
  len : σ.length = δ.length
  rt : ∀ p ∈ C.R, σ[p.1]? = some (some p.2)
  en : ∃ fps, EnR C B G H σ δ fps
section
variable {C : Cn} {B G0 G H G' H' : Hp} {σ : St} {δ : DEnv} {fps : Nat → List Addr}
theorem EnR.there (E : EnR C B G H σ δ fps) {i : Nat} {a : Addr} (h : a ∈ fps i) : H a ≠ none := by
  by_cases hs : ∃ s, δ[i]? = some (some s)
  · obtain ⟨s, e⟩ := hs
    obtain ⟨v, _, r⟩ := E.sl i s e
    exact r.there a h
  · rw [E.no i fun s z => hs ⟨s, z⟩] at h; cases h
theorem EnR.step (E : EnR C B G H σ δ fps) (bh : Same B H) (st : Stp G H G' H') : EnR C B G' H' σ δ fps :=
  ⟨fun i s e => let ⟨v, q, r⟩ := E.sl i s e; ⟨v, q, r.keep st.g (fun b hb => same_at st.h (E.there hb)) fun b hb => same_at st.h (Same.ne bh hb)⟩, E.no, E.nd, E.dj, fun i a ha => ⟨(E.off i a ha).1, st.fr a (E.off i a ha).2 (E.there ha)⟩⟩
theorem StR.step (S : StR C B G0 G H σ δ) (st : Stp G H G' H') : StR C B G0 G' H' σ δ :=
  ⟨S.bh.trans st.h, S.g0.trans st.g, st.gh, fun a e n => st.fr a (S.fr a e n) (fun z => n (S.bh.free z)), S.len, S.rt, let ⟨fps, E⟩ := S.en; ⟨fps, E.step S.bh st⟩⟩
/-- another word for what stood ahead -/
theorem StR.base (S : StR C B G0 G H σ δ) : StR C B G G H σ δ :=
  ⟨S.bh, Same.refl _, S.gh, fun _ e _ => e, S.len, S.rt, S.en⟩
theorem StR.unbase (S : StR C B G0 G H σ δ) {σ' : St} {δ' : DEnv} (T : StR C B G G' H' σ' δ') : StR C B G0 G' H' σ' δ' :=
  ⟨T.bh, S.g0.trans T.g0, T.gh, fun a e n => T.fr a (S.fr a e n) n, T.len, T.rt, T.en⟩
/-- the frame's end against its entry -/
theorem StR.end (S : StR C B G0 G H σ δ) : Stp G0 B G H := ⟨S.g0, S.bh, S.gh, S.fr⟩
def fset (fps : Nat → List Addr) (i : Nat) (fp : List Addr) : Nat → List Addr := fun j => if j = i then fp else fps j
theorem fset_same {i : Nat} {fp : List Addr} : fset fps i fp i = fp := if_pos rfl
theorem fset_ne {i j : Nat} {fp : List Addr} (h : j ≠ i) : fset fps i fp j = fps j := if_neg h
/-- THE change of one place: nothing but its own cells changes -/
theorem EnR.put (E : EnR C B G H σ δ fps) (bh : Same B H) (hl : σ.length = δ.length) {i : Nat} {fp : List Addr} {s : Slot} {v : V} (hi : i < δ.length) (g : Same G G') (h : ∀ a o, H a = some o → a ∉ fps i → H' a = some o)
    (gn : ∀ a, G' a ≠ none → G a ≠ none ∨ H a = none ∨ a ∈ fps i) (r : SlR C B G' H' fp s v) (nd : fp.Nodup) (nw : ∀ a ∈ fp, (a ∈ fps i ∨ H a = none) ∧ G' a = none) : EnR C B G' H' (σ.set i (some v)) (δ.set i (some s)) (fset fps i fp) := by
  have keep : ∀ a, H a ≠ none → a ∉ fps i → H' a = H a := fun a ha hn => by
    cases e : H a with
    | none => exact absurd e ha
    | some o => exact h a o e hn
  have nb : ∀ a, B a ≠ none → a ∉ fps i := fun a ha z => ha (E.off i a z).1
  refine ⟨fun j u e => ?_, fun j e => ?_, fun j => ?_, fun j k a hjk ha => ?_, fun j a ha => ?_⟩
  · by_cases hj : i = j
    · subst hj
      rw [List.getElem?_set_self hi] at e
      cases e
      exact ⟨v, by rw [List.getElem?_set_self (by rw [hl]; exact hi)], by rw [fset_same]; exact r⟩
    · rw [List.getElem?_set_ne hj] at e
      obtain ⟨w, q, z⟩ := E.sl j u e
      refine ⟨w, by rw [List.getElem?_set_ne hj]; exact q, ?_⟩
      rw [fset_ne (Ne.symm hj)]
      exact z.keep g (fun b hb => keep b (E.there hb) (E.dj j i b (Ne.symm hj) hb)) fun b hb => keep b (Same.ne bh hb) (nb b hb)
  · by_cases hj : i = j
    · subst hj
      exact absurd (List.getElem?_set_self hi) (e s)
    · rw [fset_ne (Ne.symm hj)]
      exact E.no j fun u z => e u (by rw [List.getElem?_set_ne hj]; exact z)
  · by_cases hj : j = i
    · subst hj; rw [fset_same]; exact nd
    · rw [fset_ne hj]; exact E.nd j
  · by_cases hj : j = i
    · subst hj
      rw [fset_same] at ha
      rw [fset_ne (Ne.symm hjk)]
      rcases (nw a ha).1 with z | z
      · exact E.dj j k a hjk z
      · exact fun w => E.there w z
    · rw [fset_ne hj] at ha
      by_cases hk : k = i
      · subst hk
        rw [fset_same]
        intro w
        rcases (nw a w).1 with z | z
        · exact E.dj j k a hjk ha z
        · exact E.there ha z
      · rw [fset_ne hk]; exact E.dj j k a hjk ha
  · by_cases hj : j = i
    · subst hj
      rw [fset_same] at ha
      refine ⟨?_, (nw a ha).2⟩
      rcases (nw a ha).1 with z | z
      · exact (E.off j a z).1
      · exact bh.free z
    · rw [fset_ne hj] at ha
      refine ⟨(E.off j a ha).1, ?_⟩
      cases e : G' a with
      | none => rfl
      | some o =>
        rcases gn a (by rw [e]; exact fun z => nomatch z) with z | z | z
        · exact absurd (E.off j a ha).2 z
        · exact absurd z (E.there ha)
        · exact absurd z (E.dj j i a hj ha)
theorem StR.put (S : StR C B G0 G H σ δ) (E : EnR C B G H σ δ fps) {i : Nat} {fp : List Addr} {s : Slot} {v : V} (hi : i < δ.length) (g : Same G G') (gh : Same G' H') (h : ∀ a o, H a = some o → a ∉ fps i → H' a = some o)
    (gn : ∀ a, G' a ≠ none → G a ≠ none ∨ H a = none ∨ a ∈ fps i) (r : SlR C B G' H' fp s v) (nd : fp.Nodup) (nw : ∀ a ∈ fp, (a ∈ fps i ∨ H a = none) ∧ G' a = none) (hr : ∀ p ∈ C.R, p.1 = i → v = p.2) : StR C B G0 G' H' (σ.set i (some v)) (δ.set i (some s)) := by
  refine ⟨fun b o e => h b o (S.bh _ _ e) fun z => ?_, S.g0.trans g, gh, fun a e n => ?_, by simp [S.len], fun p hp => ?_, _, E.put S.bh S.len hi g h gn r nd nw⟩
  · rw [(E.off i b z).1] at e; cases e
  · cases q : G' a with
    | none => rfl
    | some o =>
      rcases gn a (by rw [q]; exact fun z => nomatch z) with z | z | z
      · exact absurd (S.fr a e n) z
      · exact absurd z (Same.ne S.bh n)
      · exact absurd (E.off i a z).1 n
  · by_cases hp1 : p.1 = i
    · rw [hp1, hr p hp hp1, List.getElem?_set_self (by rw [S.len]; exact hi)]
    · rw [List.getElem?_set_ne (Ne.symm hp1)]; exact S.rt p hp
theorem set_out {α : Type} {xs : List α} {i : Nat} {x : α} (h : ¬ i < xs.length) : xs.set i x = xs := List.set_eq_of_length_le (by omega)
/-- i is not the place of what was lent -/
def Cn.free (C : Cn) (i : Nat) : Prop := ∀ p ∈ C.R, p.1 ≠ i
/-- a slot gets a value -/
theorem StR.setVal (S : StR C B G0 G H σ δ) {i : Nat} {v : V} {d : PyData} (hf : C.free i) (r : Rep C.K G v d) : StR C B G0 G H (σ.set i (some v)) (δ.set i (some (.val d))) := by
  obtain ⟨fps, E⟩ := S.en
  by_cases hi : i < δ.length
  · exact S.put E hi (Same.refl _) S.gh (fun _ _ e _ => e) (fun a h => .inl h) (fp := []) (s := .val d) ⟨rfl, r⟩ List.nodup_nil (fun a ha => nomatch ha) (fun p hp e => absurd e (hf p hp))
  · rw [set_out hi, set_out (by rw [S.len]; exact hi)]; exact S
/-- a slot is forgotten -/
theorem StR.setNone (S : StR C B G0 G H σ δ) {i : Nat} (hf : C.free i) (o : Option V) : StR C B G0 G H (σ.set i o) (δ.set i none) := by
  obtain ⟨fps, E⟩ := S.en
  refine ⟨S.bh, S.g0, S.gh, S.fr, by simp [S.len], fun p hp => by rw [List.getElem?_set_ne (Ne.symm (hf p hp))]; exact S.rt p hp, fset fps i [], ⟨fun j s e => ?_, fun j e => ?_, fun j => ?_, fun j k a hjk ha => ?_, fun j a ha => ?_⟩⟩
  · by_cases hj : i = j
    · subst hj
      rw [List.getElem?_set] at e
      split at e
      · split at e
        · cases e
        · cases e
      · rename_i z; exact (z rfl).elim
    · rw [List.getElem?_set_ne hj] at e ⊢
      rw [fset_ne (Ne.symm hj)]
      exact E.sl j s e
  · by_cases hj : i = j
    · subst hj; exact fset_same
    · rw [fset_ne (Ne.symm hj)]
      exact E.no j fun u z => e u (by rw [List.getElem?_set_ne hj]; exact z)
  · by_cases hj : j = i
    · subst hj; rw [fset_same]; exact List.nodup_nil
    · rw [fset_ne hj]; exact E.nd j
  · by_cases hj : j = i
    · subst hj; rw [fset_same] at ha; cases ha
    · rw [fset_ne hj] at ha
      by_cases hk : k = i
      · subst hk; rw [fset_same]; exact fun z => nomatch z
      · rw [fset_ne hk]; exact E.dj j k a hjk ha
  · by_cases hj : j = i
    · subst hj; rw [fset_same] at ha; cases ha
    · rw [fset_ne hj] at ha; exact E.off j a ha
/-- a slot gets a result that is new -/
theorem StR.setNew (S : StR C B G0 G H σ δ) {i : Nat} (hf : C.free i) (st : Stp G H G' H') {s : Slot} {v : V} (r : ResF C.K H G' H' s v) (hs : (∃ d, s = .val d) ∨ (∃ d, s = .own d) ∨ ∃ t, s = .tr t) : StR C B G0 G' H' (σ.set i (some v)) (δ.set i (some s)) := by
  obtain ⟨fps, E⟩ := S.en
  by_cases hi : i < δ.length
  · have hr : ∀ p ∈ C.R, p.1 = i → v = p.2 := fun p hp e => absurd e (hf p hp)
    have h : ∀ a o, H a = some o → a ∉ fps i → H' a = some o := fun a o e _ => st.h a o e
    have gn : ∀ a, G' a ≠ none → G a ≠ none ∨ H a = none ∨ a ∈ fps i := fun a ha => by
      by_cases hg : G a = none
      · by_cases hh : H a = none
        · exact .inr (.inl hh)
        · exact absurd (st.fr a hg hh) ha
      · exact .inl hg
    rcases hs with ⟨d, rfl⟩ | ⟨d, rfl⟩ | ⟨t, rfl⟩
    · exact S.put E hi st.g st.gh h gn (fp := []) (s := .val d) ⟨rfl, r⟩ List.nodup_nil (fun a ha => nomatch ha) hr
    · obtain ⟨b, e, n, n0, t⟩ := r
      exact S.put E hi st.g st.gh h gn (fp := [b]) (s := .own d) ⟨b, e, rfl, t⟩ (by simp) (fun a ha => by rw [List.mem_singleton] at ha; subst ha; exact ⟨.inr n0, n⟩) hr
    · obtain ⟨fp, o, nd, q⟩ := r
      exact S.put E hi st.g st.gh h gn (fp := fp) (s := .tr t) o nd (fun a ha => ⟨.inr (q a ha).2, (q a ha).1⟩) hr
  · rw [set_out hi, set_out (by rw [S.len]; exact hi)]; exact S.step st
theorem set_id {α : Type} {xs : List α} {i : Nat} {x : α} (h : xs[i]? = some x) : xs.set i x = xs := by
  refine List.ext_getElem? fun j => ?_
  by_cases hj : i = j
  · subst hj
    rw [List.getElem?_set_self (List.getElem?_eq_some_iff.mp h).1, h]
  · rw [List.getElem?_set_ne hj]
/-- an object of one's own is changed -/
theorem StR.write (S : StR C B G0 G H σ δ) {i : Nat} {a : Addr} {d d' : PyData} {o : HO} (hi : δ[i]? = some (some (.own d))) (ha : σ[i]? = some (some (.ref a))) (t : Top C.K G (upd H a o) a d') :
    StR C B G0 G (upd H a o) σ (δ.set i (some (.own d'))) := by
  obtain ⟨fps, E⟩ := S.en
  obtain ⟨v, q, b, ev, ef, tb⟩ := E.sl i _ hi
  rw [ha] at q; cases q; cases ev
  have hli : i < δ.length := (List.getElem?_eq_some_iff.mp hi).1
  have hoff := E.off i a (by rw [ef]; exact List.mem_cons_self)
  have := S.put E (s := .own d') (v := .ref a) (fp := [a]) hli (Same.refl _) (fun b u q => by rw [upd_ne (ne_of_none q hoff.2)]; exact S.gh _ _ q) (fun b u e hn => by rw [upd_ne (fun z => hn (by rw [ef, z]; exact List.mem_cons_self))]; exact e) (fun b h => .inl h) ⟨a, rfl, rfl, t⟩ (by simp)
    (fun b hb => by rw [List.mem_singleton] at hb; subst hb; exact ⟨.inl (by rw [ef]; exact List.mem_cons_self), hoff.2⟩) (fun p hp e => by have := S.rt p hp; rw [e, ha] at this; exact Option.some.inj (Option.some.inj this))
  rw [set_id ha] at this
  exact this
/-- an object of one's own becomes lasting -/
theorem StR.freeze {P : Hp → Prop} (S : StR C B G0 G H σ δ) {i : Nat} {d : PyData} (hi : δ[i]? = some (some (.own d))) (k : ∀ G' H', StR C B G0 G' H' σ (δ.set i (some (.val d))) → P H') : ∃ v, Frz H v P := by
  obtain ⟨fps, E⟩ := S.en
  obtain ⟨v, q, a, ev, ef, t⟩ := E.sl i _ hi
  subst ev
  have hoff := E.off i a (by rw [ef]; exact List.mem_cons_self)
  have hli : i < δ.length := (List.getElem?_eq_some_iff.mp hi).1
  refine ⟨.ref a, t.freeze hoff.2 S.gh fun G' H' s1 s2 r hb hh hn => k G' H' ?_⟩
  have := S.put E (s := .val d) (v := .ref a) (fp := []) hli s1 s2 (fun b u e hn => by rw [hh b (fun z => hn (by rw [ef, z]; exact List.mem_cons_self))]; exact e) (fun b h => ?_) ⟨rfl, r⟩ List.nodup_nil (fun b hb => nomatch hb) (fun p hp e => by have := S.rt p hp; rw [e, q] at this; exact Option.some.inj (Option.some.inj this))
  · rw [set_id q] at this
    exact this
  · by_cases hba : b = a
    · exact .inr (.inr (by rw [ef, hba]; exact List.mem_cons_self))
    · rw [hb b hba] at h; exact .inl h
/-- .. or forgotten, its cells no longer one's own -/
theorem StR.sl (S : StR C B G0 G H σ δ) {i : Nat} {s : Slot} (e : δ[i]? = some (some s)) : ∃ v fp, σ[i]? = some (some v) ∧ SlR C B G H fp s v ∧ fp.Nodup ∧ ∀ a ∈ fp, B a = none ∧ G a = none := by
  obtain ⟨fps, E⟩ := S.en
  obtain ⟨v, q, r⟩ := E.sl i s e
  exact ⟨v, fps i, q, r, E.nd i, E.off i⟩
end
end DL
/-! DLb: what code does, said over data: expressions -/
namespace DL
open PySem L2
/-! ### 1. soundness -/
structure Ax where
  ec : EC → Addr
  A : Addr → Exn → Prop := fun _ _ => False
  R : List (Nat × V) := []
abbrev cn (X : Cx) (a : Ax) : Cn := ⟨X.kw, a.ec, a.A, a.R⟩
def FldR (K : Kw) (G H : Hp) (fs : List (Str × PyData)) (d : Option Addr) : Prop :=
  match fs with
  | [] => d = none
  | _ => ∃ dd vs, d = some dd ∧ H dd = some (.xd vs) ∧ vs.map (·.1) = fs.map (·.1) ∧ RepL K G (vs.map (·.2)) (fs.map (·.2))
def ExR (C : Cn) (G H : Hp) (x : Exn) (cls : Value) (d : Option Addr) : Prop := cls = .ref (C.ec x.c) ∧ FldR C.K G H x.fs d
/-- what is wanted of a result -/
def ROk {α β : Type} (C : Cn) (W : WX) (σ : St) (G H : Hp) (rel : Hp → Hp → α → β → Prop) (r : Res α) (Q : β → Hp → Prop) : Prop :=
  match r with
  | .ok a => ∀ v G' H', Stp G H G' H' → rel G' H' a v → Q v H'
  | .exc x => ∀ cls d G' H', Stp G H G' H' → ExR C G' H' x cls d → W cls d σ H'
  | .stuck => False
/-- t does what m says -/
def Snd {α β : Type} (C : Cn) (W : WX) (rel : Hp → Hp → Hp → α → β → Prop) (t : St → Hp → (β → Hp → Prop) → Prop) (m : DEnv → Res α) : Prop :=
  ∀ B G0 G H σ δ, StR C B G0 G H σ δ → ∀ Q, ROk C W σ G H (rel H) (m δ) Q → t σ H Q
abbrev relE (K : Kw) : Hp → Hp → Hp → Slot → V → Prop := fun H0 G H s v => ResF K H0 G H s v
abbrev relV (K : Kw) : Hp → Hp → Hp → PyData → V → Prop := fun _ G _ d v => Rep K G v d
abbrev relD (K : Kw) : Hp → Hp → Hp → PyData → V → Prop := fun _ G H d v => RdR K G H v d
abbrev relB : Hp → Hp → Hp → Bool → Bool → Prop := fun _ _ _ a b => a = b
abbrev relL (K : Kw) : Hp → Hp → Hp → List PyData → List V → Prop := fun _ G _ ds vs => RepL K G vs ds
def ArgR (K : Kw) (G H : Hp) : Slot → V → Prop
  | .val d, v => Rep K G v d
  | .bor d, v => ∃ a, v = .ref a ∧ Top K G H a d
  | .bt t, v => ∃ fp, Own K G H v t fp
  | _, _ => False
abbrev ArgsR (K : Kw) (G H : Hp) : List Slot → List V → Prop := Paired (ArgR K G H)
abbrev relS (K : Kw) : Hp → Hp → Hp → List Slot → List V → Prop := fun _ G H ss vs => ArgsR K G H ss vs
section
variable {C : Cn} {W : WX} {σ : St} {G H G1 H1 : Hp} {α β γ ε : Type}
theorem ROk.exc_step {rel : Hp → Hp → α → β → Prop} {x : Exn} {Q : β → Hp → Prop} (st : Stp G H G1 H1) (h : ROk C W σ G H rel (.exc x) Q) {rel' : Hp → Hp → γ → ε → Prop} {Q' : ε → Hp → Prop} : ROk C W σ G1 H1 rel' (.exc x) Q' :=
  fun cls d G' H' s r => h cls d G' H' (st.trans s) r
theorem snd_bind {rel1 : Hp → Hp → Hp → α → β → Prop} {rel2 : Hp → Hp → Hp → γ → ε → Prop} (down : ∀ H0 H1 G H a v, Same H0 H1 → rel2 H1 G H a v → rel2 H0 G H a v) {t1 : St → Hp → (β → Hp → Prop) → Prop} {m1 : DEnv → Res α} (h1 : Snd C W rel1 t1 m1)
    {t2 : β → St → Hp → (ε → Hp → Prop) → Prop} {m2 : α → DEnv → Res γ}
    (h2 : ∀ a v B G0 G H σ δ H0, StR C B G0 G H σ δ → rel1 H0 G H a v → ∀ Q, ROk C W σ G H (rel2 H) (m2 a δ) Q → t2 v σ H Q) :
    Snd C W rel2 (fun σ H Q => t1 σ H fun v H1 => t2 v σ H1 Q) (fun δ => (m1 δ).bind fun a => m2 a δ) := by
  intro B G0 G H σ δ S Q hq
  refine h1 B G0 G H σ δ S _ ?_
  show ROk C W σ G H (rel1 H) (m1 δ) _
  have hq' : ROk C W σ G H (rel2 H) ((m1 δ).bind fun a => m2 a δ) Q := hq
  generalize m1 δ = r at hq'
  cases r with
  | stuck => exact hq'.elim
  | exc x => exact fun cls d G' H' st r => hq' cls d G' H' st r
  | ok a =>
    intro v G' H' st r
    refine h2 a v B G0 G' H' σ δ H (S.step st) r Q ?_
    have hq2 : ROk C W σ G H (rel2 H) (m2 a δ) Q := hq'
    generalize m2 a δ = r2 at hq2
    cases r2 with
    | stuck => exact hq2.elim
    | exc x => exact fun cls d G2 H2 s2 r => hq2 cls d G2 H2 (st.trans s2) r
    | ok c => exact fun u G2 H2 s2 r => hq2 u G2 H2 (st.trans s2) (down _ _ _ _ _ _ st.h r)
/-- a pure end: nothing is done -/
theorem rok_ok {rel : Hp → Hp → α → β → Prop} {a : α} {Q : β → Hp → Prop} (h : ROk C W σ G H rel (.ok a) Q) (s : Same G H) {v : β} (r : rel G H a v) : Q v H := h v G H (Stp.refl s) r
theorem downE {K : Kw} : ∀ H0 H1 G H a v, Same H0 H1 → relE K H1 G H a v → relE K H0 G H a v := fun _ _ _ _ _ _ s r => ResF.mono0 s r
theorem downV {K : Kw} : ∀ H0 H1 G H a v, Same H0 H1 → relV K H1 G H a v → relV K H0 G H a v := fun _ _ _ _ _ _ _ r => r
theorem downD {K : Kw} : ∀ H0 H1 G H a v, Same H0 H1 → relD K H1 G H a v → relD K H0 G H a v := fun _ _ _ _ _ _ _ r => r
theorem downB : ∀ H0 H1 G H a v, Same H0 H1 → relB H1 G H a v → relB H0 G H a v := fun _ _ _ _ _ _ _ r => r
theorem downL {K : Kw} : ∀ H0 H1 G H a v, Same H0 H1 → relL K H1 G H a v → relL K H0 G H a v := fun _ _ _ _ _ _ _ r => r
theorem downS {K : Kw} : ∀ H0 H1 G H a v, Same H0 H1 → relS K H1 G H a v → relS K H0 G H a v := fun _ _ _ _ _ _ _ r => r
/-- .. and a dict that is told is locked -/
def tLk (t : TE) : TE := fun σ H Q => t σ H fun v H1 => Frz H1 v (Q v)
theorem pe_lk {X : Cx} {e : Expr} {t : TE} (h : PE X e t) : PE X e (tLk t) := by
  refine ⟨fun pins s σ H Q I hw => ?_⟩
  refine thn (h.run pins s σ _ _ I hw) fun v s1 ⟨x, H1, I2, r, q⟩ => ?_
  rcases q with q | ⟨a, u, ev, ha, mu, q⟩
  · exact ⟨x, H1, I2, r, q⟩
  · obtain ⟨od, I3⟩ := I2.lock ha mu
    exact ⟨x, _, I3, r, q od⟩
/-- a slot's result as a value that may last, as a readable one -/
theorem snd_v {t : TE} {m : DEnv → Res Slot} (h : Snd C W (relE C.K) t m) : Snd C W (relV C.K) (tLk t) (fun δ => (m δ).bind Slot.vl) := by
  intro B G0 G H σ δ S Q hq
  refine h B G0 G H σ δ S _ ?_
  have hq' : ROk C W σ G H (relV C.K H) ((m δ).bind Slot.vl) Q := hq
  generalize m δ = r at hq'
  cases r with
  | stuck => exact hq'.elim
  | exc x => exact hq'
  | ok s =>
    intro v G' H' st r
    have hq2 : ROk C W σ G H (relV C.K H) s.vl Q := hq'
    cases e : s.vl with
    | stuck => rw [e] at hq2; exact hq2.elim
    | exc x => exact (vl_noexc e).elim
    | ok d =>
      rw [e] at hq2
      exact ResF.vl st r e fun G2 H2 s2 _ rp => hq2 v G2 H2 s2 rp
theorem snd_d {t : TE} {m : DEnv → Res Slot} (h : Snd C W (relE C.K) t m) : Snd C W (relD C.K) t (fun δ => (m δ).bind Slot.rd) := by
  intro B G0 G H σ δ S Q hq
  refine h B G0 G H σ δ S Q ?_
  have hq' : ROk C W σ G H (relD C.K H) ((m δ).bind Slot.rd) Q := hq
  generalize m δ = r at hq'
  cases r with
  | stuck => exact hq'.elim
  | exc x => exact hq'
  | ok s =>
    intro v G' H' st r
    have hq2 : ROk C W σ G H (relD C.K H) s.rd Q := hq'
    cases e : s.rd with
    | stuck => rw [e] at hq2; exact hq2.elim
    | exc x => exact (rd_noexc e).elim
    | ok d => rw [e] at hq2; exact hq2 v G' H' st (ResF.rd r e)
end
/-! ### 2. judgements -/
abbrev ME := DEnv → Res Slot
abbrev MD := DEnv → Res PyData
abbrev MT := DEnv → Res Bool
abbrev ML := DEnv → Res (List PyData)
def DE (X : Cx) (a : Ax) (W : WX) (e : Expr) (m : ME) : Prop := ∃ t, PE X e t ∧ Snd (cn X a) W (relE X.kw) t m
def DV (X : Cx) (a : Ax) (W : WX) (e : Expr) (m : MD) : Prop := ∃ t, PE X e t ∧ Snd (cn X a) W (relV X.kw) t m
def DR (X : Cx) (a : Ax) (W : WX) (e : Expr) (m : MD) : Prop := ∃ t, PE X e t ∧ Snd (cn X a) W (relD X.kw) t m
def DT (X : Cx) (a : Ax) (W : WX) (e : Expr) (m : MT) : Prop := ∃ t, PT X e t ∧ Snd (cn X a) W relB t m
def DA (X : Cx) (a : Ax) (W : WX) (es : List Expr) (m : ML) : Prop := ∃ t, PA X es t ∧ Snd (cn X a) W (relL X.kw) t m
def DAS (X : Cx) (a : Ax) (W : WX) (es : List Expr) (m : DEnv → Res (List Slot)) : Prop := ∃ t, PA X es t ∧ Snd (cn X a) W (relS X.kw) t m
def mV (m : ME) : MD := fun δ => (m δ).bind Slot.vl
def mR (m : ME) : MD := fun δ => (m δ).bind Slot.rd
/-- a value as a slot -/
def Res.v (r : Res PyData) : Res Slot := r.bind fun d => .ok (.val d)
section
variable {X : Cx} {a : Ax} {W : WX} {e e1 e2 e3 : Expr} {es : List Expr} {pos : Pos}
theorem dv {m : ME} (h : DE X a W e m) : DV X a W e (mV m) := let ⟨t, p, s⟩ := h; ⟨_, pe_lk p, snd_v s⟩
theorem dr {m : ME} (h : DE X a W e m) : DR X a W e (mR m) := let ⟨t, p, s⟩ := h; ⟨t, p, snd_d s⟩
/-! names and constants -/
def mVar (i : Nat) : ME := fun δ => match δ[i]? with
  | some (some (.val d)) => .ok (.val d)
  | some (some (.own d)) => .ok (.bor d)
  | some (some (.bor d)) => .ok (.bor d)
  | some (some (.tr t)) => .ok (.bt t)
  | some (some (.bt t)) => .ok (.bt t)
  | _ => .stuck
theorem snd_var {C : Cn} {i : Nat} : Snd C W (relE C.K) (tVar i) (mVar i) := by
  intro B G0 G H σ δ S Q hq
  have hq' : ROk C W σ G H (relE C.K H) (mVar i δ) Q := hq
  unfold mVar at hq'
  split at hq'
  · rename_i d e
    obtain ⟨v, fp, q, r, _⟩ := S.sl e
    exact ⟨v, q, hq' v G H (Stp.refl S.gh) r.2⟩
  · rename_i d e
    obtain ⟨v, fp, q, ⟨b, ev, ef, t⟩, _⟩ := S.sl e
    exact ⟨v, q, hq' v G H (Stp.refl S.gh) ⟨b, ev, t⟩⟩
  · rename_i d e
    obtain ⟨v, fp, q, ⟨b, ev, ef, nb, t⟩, _⟩ := S.sl e
    exact ⟨v, q, hq' v G H (Stp.refl S.gh) ⟨b, ev, t⟩⟩
  · rename_i t e
    obtain ⟨v, fp, q, r, _⟩ := S.sl e
    exact ⟨v, q, hq' v G H (Stp.refl S.gh) ⟨fp, r⟩⟩
  · rename_i t e
    obtain ⟨v, fp, q, ⟨_, fq, r, _⟩, _⟩ := S.sl e
    exact ⟨v, q, hq' v G H (Stp.refl S.gh) ⟨fq, r⟩⟩
  · exact hq'.elim
theorem de_var (i : Nat) {x : Str} {pos : Pos} (hN : X.N[i]? = some x := by rfl) (hv : Vis X.env.scope x := by first | exact Or.inl rfl | exact Or.inr (Or.inl rfl) | exact Or.inr (Or.inr rfl)) (hd : (x == ("__debug__" : Str)) = false := by decide)
    (hcd : (x == ("__classdict__" : Str)) = false := by decide) : DE X a W (.Name x pos) (mVar i) := ⟨_, pe_var hN hv hd hcd, snd_var⟩
/-- a value that is known -/
def mC (d : PyData) : ME := fun _ => .ok (.val d)
theorem snd_c {C : Cn} {v : V} {d : PyData} (h : ∀ G, Rep C.K G v d) : Snd C W (relE C.K) (tC v) (mC d) := fun B G0 G H σ δ S Q hq => hq v G H (Stp.refl S.gh) (h G)
theorem de_int {i j} : DE X a W (.Constant (.int i) j pos) (mC (.int i)) := ⟨_, pe_int, snd_c fun _ => .int i⟩
theorem de_bl {b j} : DE X a W (.Constant (.bool b) j pos) (mC (.bool b)) := ⟨_, pe_bl, snd_c fun _ => .bl b⟩
theorem de_non {j} : DE X a W (.Constant .none j pos) (mC .none) := ⟨_, pe_non, snd_c fun _ => .non⟩
theorem de_str {x j} : DE X a W (.Constant (.str x) j pos) (mC (.str x)) := ⟨_, pe_str, snd_c fun _ => .str x⟩
/-- a module's constant -/
theorem de_glob {x : Str} {v : V} {u : Value} {d : PyData} (hg : Gl X x) (hm : X.mg x = some u) (r : RelV v u) (h : ∀ G, Rep X.kw G v d) (hd : (x == ("__debug__" : Str)) = false := by decide) : DE X a W (.Name x pos) (mC d) := ⟨_, pe_glob hg hm r hd, snd_c h⟩
/-! operators -/
/-- f tells what the rule r does -/
def OpS (K : Kw) (r : R2) (f : PyData → PyData → Res Slot) : Prop :=
  ∀ (G H : Hp) (x y : V) (d e : PyData) (s : Slot) (Q : VK), Same G H → RdR K G H x d → RdR K G H y e → f d e = .ok s → (∀ v G' H', Stp G H G' H' → ResF K H G' H' s v → Q v H') → r x y H Q
/-- f never refuses -/
def NoExc (f : PyData → PyData → Res Slot) : Prop := ∀ d e x, f d e ≠ .exc x
def mB (f : PyData → PyData → Res Slot) (ma mb : MD) : ME := fun δ => (ma δ).bind fun d => (mb δ).bind fun e => f d e
theorem snd_op {C : Cn} {r : R2} {f : PyData → PyData → Res Slot} (hf : OpS C.K r f) (hn : NoExc f) {ta tb : TE} {ma mb : MD} (ha : Snd C W (relD C.K) ta ma) (hb : Snd C W (relD C.K) tb mb) : Snd C W (relE C.K) (tOp r ta tb) (mB f ma mb) := by
  refine snd_bind (rel1 := relD C.K) (rel2 := relE C.K) downE ha (t2 := fun x σ H Q => tb σ H fun y H2 => r x y H2 Q) (m2 := fun d δ => (mb δ).bind fun e => f d e) ?_
  intro d x B G0 G H σ δ H0 S rd Q hq
  refine hb B G0 G H σ δ S _ ?_
  have hq' : ROk C W σ G H (relE C.K H) ((mb δ).bind fun e => f d e) Q := hq
  generalize mb δ = rb at hq'
  cases rb with
  | stuck => exact hq'.elim
  | exc z => exact hq'
  | ok e =>
    intro y G' H' st ry
    have hq2 : ROk C W σ G H (relE C.K H) (f d e) Q := hq'
    cases ef : f d e with
    | stuck => rw [ef] at hq2; exact hq2.elim
    | exc z => exact (hn d e z ef).elim
    | ok s =>
      rw [ef] at hq2
      exact hf G' H' x y d e s Q st.gh (rd.mono st.g st.h) ry ef fun v G2 H2 s2 rv => hq2 v G2 H2 (st.trans s2) (rv.mono0 st.h)
theorem de_op {op : Operator} {r : R2} {f : PyData → PyData → Res Slot} (hf : OpS X.kw r f) (hn : NoExc f) (ho : OpR X (binaryOp op) r) {ma mb : MD} (ha : DR X a W e1 ma) (hb : DR X a W e2 mb) : DE X a W (.BinOp e1 op e2 pos) (mB f ma mb) :=
  let ⟨_, pa, sa⟩ := ha; let ⟨_, pb, sb⟩ := hb; ⟨_, pe_op ho pa pb, snd_op (C := cn X a) hf hn sa sb⟩
theorem de_cmp {op : CmpOp} {r : R2} {f : PyData → PyData → Res Slot} (hf : OpS X.kw r f) (hn : NoExc f) (ho : OpR X (compareOp op) r) {ma mb : MD} (ha : DR X a W e1 ma) (hb : DR X a W e2 mb) (hm : behindInMarks op e2 = false) : DE X a W (.Compare e1 [op] [e2] pos) (mB f ma mb) :=
  let ⟨_, pa, sa⟩ := ha; let ⟨_, pb, sb⟩ := hb; ⟨_, pe_cmpR ho pa pb hm, snd_op (C := cn X a) hf hn sa sb⟩
/-- the truth of a slot that holds a bool -/
def Slot.bl : Slot → Res Bool
  | .val (.bool b) => .ok b
  | _ => .stuck
def mTest (m : ME) : MT := fun δ => (m δ).bind Slot.bl
theorem snd_test {C : Cn} {t : TE} {m : ME} (h : Snd C W (relE C.K) t m) : Snd C W relB (tTest t) (mTest m) := by
  intro B G0 G H σ δ S Q hq
  refine h B G0 G H σ δ S _ ?_
  have hq' : ROk C W σ G H (relB H) ((m δ).bind Slot.bl) Q := hq
  generalize m δ = r at hq'
  cases r with
  | stuck => exact hq'.elim
  | exc x => exact hq'
  | ok s =>
    intro v G' H' st r
    have hq2 : ROk C W σ G H (relB H) s.bl Q := hq'
    unfold Slot.bl at hq2
    split at hq2
    · have r' : Rep C.K G' v (.bool _) := r
      cases r'
      exact ⟨_, rfl, hq2 _ G' H' st rfl⟩
    · exact hq2.elim
theorem dt_cmp {op : CmpOp} {r : R2} {f : PyData → PyData → Res Slot} (hf : OpS X.kw r f) (hn : NoExc f) (ho : OpR X (compareOp op) r) {ma mb : MD} (ha : DR X a W e1 ma) (hb : DR X a W e2 mb) (hm : behindInMarks op e2 = false) : DT X a W (.Compare e1 [op] [e2] pos) (mTest (mB f ma mb)) :=
  let ⟨_, pa, sa⟩ := ha; let ⟨_, pb, sb⟩ := hb; ⟨_, pt_cmpR ho pa pb hm, snd_test (C := cn X a) (snd_op (C := cn X a) hf hn sa sb)⟩
/-- an expression that gives a bool, as a test -/
theorem dt_val {m : ME} (h : DE X a W e m) (he : ∀ whole, isTrue e X.env whole = (do let v ← whole; standAt e.pos; holding [v] (truthy v)) := by intro _; rfl) : DT X a W e (mTest m) :=
  let ⟨_, p, s⟩ := h; ⟨_, pt_val p he, snd_test (C := cn X a) s⟩
/-! and, or, not -/
def mAnd (m n : MT) : MT := fun δ => (m δ).bind fun b => if b = true then n δ else .ok false
def mOr (m n : MT) : MT := fun δ => (m δ).bind fun b => if b = true then .ok true else n δ
def mNot (m : MT) : MT := fun δ => (m δ).bind fun b => .ok (!b)
theorem snd_and {C : Cn} {t u : TT} {m n : MT} (h : Snd C W relB t m) (k : Snd C W relB u n) : Snd C W relB (tAnd t u) (mAnd m n) := by
  refine snd_bind (rel1 := relB) (rel2 := relB) downB h (t2 := fun c σ H Q => if c = true then u σ H Q else Q false H) (m2 := fun b δ => if b = true then n δ else .ok false) ?_
  intro b c B G0 G H σ δ H0 S e Q hq
  cases e
  cases b with
  | true =>
    show u σ H Q
    exact k B G0 G H σ δ S Q hq
  | false =>
    show Q false H
    exact hq false G H (Stp.refl S.gh) rfl
theorem snd_or {C : Cn} {t u : TT} {m n : MT} (h : Snd C W relB t m) (k : Snd C W relB u n) : Snd C W relB (tOr t u) (mOr m n) := by
  refine snd_bind (rel1 := relB) (rel2 := relB) downB h (t2 := fun c σ H Q => if c = true then Q true H else u σ H Q) (m2 := fun b δ => if b = true then .ok true else n δ) ?_
  intro b c B G0 G H σ δ H0 S e Q hq
  cases e
  cases b with
  | true =>
    show Q true H
    exact hq true G H (Stp.refl S.gh) rfl
  | false =>
    show u σ H Q
    exact k B G0 G H σ δ S Q hq
theorem snd_not {C : Cn} {t : TT} {m : MT} (h : Snd C W relB t m) : Snd C W relB (tNot t) (mNot m) := by
  refine snd_bind (rel1 := relB) (rel2 := relB) downB h (t2 := fun c σ H Q => Q (!c) H) (m2 := fun b δ => .ok (!b)) ?_
  intro b c B G0 G H σ δ H0 S e Q hq
  cases e
  exact hq (!b) G H (Stp.refl S.gh) rfl
def DW (X : Cx) (a : Ax) (W : WX) (e : Expr) (m : MT) : Prop := ∃ t, PW X e t ∧ Snd (cn X a) W relB t m
theorem dw_and1 {m : MT} (h : DT X a W e m) : DW X a W (.BoolOp .And [e] pos) m := let ⟨t, p, s⟩ := h; ⟨t, pw_and1 p, s⟩
theorem dw_or1 {m : MT} (h : DT X a W e m) : DW X a W (.BoolOp .Or [e] pos) m := let ⟨t, p, s⟩ := h; ⟨t, pw_or1 p, s⟩
theorem dw_and {m n : MT} (h : DT X a W e m) (k : DW X a W (.BoolOp .And (e2 :: es) pos) n) : DW X a W (.BoolOp .And (e :: e2 :: es) pos) (mAnd m n) :=
  let ⟨_, p, s⟩ := h; let ⟨_, q, u⟩ := k; ⟨_, pw_and p q, snd_and s u⟩
theorem dw_or {m n : MT} (h : DT X a W e m) (k : DW X a W (.BoolOp .Or (e2 :: es) pos) n) : DW X a W (.BoolOp .Or (e :: e2 :: es) pos) (mOr m n) :=
  let ⟨_, p, s⟩ := h; let ⟨_, q, u⟩ := k; ⟨_, pw_or p q, snd_or s u⟩
theorem dt_w {m : MT} (h : DW X a W e m) : DT X a W e m := let ⟨t, p, s⟩ := h; ⟨t, p.pt, s⟩
theorem dt_not {m : MT} (h : DT X a W e m) : DT X a W (.UnaryOp .Not e pos) (mNot m) := let ⟨_, p, s⟩ := h; ⟨_, pt_not p, snd_not s⟩
/-- .. as values: bools -/
def mAndV (m n : ME) : ME := fun δ => (mTest m δ).bind fun b => if b = true then n δ else .ok (.val (.bool false))
def mOrV (m n : ME) : ME := fun δ => (mTest m δ).bind fun b => if b = true then .ok (.val (.bool true)) else n δ
def mNotV (m : ME) : ME := fun δ => (mTest m δ).bind fun b => .ok (.val (.bool (!b)))
theorem snd_andV {C : Cn} {t u : TE} {m n : ME} (h : Snd C W (relE C.K) t m) (k : Snd C W (relE C.K) u n) : Snd C W (relE C.K) (tAndV t u) (mAndV m n) := by
  intro B G0 G H σ δ S Q hq
  refine snd_test h B G0 G H σ δ S (fun c H1 => if c = true then u σ H1 Q else Q (.bl false) H1) ?_
  have hq' : ROk C W σ G H (relE C.K H) ((mTest m δ).bind fun b => if b = true then n δ else .ok (.val (.bool false))) Q := hq
  generalize mTest m δ = r at hq'
  cases r with
  | stuck => exact hq'.elim
  | exc x => exact hq'
  | ok b =>
    intro c G' H' st e
    cases e
    cases b with
    | true =>
      show u σ H' Q
      refine k B G0 G' H' σ δ (S.step st) Q ?_
      have hq2 : ROk C W σ G H (relE C.K H) (n δ) Q := hq'
      generalize n δ = r2 at hq2
      cases r2 with
      | stuck => exact hq2.elim
      | exc x => exact fun cls d G2 H2 s2 r => hq2 cls d G2 H2 (st.trans s2) r
      | ok c => exact fun v G2 H2 s2 r => hq2 v G2 H2 (st.trans s2) (ResF.mono0 st.h r)
    | false =>
      show Q (.bl false) H'
      exact hq' _ G' H' st (Rep.bl false)
theorem snd_orV {C : Cn} {t u : TE} {m n : ME} (h : Snd C W (relE C.K) t m) (k : Snd C W (relE C.K) u n) : Snd C W (relE C.K) (tOrV t u) (mOrV m n) := by
  intro B G0 G H σ δ S Q hq
  refine snd_test h B G0 G H σ δ S (fun c H1 => if c = true then Q (.bl true) H1 else u σ H1 Q) ?_
  have hq' : ROk C W σ G H (relE C.K H) ((mTest m δ).bind fun b => if b = true then .ok (.val (.bool true)) else n δ) Q := hq
  generalize mTest m δ = r at hq'
  cases r with
  | stuck => exact hq'.elim
  | exc x => exact hq'
  | ok b =>
    intro c G' H' st e
    cases e
    cases b with
    | false =>
      show u σ H' Q
      refine k B G0 G' H' σ δ (S.step st) Q ?_
      have hq2 : ROk C W σ G H (relE C.K H) (n δ) Q := hq'
      generalize n δ = r2 at hq2
      cases r2 with
      | stuck => exact hq2.elim
      | exc x => exact fun cls d G2 H2 s2 r => hq2 cls d G2 H2 (st.trans s2) r
      | ok c => exact fun v G2 H2 s2 r => hq2 v G2 H2 (st.trans s2) (ResF.mono0 st.h r)
    | true =>
      show Q (.bl true) H'
      exact hq' _ G' H' st (Rep.bl true)
theorem snd_notV {C : Cn} {t : TE} {m : ME} (h : Snd C W (relE C.K) t m) : Snd C W (relE C.K) (tNotV t) (mNotV m) := by
  intro B G0 G H σ δ S Q hq
  refine snd_test h B G0 G H σ δ S (fun c H1 => Q (.bl (!c)) H1) ?_
  have hq' : ROk C W σ G H (relE C.K H) ((mTest m δ).bind fun b => .ok (.val (.bool (!b)))) Q := hq
  generalize mTest m δ = r at hq'
  cases r with
  | stuck => exact hq'.elim
  | exc x => exact hq'
  | ok b =>
    intro c G' H' st e
    cases e
    exact hq' _ G' H' st (Rep.bl _)
theorem de_one {op} {m : ME} (h : DE X a W e m) : DE X a W (.BoolOp op [e] pos) m := let ⟨t, p, s⟩ := h; ⟨t, pe_one p, s⟩
theorem de_and {m n : ME} (h : DE X a W e m) (k : DE X a W (.BoolOp .And (e2 :: es) pos) n) : DE X a W (.BoolOp .And (e :: e2 :: es) pos) (mAndV m n) :=
  let ⟨_, p, s⟩ := h; let ⟨_, q, u⟩ := k; ⟨_, pe_and p q, snd_andV (C := cn X a) s u⟩
theorem de_or {m n : ME} (h : DE X a W e m) (k : DE X a W (.BoolOp .Or (e2 :: es) pos) n) : DE X a W (.BoolOp .Or (e :: e2 :: es) pos) (mOrV m n) :=
  let ⟨_, p, s⟩ := h; let ⟨_, q, u⟩ := k; ⟨_, pe_or p q, snd_orV (C := cn X a) s u⟩
theorem de_not {m : ME} (h : DE X a W e m) : DE X a W (.UnaryOp .Not e pos) (mNotV m) := let ⟨_, p, s⟩ := h; ⟨_, pe_not p, snd_notV (C := cn X a) s⟩
/-- a if t else b -/
def mIte (c : MT) (m n : ME) : ME := fun δ => (c δ).bind fun b => if b = true then m δ else n δ
theorem snd_ite {C : Cn} {tc : TT} {t u : TE} {c : MT} {m n : ME} (hc : Snd C W relB tc c) (h : Snd C W (relE C.K) t m) (k : Snd C W (relE C.K) u n) : Snd C W (relE C.K) (tIf tc t u) (mIte c m n) := by
  refine snd_bind (rel1 := relB) (rel2 := relE C.K) downE hc (t2 := fun c σ H Q => if c = true then t σ H Q else u σ H Q) (m2 := fun b δ => if b = true then m δ else n δ) ?_
  intro b c B G0 G H σ δ H0 S e Q hq
  cases e
  cases b with
  | true =>
    show t σ H Q
    exact h B G0 G H σ δ S Q hq
  | false =>
    show u σ H Q
    exact k B G0 G H σ δ S Q hq
theorem de_ite {c : MT} {m n : ME} (hc : DT X a W e1 c) (h : DE X a W e2 m) (k : DE X a W e3 n) : DE X a W (.IfExp e1 e2 e3 pos) (mIte c m n) :=
  let ⟨_, pc, sc⟩ := hc; let ⟨_, p, s⟩ := h; let ⟨_, q, u⟩ := k; ⟨_, pe_ifExp pc p q, snd_ite (C := cn X a) sc s u⟩
/-! argument lists, displays -/
def mNil : ML := fun _ => .ok []
def mCons (m : MD) (n : ML) : ML := fun δ => (m δ).bind fun d => (n δ).bind fun ds => .ok (d :: ds)
theorem snd_nil {C : Cn} : Snd C W (relL C.K) tNil mNil := fun B G0 G H σ δ S Q hq => hq [] G H (Stp.refl S.gh) .nil
theorem snd_cons {C : Cn} {t : TE} {u : TA} {m : MD} {n : ML} (h : Snd C W (relV C.K) t m) (k : Snd C W (relL C.K) u n) : Snd C W (relL C.K) (tCons t u) (mCons m n) := by
  refine snd_bind (rel1 := relV C.K) (rel2 := relL C.K) downL h (t2 := fun x σ H Q => u σ H fun xs H2 => Q (x :: xs) H2) (m2 := fun d δ => (n δ).bind fun ds => .ok (d :: ds)) ?_
  intro d x B G0 G H σ δ H0 S r Q hq
  refine k B G0 G H σ δ S _ ?_
  have hq' : ROk C W σ G H (relL C.K H) ((n δ).bind fun ds => .ok (d :: ds)) Q := hq
  generalize n δ = rn at hq'
  cases rn with
  | stuck => exact hq'.elim
  | exc z => exact hq'
  | ok ds => exact fun xs G' H' st rs => hq' (x :: xs) G' H' st (.cons (r.mono st.g) rs)
theorem da_nil : DA X a W [] mNil := ⟨_, pa_nil, snd_nil⟩
theorem da_cons {m : MD} {n : ML} (h : DV X a W e m) (k : DA X a W es n) (hs : starEach (e :: es) X.env = (false, eval e X.env) :: starEach es X.env := by rfl) : DA X a W (e :: es) (mCons m n) :=
  let ⟨_, p, s⟩ := h; let ⟨_, q, u⟩ := k; ⟨_, pa_cons p q hs, snd_cons (C := cn X a) s u⟩
def fits {α : Type} (ds : List α) : Bool := decide (ds.length ≤ sizeLine)
def mTup (m : ML) : ME := fun δ => (m δ).bind fun ds => if fits ds = true then .ok (.val (.tuple ds)) else .stuck
def mLst (m : ML) : ME := fun δ => (m δ).bind fun ds => if fits ds = true then .ok (.own (.list ds)) else .stuck
theorem snd_tup {C : Cn} {t : TA} {m : ML} (h : Snd C W (relL C.K) t m) : Snd C W (relE C.K) (tTup t) (mTup m) := by
  refine snd_bind (rel1 := relL C.K) (rel2 := relE C.K) downE h (t2 := fun xs _ H Q => xs.length ≤ sizeLine ∧ ∀ p, H p = none → Q (.ref p) (upd H p (.tup xs))) (m2 := fun ds _ => if fits ds = true then .ok (.val (.tuple ds)) else .stuck) ?_
  intro ds xs B G0 G H σ δ H0 S r Q hq
  by_cases hz : fits ds = true
  · have hq' : ROk C W σ G H (relE C.K H) (if fits ds = true then .ok (.val (.tuple ds)) else .stuck) Q := hq
    rw [if_pos hz] at hq'
    refine ⟨by rw [RepL.length r]; exact of_decide_eq_true hz, fun p hp => ?_⟩
    have st : Stp G H (upd G p (.tup xs)) (upd H p (.tup xs)) := Stp.new S.gh hp
    exact hq' _ _ _ st (Rep.tup (.inl (.inl upd_same)) (RepL.mono st.g r))
  · have hq' : ROk C W σ G H (relE C.K H) (if fits ds = true then .ok (.val (.tuple ds)) else .stuck) Q := hq
    rw [if_neg hz] at hq'
    exact hq'.elim
theorem snd_lst {C : Cn} {t : TA} {m : ML} (h : Snd C W (relL C.K) t m) : Snd C W (relE C.K) (tLst t) (mLst m) := by
  refine snd_bind (rel1 := relL C.K) (rel2 := relE C.K) downE h (t2 := fun xs _ H Q => xs.length ≤ sizeLine ∧ ∀ p, H p = none → Q (.ref p) (upd H p (.lst xs))) (m2 := fun ds _ => if fits ds = true then .ok (.own (.list ds)) else .stuck) ?_
  intro ds xs B G0 G H σ δ H0 S r Q hq
  by_cases hz : fits ds = true
  · have hq' : ROk C W σ G H (relE C.K H) (if fits ds = true then .ok (.own (.list ds)) else .stuck) Q := hq
    rw [if_pos hz] at hq'
    refine ⟨by rw [RepL.length r]; exact of_decide_eq_true hz, fun p hp => ?_⟩
    have st : Stp G H G (upd H p (.lst xs)) := Stp.newH S.gh hp
    exact hq' _ _ _ st ⟨p, rfl, S.gh.free hp, hp, xs, upd_same, r⟩
  · have hq' : ROk C W σ G H (relE C.K H) (if fits ds = true then .ok (.own (.list ds)) else .stuck) Q := hq
    rw [if_neg hz] at hq'
    exact hq'.elim
theorem de_tup {m : ML} {k} (h : DA X a W es m) : DE X a W (.Tuple es k pos) (mTup m) := let ⟨_, p, s⟩ := h; ⟨_, pe_tup p, snd_tup (C := cn X a) s⟩
theorem de_lst {m : ML} (h : DA X a W es m) : DE X a W (.List es pos) (mLst m) := let ⟨_, p, s⟩ := h; ⟨_, pe_lst p, snd_lst (C := cn X a) s⟩
end
end DL
/-! DLc: what code does, said over data: statements, loops, calls, refusals -/
namespace DL
open PySem L2
/-! ### 1. statements -/
abbrev MS := DEnv → Out
/-- what is given back: a value that lasts, or one's own, with nothing of it in the frame -/
def RvR (C : Cn) (G H : Hp) (fp : List Addr) : Slot → V → Prop
  | .val d, v => fp = [] ∧ Rep C.K G v d
  | .own d, v => ∃ a, v = .ref a ∧ fp = [a] ∧ Top C.K G H a d
  | .tr t, v => Own C.K G H v t fp
  | _, _ => False
structure RetR (C : Cn) (B G0 G H : Hp) (σ : St) (δ : DEnv) (s : Slot) (v : V) : Prop where
  st : StR C B G0 G H σ δ
  en : ∃ fps fp, EnR C B G H σ δ fps ∧ RvR C G H fp s v ∧ fp.Nodup ∧ ∀ a ∈ fp, (B a = none ∧ G a = none) ∧ ∀ i, a ∉ fps i
theorem RetR.res {C : Cn} {B G0 G H : Hp} {σ : St} {δ : DEnv} {s : Slot} {v : V} (r : RetR C B G0 G H σ δ s v) : ResF C.K B G H s v := by
  obtain ⟨fps, fp, E, z, nd, q⟩ := r.en
  cases s with
  | val d => exact z.2
  | own d => obtain ⟨b, e, ef, t⟩ := z; subst ef; exact ⟨b, e, (q b List.mem_cons_self).1.2, (q b List.mem_cons_self).1.1, t⟩
  | tr t => exact ⟨fp, z, nd, fun b hb => ⟨(q b hb).1.2, (q b hb).1.1⟩⟩
  | bor d => exact z.elim
  | bt t => exact z.elim
  | exn x => exact z.elim
theorem RetR.unbase {C : Cn} {B G0 G H : Hp} {σ : St} {δ : DEnv} (S : StR C B G0 G H σ δ) {σ' : St} {δ' : DEnv} {G' H' : Hp} {s : Slot} {v : V} (r : RetR C B G G' H' σ' δ' s v) : RetR C B G0 G' H' σ' δ' s v := ⟨S.unbase r.st, r.en⟩
/-- a new result is given back -/
theorem ret_new {C : Cn} {B G0 G H G' H' : Hp} {σ : St} {δ : DEnv} {s : Slot} {v : V} (S : StR C B G0 G H σ δ) (st : Stp G H G' H') (r : ResF C.K H G' H' s v) (hs : (∃ d, s = .val d) ∨ (∃ d, s = .own d) ∨ ∃ t, s = .tr t) : RetR C B G0 G' H' σ δ s v := by
  obtain ⟨fps, E⟩ := S.en
  have off : ∀ b, H b = none → ∀ i, b ∉ fps i := fun b n i z => E.there z n
  refine ⟨S.step st, ?_⟩
  rcases hs with ⟨d, rfl⟩ | ⟨d, rfl⟩ | ⟨t, rfl⟩
  · exact ⟨fps, [], E.step S.bh st, ⟨rfl, r⟩, List.nodup_nil, fun a ha => nomatch ha⟩
  · obtain ⟨b, e, n, n0, t⟩ := r
    exact ⟨fps, [b], E.step S.bh st, ⟨b, e, rfl, t⟩, by simp, fun a ha => by rw [List.mem_singleton] at ha; subst ha; exact ⟨⟨S.bh.free n0, n⟩, off _ n0⟩⟩
  · obtain ⟨fp, o, nd, q⟩ := r
    exact ⟨fps, fp, E.step S.bh st, o, nd, fun a ha => ⟨⟨S.bh.free (q a ha).2, (q a ha).1⟩, off _ (q a ha).2⟩⟩
def OOk (C : Cn) (W : WX) (B G0 : Hp) (D : Ends) (o : Out) : Prop :=
  match o with
  | .nx δ' => ∀ σ' G' H', StR C B G0 G' H' σ' δ' → D.nx σ' H'
  | .bk δ' => ∀ σ' G' H', StR C B G0 G' H' σ' δ' → D.bk σ' H'
  | .ct δ' => ∀ σ' G' H', StR C B G0 G' H' σ' δ' → D.ct σ' H'
  | .rt s δ' => ∀ v σ' G' H', RetR C B G0 G' H' σ' δ' s v → D.rt v H'
  | .ex x δ' => ∀ cls d σ' G' H', StR C B G0 G' H' σ' δ' → ExR C G' H' x cls d → W cls d σ' H'
  | .stuck => False
def SndS (C : Cn) (W : WX) (t : TS) (m : MS) : Prop :=
  ∀ B G0 G H σ δ (D : Ends), StR C B G0 G H σ δ → OOk C W B G0 D (m δ) → t D σ H
def DS (X : Cx) (a : Ax) (W : WX) (st : Stmt) (m : MS) : Prop := ∃ t, PS X st t ∧ SndS (cn X a) W t m
def DSs (X : Cx) (a : Ax) (W : WX) (st : List Stmt) (m : MS) : Prop := ∃ t, PSs X st t ∧ SndS (cn X a) W t m
/-- what an expression's result does next -/
def Res.out {α : Type} (r : Res α) (δ : DEnv) (f : α → Out) : Out := match r with
  | .ok a => f a
  | .exc x => .ex x δ
  | .stuck => .stuck
theorem out_ok {α : Type} (a : α) (δ : DEnv) (f : α → Out) : (Res.ok a).out δ f = f a := rfl
theorem out_exc {α : Type} (x : Exn) (δ : DEnv) (f : α → Out) : (Res.exc x : Res α).out δ f = .ex x δ := rfl
section
variable {C : Cn} {W : WX} {α β : Type} {B G0 G H : Hp} {σ : St} {δ : DEnv} {D : Ends}
/-- an expression, then what its result does -/
theorem snd_out {rel : Hp → Hp → Hp → α → β → Prop} {t : St → Hp → (β → Hp → Prop) → Prop} {m : DEnv → Res α} (h : Snd C W rel t m) (S : StR C B G0 G H σ δ) {f : α → Out} (k : OOk C W B G0 D ((m δ).out δ f)) {R : β → Hp → Prop}
    (hf : ∀ a v G' H', m δ = .ok a → Stp G H G' H' → rel H G' H' a v → OOk C W B G0 D (f a) → R v H') : t σ H R := by
  refine h B G0 G H σ δ S R ?_
  cases e : m δ with
  | stuck => rw [e] at k; exact k.elim
  | exc x => rw [e] at k; exact fun cls d G' H' st r => k cls d σ G' H' (S.step st) r
  | ok a => rw [e] at k; exact fun v G' H' st r => hf a v G' H' e st r k
/-- the state behind nx is a base's -/
theorem OOk.unbase (S : StR C B G0 G H σ δ) {o : Out} (h : OOk C W B G0 D o) : OOk C W B G D o := by
  cases o with
  | nx δ' => exact fun σ' G' H' T => h σ' G' H' (S.unbase T)
  | bk δ' => exact fun σ' G' H' T => h σ' G' H' (S.unbase T)
  | ct δ' => exact fun σ' G' H' T => h σ' G' H' (S.unbase T)
  | rt s δ' => exact fun v σ' G' H' T => h v σ' G' H' (T.unbase S)
  | ex x δ' => exact fun cls d σ' G' H' T r => h cls d σ' G' H' (S.unbase T) r
  | stuck => exact h
end
def mSeq (m n : MS) : MS := fun δ => match m δ with
  | .nx δ' => n δ'
  | o => o
def mNext : MS := fun δ => .nx δ
section
variable {X : Cx} {a : Ax} {W : WX} {e e1 e2 : Expr} {es : List Expr} {st : Stmt} {sts : List Stmt} {pos : Pos}
theorem sndS_seq {C : Cn} {t u : TS} {m n : MS} (h : SndS C W t m) (k : SndS C W u n) : SndS C W (tSeq t u) (mSeq m n) := by
  intro B G0 G H σ δ D S q
  refine h B G0 G H σ δ { D with nx := u D } S ?_
  have q' : OOk C W B G0 D (match m δ with | .nx δ' => n δ' | o => o) := q
  generalize m δ = o at q'
  cases o with
  | nx δ' => exact fun σ' G' H' T => k B G0 G' H' σ' δ' D T q'
  | bk δ' => exact q'
  | ct δ' => exact q'
  | rt s δ' => exact q'
  | ex x δ' => exact q'
  | stuck => exact q'
theorem dss_nil : DSs X a W [] mNext := ⟨_, pss_nil, fun B G0 G H σ δ D S q => q σ G H S⟩
theorem dss_cons {m n : MS} (h : DS X a W st m) (k : DSs X a W sts n) : DSs X a W (st :: sts) (mSeq m n) := let ⟨_, p, s⟩ := h; let ⟨_, q, u⟩ := k; ⟨_, pss_cons p q, sndS_seq s u⟩
theorem dss_one {m : MS} (h : DS X a W st m) : DSs X a W [st] m := let ⟨_, p, s⟩ := h; ⟨_, pss_one p, s⟩
theorem ds_pass : DS X a W (.Pass pos) mNext := ⟨_, ps_pass, fun B G0 G H σ δ D S q => q σ G H S⟩
def mBk : MS := fun δ => .bk δ
def mCt : MS := fun δ => .ct δ
theorem ds_break : DS X a W (.Break pos) mBk := ⟨_, ps_break, fun B G0 G H σ δ D S q => q σ G H S⟩
theorem ds_continue : DS X a W (.Continue pos) mCt := ⟨_, ps_continue, fun B G0 G H σ δ D S q => q σ G H S⟩
theorem ds_doc {x j pos'} : DS X a W (.Expr (.Constant (.str x) j pos) pos') mNext := ⟨_, ps_doc, fun B G0 G H σ δ D S q => q σ G H S⟩
/-- one's own things at a place become lasting: no code -/
def frz (i : Nat) (δ : DEnv) : DEnv := match δ[i]? with
  | some (some (.own d)) => δ.set i (some (.val d))
  | _ => δ
def mFrz (i : Nat) (m : MS) : MS := fun δ => m (frz i δ)
def tLkS (t : TS) : TS := fun D σ H => ∃ v, Frz H v fun H' => t D σ H'
theorem ps_lk {st : Stmt} {t : TS} (h : PS X st t) : PS X st (tLkS t) := by
  refine ⟨fun pins s σ H D I hw => ?_⟩
  obtain ⟨v, hw | ⟨a, u, ev, ha, mu, hw⟩⟩ := hw
  · exact h.run pins s σ H D I hw
  · obtain ⟨od, I1⟩ := I.lock ha mu
    exact h.run pins s σ _ D I1 (hw od)
theorem pss_lk {st : List Stmt} {t : TS} (h : PSs X st t) : PSs X st (tLkS t) := by
  refine ⟨fun pins s σ H D I hw => ?_⟩
  obtain ⟨v, hw | ⟨a, u, ev, ha, mu, hw⟩⟩ := hw
  · exact h.run pins s σ H D I hw
  · obtain ⟨od, I1⟩ := I.lock ha mu
    exact h.run pins s σ _ D I1 (hw od)
theorem sndS_frz {C : Cn} {t : TS} {m : MS} (i : Nat) (h : SndS C W t m) : SndS C W (tLkS t) (mFrz i m) := by
  intro B G0 G H σ δ D S q
  have q' : OOk C W B G0 D (m (frz i δ)) := q
  unfold frz at q'
  split at q'
  · rename_i d e
    exact S.freeze e fun G' H' S' => h B G0 G' H' σ _ D S' q'
  · exact ⟨.non, .inl (h B G0 G H σ δ D S q')⟩
theorem ds_frz {m : MS} (i : Nat) (h : DS X a W st m) : DS X a W st (mFrz i m) := let ⟨t, p, s⟩ := h; ⟨_, ps_lk p, sndS_frz i s⟩
theorem dss_frz {m : MS} (i : Nat) (h : DSs X a W sts m) : DSs X a W sts (mFrz i m) := let ⟨t, p, s⟩ := h; ⟨_, pss_lk p, sndS_frz i s⟩
/-- an expression for nothing -/
def mDrop (m : ME) : MS := fun δ => (m δ).out δ fun _ => .nx δ
theorem ds_expr {m : ME} (h : DE X a W e m) (hs : swapsWith e none pos.line X.env = pure false := by rfl) : DS X a W (.Expr e pos) (mDrop m) := by
  obtain ⟨t, p, s⟩ := h
  refine ⟨_, ps_expr p hs, fun B G0 G H σ δ D S q => ?_⟩
  refine snd_out s S (R := fun _ H1 => D.nx σ H1) (f := fun _ => .nx δ) q fun _ v G' H' _ st _ k => k σ G' H' (S.step st)
/-- i is no place of what was lent -/
def Ax.free (a : Ax) (i : Nat) : Prop := ∀ p ∈ a.R, p.1 ≠ i
theorem free1 {ec : EC → Addr} {A : Addr → Exn → Prop} {j : Nat} {v : V} {i : Nat} (h : j ≠ i) : Ax.free ⟨ec, A, [(j, v)]⟩ i := fun p hp => by
  rw [List.mem_singleton] at hp; subst hp; exact h
theorem free2 {ec : EC → Addr} {A : Addr → Exn → Prop} {j k : Nat} {v u : V} {i : Nat} (h : j ≠ i) (h2 : k ≠ i) : Ax.free ⟨ec, A, [(j, v), (k, u)]⟩ i := fun p hp => by
  rcases List.mem_cons.mp hp with rfl | hp
  · exact h
  · rw [List.mem_singleton] at hp; subst hp; exact h2
theorem free0 {ec : EC → Addr} {A : Addr → Exn → Prop} {i : Nat} : Ax.free ⟨ec, A, []⟩ i := fun p hp => nomatch hp
/-- return e -/
def retS (δ : DEnv) : Slot → Out
  | .val d => .rt (.val d) δ
  | .own d => .rt (.own d) δ
  | .tr t => .rt (.tr t) δ
  | _ => .stuck
def mRet (m : ME) : MS := fun δ => (m δ).out δ (retS δ)
theorem ds_ret {m : ME} (h : DE X a W e m) : DS X a W (.Return (some e) pos) (mRet m) := by
  obtain ⟨t, p, s⟩ := h
  refine ⟨_, ps_ret p, fun B G0 G H σ δ D S q => ?_⟩
  refine snd_out s S (R := D.rt) (f := retS δ) q fun sl v G' H' _ st r k => ?_
  cases sl with
  | val d => exact k v σ G' H' (ret_new S st r (.inl ⟨d, rfl⟩))
  | own d => exact k v σ G' H' (ret_new S st r (.inr (.inl ⟨d, rfl⟩)))
  | tr t => exact k v σ G' H' (ret_new S st r (.inr (.inr ⟨t, rfl⟩)))
  | bor d => exact k.elim
  | bt d => exact k.elim
  | exn x => exact k.elim
/-- return x, x a name -/
def mRetN (i : Nat) : MS := fun δ => match δ[i]? with
  | some (some (.val d)) => .rt (.val d) δ
  | some (some (.own d)) => .rt (.own d) (δ.set i none)
  | some (some (.tr t)) => .rt (.tr t) (δ.set i none)
  | _ => .stuck
theorem StR.moveOut {C : Cn} {B G0 G H : Hp} {σ : St} {δ : DEnv} {i : Nat} {s : Slot} (S : StR C B G0 G H σ δ) (hf : C.free i) (e : δ[i]? = some (some s)) (hs : (∃ d, s = .own d) ∨ ∃ t, s = .tr t) : ∃ v, σ[i]? = some (some v) ∧ RetR C B G0 G H σ (δ.set i none) s v := by
  obtain ⟨fps, E⟩ := S.en
  obtain ⟨v, q, r⟩ := E.sl i s e
  have T := S.setNone hf (some v)
  rw [set_id q] at T
  have E' : EnR C B G H σ (δ.set i none) (fset fps i []) := by
    refine ⟨fun j u ej => ?_, fun j ej => ?_, fun j => ?_, fun j k a hjk ha => ?_, fun j a ha => ?_⟩
    · by_cases hj : i = j
      · subst hj
        rw [List.getElem?_set_self (List.getElem?_eq_some_iff.mp e).1] at ej
        cases ej
      · rw [List.getElem?_set_ne hj] at ej
        rw [fset_ne (Ne.symm hj)]
        exact E.sl j u ej
    · by_cases hj : i = j
      · subst hj; exact fset_same
      · rw [fset_ne (Ne.symm hj)]
        exact E.no j fun u z => ej u (by rw [List.getElem?_set_ne hj]; exact z)
    · by_cases hj : j = i
      · subst hj; rw [fset_same]; exact List.nodup_nil
      · rw [fset_ne hj]; exact E.nd j
    · by_cases hj : j = i
      · subst hj; rw [fset_same] at ha; cases ha
      · rw [fset_ne hj] at ha
        by_cases hk : k = i
        · subst hk; rw [fset_same]; exact fun z => nomatch z
        · rw [fset_ne hk]; exact E.dj j k a hjk ha
    · by_cases hj : j = i
      · subst hj; rw [fset_same] at ha; cases ha
      · rw [fset_ne hj] at ha; exact E.off j a ha
  refine ⟨v, q, T, fset fps i [], fps i, E', ?_, E.nd i, fun a ha => ⟨E.off i a ha, fun j z => ?_⟩⟩
  · rcases hs with ⟨d, rfl⟩ | ⟨t, rfl⟩
    · exact r
    · exact r
  · by_cases hj : j = i
    · subst hj; rw [fset_same] at z; cases z
    · rw [fset_ne hj] at z; exact E.dj i j a (Ne.symm hj) ha z
theorem ds_retN (i : Nat) {x : Str} {p2 : Pos} (hf : a.free i) (hN : X.N[i]? = some x := by rfl) (hv : Vis X.env.scope x := by first | exact Or.inl rfl | exact Or.inr (Or.inl rfl) | exact Or.inr (Or.inr rfl)) (hd : (x == ("__debug__" : Str)) = false := by decide)
    (hcd : (x == ("__classdict__" : Str)) = false := by decide) : DS X a W (.Return (some (.Name x p2)) pos) (mRetN i) := by
  refine ⟨_, ps_ret (pe_var hN hv hd hcd), fun B G0 G H σ δ D S q => ?_⟩
  have q' : OOk (cn X a) W B G0 D (mRetN i δ) := q
  unfold mRetN at q'
  split at q'
  · rename_i d e
    obtain ⟨v, fp, z, r, _⟩ := S.sl e
    exact ⟨v, z, q' v σ G H (ret_new S (Stp.refl S.gh) (s := .val d) r.2 (.inl ⟨d, rfl⟩))⟩
  · rename_i d e
    obtain ⟨v, z, r⟩ := S.moveOut hf e (.inl ⟨d, rfl⟩)
    exact ⟨v, z, q' v σ G H r⟩
  · rename_i t e
    obtain ⟨v, z, r⟩ := S.moveOut hf e (.inr ⟨t, rfl⟩)
    exact ⟨v, z, q' v σ G H r⟩
  · exact q'.elim
def mRet0 : MS := fun δ => .rt (.val .none) δ
theorem ds_ret0 : DS X a W (.Return none pos) mRet0 := ⟨_, ps_retN, fun B G0 G H σ δ D S q => q .non σ G H (ret_new S (Stp.refl S.gh) (s := .val .none) Rep.non (.inl ⟨_, rfl⟩))⟩
/-- if -/
def mIf (c : MT) (m n : MS) : MS := fun δ => (c δ).out δ fun b => if b = true then m δ else n δ
theorem ds_if {c : MT} {m n : MS} {s1 s2 : List Stmt} (hc : DT X a W e c) (h : DSs X a W s1 m) (k : DSs X a W s2 n) : DS X a W (.If e s1 s2 pos) (mIf c m n) := by
  obtain ⟨tc, pc, sc⟩ := hc
  obtain ⟨t, p, s⟩ := h
  obtain ⟨u, r, z⟩ := k
  refine ⟨_, ps_if pc p r, fun B G0 G H σ δ D S q => ?_⟩
  refine snd_out sc S (R := fun b H1 => if b = true then t D σ H1 else u D σ H1) (f := fun b => if b = true then m δ else n δ) q fun b c G' H' _ st e k => ?_
  cases e
  cases b with
  | true =>
    show t D σ H'
    exact s B G0 G' H' σ δ D (S.step st) k
  | false =>
    show u D σ H'
    exact z B G0 G' H' σ δ D (S.step st) k
/-- x = e -/
def asgS (i : Nat) (δ : DEnv) : Slot → Out
  | .val d => .nx (δ.set i (some (.val d)))
  | .own d => .nx (δ.set i (some (.own d)))
  | .tr t => .nx (δ.set i (some (.tr t)))
  | _ => .stuck
def mAsg (i : Nat) (m : ME) : MS := fun δ => (m δ).out δ (asgS i δ)
theorem asg_ok {C : Cn} {B G0 G H G' H' : Hp} {σ : St} {δ : DEnv} {D : Ends} {i : Nat} {s : Slot} {v : V} (hf : C.free i) (S : StR C B G0 G H σ δ) (st : Stp G H G' H') (r : ResF C.K H G' H' s v) (k : OOk C W B G0 D (asgS i δ s)) : D.nx (σ.set i (some v)) H' := by
  cases s with
  | val d => exact k _ G' H' (S.setNew hf st r (.inl ⟨d, rfl⟩))
  | own d => exact k _ G' H' (S.setNew hf st r (.inr (.inl ⟨d, rfl⟩)))
  | tr t => exact k _ G' H' (S.setNew hf st r (.inr (.inr ⟨t, rfl⟩)))
  | bor d => exact k.elim
  | bt d => exact k.elim
  | exn x => exact k.elim
theorem sndS_asg {C : Cn} {t : TE} {m : ME} (i : Nat) (hf : C.free i) (s : Snd C W (relE C.K) t m) : SndS C W (tAsg t (gName i)) (mAsg i m) := by
  intro B G0 G H σ δ D S q
  exact snd_out s S (R := fun x H1 => D.nx (σ.set i (some x)) H1) (f := asgS i δ) q fun sl v G' H' _ st r k => asg_ok hf S st r k
theorem ds_asg {i : Nat} {x : Str} {m : ME} {pos' : Pos} (hfr : a.free i) (hN : X.N.Nodup) (hi : X.N[i]? = some x) (hx : Loc X.env.scope x) (h : DE X a W e m) (hs : swapsWith e (some (.Name x pos')) pos.line X.env = pure false := by rfl)
    (hf : X.fn x = true ∨ X.env.scope.names.lookup x = some .local := by first | exact .inl rfl | exact .inr rfl | assumption) : DS X a W (.Assign [.Name x pos'] e pos) (mAsg i m) :=
  let ⟨_, p, s⟩ := h; ⟨_, ps_set hN hi hx p hs hf, sndS_asg (C := cn X a) i hfr s⟩
/-! ### 2. targets: what they set, the places that they touch -/
abbrev MG := PyData → DEnv → Option DEnv
def Off (vs : List Nat) (σ σ' : St) : Prop := σ'.length = σ.length ∧ ∀ j, j ∉ vs → σ'[j]? = σ[j]?
def SndG (C : Cn) (t : TG) (g : MG) (vs : List Nat) : Prop := ∀ B G0 G H σ δ v d δ' (Q : St → Hp → Prop), StR C B G0 G H σ δ → Rep C.K G v d → g d δ = some δ' → (∀ σ', StR C B G0 G H σ' δ' → Off vs σ σ' → Q σ' H) → t v σ H Q
def SndGs (C : Cn) (t : TGs) (g : List PyData → DEnv → Option DEnv) (vs : List Nat) : Prop := ∀ B G0 G H σ δ us ds δ' (Q : St → Hp → Prop), StR C B G0 G H σ δ → RepL C.K G us ds → g ds δ = some δ' → (∀ σ', StR C B G0 G H σ' δ' → Off vs σ σ' → Q σ' H) → t us σ H Q
def DG (X : Cx) (a : Ax) (e : Expr) (g : MG) (vs : List Nat) : Prop := ∃ t, PG X e t ∧ SndG (cn X a) t g vs
def DGs (X : Cx) (a : Ax) (es : List Expr) (g : List PyData → DEnv → Option DEnv) (vs : List Nat) : Prop := ∃ t, PGs X es t ∧ SndGs (cn X a) t g vs
def mgN (i : Nat) : MG := fun d δ => some (δ.set i (some (.val d)))
def mgNil : List PyData → DEnv → Option DEnv := fun ds δ => match ds with | [] => some δ | _ => none
def mgCons (g : MG) (h : List PyData → DEnv → Option DEnv) : List PyData → DEnv → Option DEnv := fun ds δ => match ds with | d :: r => (g d δ).bind (h r) | [] => none
def mgT (n : Nat) (h : List PyData → DEnv → Option DEnv) : MG := fun d δ => match d with | .tuple ds => if ds.length = n then h ds δ else none | _ => none
theorem dg_name {i : Nat} {x : Str} (hfr : a.free i) (hN : X.N.Nodup) (hi : X.N[i]? = some x) (hx : Loc X.env.scope x) (hf : X.fn x = true ∨ X.env.scope.names.lookup x = some .local := by first | exact .inl rfl | exact .inr rfl | assumption) : DG X a (.Name x pos) (mgN i) [i] :=
  ⟨_, pg_name hN hi hx hf, fun B G0 G H σ δ v d δ' Q S r e k => by
    cases e
    exact k _ (S.setVal (C := cn X a) hfr r) ⟨by simp, fun j hj => List.getElem?_set_ne (fun z => hj (by simp [z]))⟩⟩
theorem dgs_nil : DGs X a [] mgNil [] := ⟨_, pgs_nil, fun B G0 G H σ δ vs ds δ' Q S r e k => by
  cases r with
  | nil => cases e; exact ⟨rfl, k _ S ⟨rfl, fun _ _ => rfl⟩⟩
  | cons _ _ => cases e⟩
theorem dgs_cons {g : MG} {h : List PyData → DEnv → Option DEnv} {us vs : List Nat} (p : DG X a e g us) (q : DGs X a es h vs) (hs : (assignEach (e :: es) X.env).map (·.2) = assign e X.env :: (assignEach es X.env).map (·.2) := by rfl) : DGs X a (e :: es) (mgCons g h) (us ++ vs) := by
  obtain ⟨t, p, s⟩ := p
  obtain ⟨u, q, z⟩ := q
  refine ⟨_, pgs_cons p q hs, fun B G0 G H σ δ vs ds δ' Q S r e k => ?_⟩
  cases r with
  | nil => cases e
  | @cons v vs d ds r rs =>
    have e' : (g d δ).bind (h ds) = some δ' := e
    cases e1 : g d δ with
    | none => rw [e1] at e'; cases e'
    | some δ1 =>
      rw [e1] at e'
      refine ⟨v, vs, rfl, s B G0 G H σ δ v d δ1 _ S r e1 fun σ1 S1 o1 => z B G0 G H σ1 δ1 vs ds δ' Q S1 rs e' fun σ2 S2 o2 => k σ2 S2 ⟨o2.1.trans o1.1, fun j hj => ?_⟩⟩
      rw [List.mem_append, not_or] at hj
      exact (o2.2 j hj.2).trans (o1.2 j hj.1)
theorem dg_tup {k n : Nat} {h : List PyData → DEnv → Option DEnv} {us : List Nat} (hc : X.calm = true) (q : DGs X a es h us) (hn : (assignEach es X.env).length = n := by rfl) (hst : (assignEach es X.env).findIdx? (·.1) = none := by rfl) : DG X a (.Tuple es k pos) (mgT n h) us := by
  obtain ⟨u, q, z⟩ := q
  refine ⟨_, pg_tup hc q hn hst, fun B G0 G H σ δ v d δ' Q S r e k => ?_⟩
  cases r with
  | tup hq rs =>
    have e' : (if _ = n then h _ δ else none) = some δ' := e
    split at e'
    · rename_i hl
      exact ⟨_, _, rfl, sqT_mono S.gh hq, (RepL.length rs).trans hl, z B G0 G H σ δ _ _ δ' Q S rs e' k⟩
    · cases e'
  | lst _ _ => cases e
  | dk _ _ => cases e
  | dn _ _ _ => cases e
  | non => cases e
  | bl _ => cases e
  | int _ => cases e
  | str _ => cases e
/-- a, b = e and the like -/
def tgtO (g : MG) (δ : DEnv) (d : PyData) : Out := match g d δ with
  | some δ' => .nx δ'
  | none => .stuck
def mAsgG (g : MG) (m : MD) : MS := fun δ => (m δ).out δ (tgtO g δ)
theorem ds_asgG {tg : Expr} {g : MG} {m : MD} (h : DV X a W e m) {vs : List Nat} (hg : DG X a tg g vs) (hs : swapsWithSole [tg] e pos.line X.env = pure false := by rfl) (hw : swappedStores [tg] e X.env = pure none := by rfl)
    (h1 : (assignEach [tg] X.env).map (·.2) = [assign tg X.env] := by rfl) : DS X a W (.Assign [tg] e pos) (mAsgG g m) := by
  obtain ⟨t, p, s⟩ := h
  obtain ⟨u, q, z⟩ := hg
  refine ⟨_, ps_asg p q hs hw h1, fun B G0 G H σ δ D S k => ?_⟩
  refine snd_out s S (R := fun x H1 => u x σ H1 D.nx) (f := tgtO g δ) k fun d v G' H' _ st r k => ?_
  have k' : OOk (cn X a) W B G0 D (tgtO g δ d) := k
  unfold tgtO at k'
  cases e : g d δ with
  | none => rw [e] at k'; exact k'.elim
  | some δ' => rw [e] at k'; exact z B G0 G' H' σ δ v d δ' D.nx (S.step st) r e fun σ' T _ => k' σ' G' H' T
/-! ### 3. for -/
/-- J gives the things of ds, one after another, at any later heap -/
def Gives (C : Cn) (B : Hp) (J : It) (G : Hp) (ds : List PyData) : Prop :=
  ∀ (i : Nat) (G1 H1 : Hp), Same G G1 → Same G1 H1 → Same B H1 →
    (∀ d, ds[i]? = some d → J.go i H1 ∧ ∀ x H', J.yld i H1 x H' → ∃ G2, Stp G1 H1 G2 H' ∧ Rep C.K G2 x d) ∧ (ds.length ≤ i → i ≤ ds.length → J.stop i H1)
def SndI (C : Cn) (W : WX) (wi : TI) (m : ML) : Prop := ∀ B G0 G H σ δ, StR C B G0 G H σ δ → ∀ R : It → Hp → Prop, ROk C W σ G H (fun G' _ ds J => Gives C B J G' ds) (m δ) R → wi σ H R
def DI (X : Cx) (a : Ax) (W : WX) (tg e : Expr) (m : ML) : Prop := ∃ t, PI X tg e t ∧ SndI (cn X a) W t m
def loopO (g : MG) (b : MS) : List PyData → DEnv → Out
  | [], δ => .nx δ
  | d :: ds, δ => match g d δ with
    | none => .stuck
    | some δ1 => match b δ1 with
      | .nx δ2 => loopO g b ds δ2
      | .ct δ2 => loopO g b ds δ2
      | .bk δ2 => .nx δ2
      | o => o
def mFor (g : MG) (it : ML) (b : MS) : MS := fun δ => (it δ).out δ fun ds => loopO g b ds δ
theorem for_ok {C : Cn} {J : It} {g : TG} {mg : MG} {tb : TS} {b : MS} {B G0 G H : Hp} {σ : St} {δ : DEnv} {D : Ends} {ds : List PyData} {vs : List Nat} (hg : SndG C g mg vs) (hb : SndS C W tb b) (S : StR C B G0 G H σ δ) (gv : Gives C B J G ds) (k : OOk C W B G0 D (loopO mg b ds δ)) :
    ∃ Wn : Nat → Nat → St → Hp → Prop, (∃ m, Wn 0 m σ H) ∧ ∀ i m σ H, Wn i m σ H → (J.stop i H ∧ D.nx σ H) ∨ (J.go i H ∧ ∃ N : St → Hp → Prop, (∀ σ' H', N σ' H' → ∃ m', m' < m ∧ Wn (i + 1) m' σ' H') ∧
      ∀ x H', J.yld i H x H' → g x σ H' fun σ2 H2 => tb { D with nx := N, ct := N, bk := D.nx } σ2 H2) := by
  refine ⟨fun i m σ' H' => m + i = ds.length ∧ ∃ G' δ', Same G G' ∧ StR C B G0 G' H' σ' δ' ∧ OOk C W B G0 D (loopO mg b (ds.drop i) δ'), ⟨ds.length, by omega, G, δ, Same.refl _, S, k⟩, ?_⟩
  rintro i m σ1 H1 ⟨hm, G1, δ1, g1, S1, k1⟩
  obtain ⟨go, stop⟩ := gv i G1 H1 g1 S1.gh S1.bh
  by_cases hi : i < ds.length
  · have ed : ds[i]? = some ds[i] := List.getElem?_eq_getElem hi
    obtain ⟨go, yl⟩ := go _ ed
    rw [List.drop_eq_getElem_cons hi] at k1
    refine .inr ⟨go, fun σ' H' => ∃ G' δ', Same G G' ∧ StR C B G0 G' H' σ' δ' ∧ OOk C W B G0 D (loopO mg b (ds.drop (i + 1)) δ'), fun σ' H' n => ⟨m - 1, by omega, by omega, n⟩, fun x H' y => ?_⟩
    obtain ⟨G2, st2, r⟩ := yl x H' y
    have k2 : OOk C W B G0 D (match mg ds[i] δ1 with | none => .stuck | some δ2 => match b δ2 with | .nx δ3 => loopO mg b (ds.drop (i + 1)) δ3 | .ct δ3 => loopO mg b (ds.drop (i + 1)) δ3 | .bk δ3 => .nx δ3 | o => o) := k1
    cases e : mg ds[i] δ1 with
    | none => rw [e] at k2; exact k2.elim
    | some δ2 =>
      rw [e] at k2
      refine hg B G0 G2 H' σ1 δ1 x ds[i] δ2 _ (S1.step st2) r e fun σ2 S2 _ => ?_
      have S2b := S2.base
      refine hb B G2 G2 H' σ2 δ2 _ S2b ?_
      have k3 : OOk C W B G0 D (match b δ2 with | .nx δ3 => loopO mg b (ds.drop (i + 1)) δ3 | .ct δ3 => loopO mg b (ds.drop (i + 1)) δ3 | .bk δ3 => .nx δ3 | o => o) := k2
      generalize b δ2 = o at k3
      have gg : Same G G2 := g1.trans st2.g
      cases o with
      | nx δ3 => exact fun σ3 G3 H3 T => ⟨G3, δ3, gg.trans T.g0, S2.unbase T, k3⟩
      | ct δ3 => exact fun σ3 G3 H3 T => ⟨G3, δ3, gg.trans T.g0, S2.unbase T, k3⟩
      | bk δ3 => exact fun σ3 G3 H3 T => k3 σ3 G3 H3 (S2.unbase T)
      | rt s δ' => exact (OOk.unbase (D := D) (o := .rt s δ') S2 k3)
      | ex x δ3 => exact (OOk.unbase (D := D) (o := .ex x δ3) S2 k3)
      | stuck => exact k3
  · have e : i = ds.length := by omega
    refine .inl ⟨stop (by omega) (by omega), ?_⟩
    rw [List.drop_of_length_le (by omega)] at k1
    exact k1 σ1 G1 H1 S1
theorem ds_for {tg iter : Expr} {body : List Stmt} {g : MG} {it : ML} {b : MS} (hp : PassesOwn (model X.prog X.w) X.A X.env X.xe) (hc : X.calm = true) (hi : DI X a W tg iter it) {vs : List Nat} (hg : DG X a tg g vs) (hb : DSs X a W body b)
    (hs : ∀ x, foldedSetIterable iter X.env x = pure x := by intro _; rfl) : DS X a W (.For tg iter body [] pos) (mFor g it b) := by
  obtain ⟨wi, pi, si⟩ := hi
  obtain ⟨tg', pg, sg⟩ := hg
  obtain ⟨tb, pb, sb⟩ := hb
  refine ⟨_, ps_for hp hc pi pg pb hs, fun B G0 G H σ δ D S k => ?_⟩
  refine si B G0 G H σ δ S _ ?_
  have k' : OOk (cn X a) W B G0 D ((it δ).out δ fun ds => loopO g b ds δ) := k
  cases e : it δ with
  | stuck => rw [e] at k'; exact k'.elim
  | exc x => rw [e] at k'; exact fun cls d G' H' st r => k' cls d σ G' H' (S.step st) r
  | ok ds => rw [e] at k'; exact fun J G' H' st gv => for_ok sg sb (S.step st) gv k'
/-! what is walked -/
theorem gives_list {C : Cn} {B G : Hp} {p : Addr} {xs : List V} {ds : List PyData} (h : SqL C.K G p xs) (r : RepL C.K G xs ds) : Gives C B (Itl C.K p) G ds := by
  intro i G1 H1 g s _
  have q : SqL C.K H1 p xs := sqL_mono (g.trans s) h
  refine ⟨fun d e => ?_, fun h1 h2 => ⟨xs, q, by rw [r.length]; exact h1⟩⟩
  obtain ⟨v, ev, rv⟩ := r.get e
  refine ⟨⟨xs, v, q, ev⟩, fun x H' y => ?_⟩
  obtain ⟨e1, y⟩ := y
  subst e1
  have e2 := y xs q
  rw [ev] at e2; cases e2
  exact ⟨G1, Stp.refl s, rv.mono g⟩
theorem gives_tup {C : Cn} {B G : Hp} {p : Addr} {xs : List V} {ds : List PyData} (h : SqT C.K G p xs) (r : RepL C.K G xs ds) : Gives C B (Itt C.K p) G ds := by
  intro i G1 H1 g s _
  have q : SqT C.K H1 p xs := sqT_mono (g.trans s) h
  refine ⟨fun d e => ?_, fun h1 h2 => ⟨xs, q, by rw [r.length]; exact h1⟩⟩
  obtain ⟨v, ev, rv⟩ := r.get e
  refine ⟨⟨xs, v, q, ev⟩, fun x H' y => ?_⟩
  obtain ⟨e1, y⟩ := y
  subst e1
  have e2 := y xs q
  rw [ev] at e2; cases e2
  exact ⟨G1, Stp.refl s, rv.mono g⟩
/-- for x in a list | in a tuple: the reader says which -/
def asList : PyData → Res (List PyData)
  | .list ds => .ok ds
  | _ => .stuck
def asTuple : PyData → Res (List PyData)
  | .tuple ds => .ok ds
  | _ => .stuck
def miL (m : MD) : ML := fun δ => (m δ).bind asList
def miT (m : MD) : ML := fun δ => (m δ).bind asTuple
theorem di_list {tg : Expr} {m : MD} (h : DV X a W e m) : DI X a W tg e (miL m) := by
  obtain ⟨t, p, s⟩ := h
  refine ⟨_, pi_list p, fun B G0 G H σ δ S R q => ?_⟩
  refine s B G0 G H σ δ S _ ?_
  have q' : ROk (cn X a) W σ G H (fun G' _ ds J => Gives (cn X a) B J G' ds) ((m δ).bind asList) R := q
  generalize m δ = r at q'
  cases r with
  | stuck => exact q'.elim
  | exc x => exact q'
  | ok d =>
    intro v G' H' st rp
    cases rp with
    | lst h r => exact ⟨_, rfl, ⟨_, sqL_mono st.gh h⟩, q' _ G' H' st (gives_list (C := cn X a) h r)⟩
    | tup _ _ => exact q'.elim
    | dk _ _ => exact q'.elim
    | dn _ _ _ => exact q'.elim
    | non => exact q'.elim
    | bl _ => exact q'.elim
    | int _ => exact q'.elim
    | str _ => exact q'.elim
theorem di_tup {tg : Expr} {m : MD} (h : DV X a W e m) : DI X a W tg e (miT m) := by
  obtain ⟨t, p, s⟩ := h
  refine ⟨_, pi_tup p, fun B G0 G H σ δ S R q => ?_⟩
  refine s B G0 G H σ δ S _ ?_
  have q' : ROk (cn X a) W σ G H (fun G' _ ds J => Gives (cn X a) B J G' ds) ((m δ).bind asTuple) R := q
  generalize m δ = r at q'
  cases r with
  | stuck => exact q'.elim
  | exc x => exact q'
  | ok d =>
    intro v G' H' st rp
    cases rp with
    | tup h r => exact ⟨_, rfl, ⟨_, sqT_mono st.gh h⟩, q' _ G' H' st (gives_tup (C := cn X a) h r)⟩
    | lst _ _ => exact q'.elim
    | dk _ _ => exact q'.elim
    | dn _ _ _ => exact q'.elim
    | non => exact q'.elim
    | bl _ => exact q'.elim
    | int _ => exact q'.elim
    | str _ => exact q'.elim
/-- ranges -/
def rng (lo : Int) (n : Nat) : List PyData := (List.range n).map fun (i : Nat) => PyData.int (lo + (i : Int))
theorem gives_range {C : Cn} {B G : Hp} {lo : Int} {n : Nat} : Gives C B (Itr lo n) G (rng lo n) := by
  intro i G1 H1 g s _
  have hl : (rng lo n).length = n := by simp [rng]
  refine ⟨fun d e => ?_, fun h1 _ => by rw [hl] at h1; exact h1⟩
  have hi : i < n := by
    have := (List.getElem?_eq_some_iff.mp e).1
    rw [hl] at this; exact this
  refine ⟨hi, fun x H' y => ?_⟩
  obtain ⟨e1, e2⟩ := y
  subst e1 e2
  have ed : d = .int (lo + (i : Int)) := by
    have h3 : (rng lo n)[i]? = some (.int (lo + (i : Int))) := by simp [rng, hi]
    rw [h3] at e; cases e; rfl
  subst ed
  exact ⟨G1, Stp.refl s, .int _⟩
noncomputable def small62 (i : Int) : Bool := @decide (-(2 ^ 62) ≤ i ∧ i < 2 ^ 62) (Classical.propDecidable _)
theorem small62_iff {i : Int} : small62 i = true ↔ (-(2 ^ 62) ≤ i ∧ i < 2 ^ 62) := @decide_eq_true_iff _ (Classical.propDecidable _)
noncomputable def rng1 : List PyData → Res (List PyData)
  | [.int n] => if small62 n = true then .ok (rng 0 n.toNat) else .stuck
  | _ => .stuck
noncomputable def rng2 : List PyData → Res (List PyData)
  | [.int lo, .int hi] => if small62 lo = true ∧ small62 hi = true then .ok (rng lo (hi - lo).toNat) else .stuck
  | _ => .stuck
theorem rng1_ok {ds out : List PyData} (h : rng1 ds = .ok out) : ∃ n, ds = [.int n] ∧ small62 n = true ∧ out = rng 0 n.toNat := by
  unfold rng1 at h
  split at h
  · split at h
    · cases h; exact ⟨_, rfl, by assumption, rfl⟩
    · cases h
  · cases h
theorem rng2_ok {ds out : List PyData} (h : rng2 ds = .ok out) : ∃ lo hi, ds = [.int lo, .int hi] ∧ small62 lo = true ∧ small62 hi = true ∧ out = rng lo (hi - lo).toNat := by
  unfold rng2 at h
  split at h
  · split at h
    · rename_i z; cases h; exact ⟨_, _, rfl, z.1, z.2, rfl⟩
    · cases h
  · cases h
theorem rng1_exc {ds : List PyData} {x : Exn} : rng1 ds ≠ .exc x := by
  unfold rng1
  split
  · split <;> (intro h; cases h)
  · intro h; cases h
theorem rng2_exc {ds : List PyData} {x : Exn} : rng2 ds ≠ .exc x := by
  unfold rng2
  split
  · split <;> (intro h; cases h)
  · intro h; cases h
noncomputable def mRng1 (m : ML) : ML := fun δ => (m δ).bind rng1
noncomputable def mRng2 (m : ML) : ML := fun δ => (m δ).bind rng2
theorem di_range1 {tg : Expr} {m : ML} {p : Pos} (hg : Gl X "range") (hm : X.mg "range" = none) (h : DA X a W [e] m) (hs : starEach [e] X.env = [(false, eval e X.env)] := by rfl) : DI X a W tg (.Call (.Name "range" p) [e] [] pos) (mRng1 m) := by
  obtain ⟨t, pa, s⟩ := h
  refine ⟨_, pi_range1 hg hm pa hs, fun B G0 G H σ δ S R q => ?_⟩
  refine s B G0 G H σ δ S _ ?_
  have q' : ROk (cn X a) W σ G H (fun G' _ ds J => Gives (cn X a) B J G' ds) ((m δ).bind rng1) R := q
  generalize m δ = r at q'
  cases r with
  | stuck => exact q'.elim
  | exc x => exact q'
  | ok ds =>
    intro vs G' H' st rp
    rw [bind_ok] at q'
    cases er : rng1 ds with
    | stuck => rw [er] at q'; exact q'.elim
    | exc x => exact (rng1_exc er).elim
    | ok out =>
      rw [er] at q'
      obtain ⟨n, e1, hn, e2⟩ := rng1_ok er
      subst e1 e2
      cases rp with
      | cons r0 r1 =>
        cases r0; cases r1
        have hn' := small62_iff.1 hn
        exact ⟨n, rfl, hn'.1, hn'.2, q' _ G' H' st gives_range⟩
theorem di_range2 {tg : Expr} {m : ML} {p : Pos} (hg : Gl X "range") (hm : X.mg "range" = none) (h : DA X a W [e1, e2] m) (hs : starEach [e1, e2] X.env = [(false, eval e1 X.env), (false, eval e2 X.env)] := by rfl) (hs2 : starEach [e2] X.env = [(false, eval e2 X.env)] := by rfl) :
    DI X a W tg (.Call (.Name "range" p) [e1, e2] [] pos) (mRng2 m) := by
  obtain ⟨t, pa, s⟩ := h
  refine ⟨_, pi_range2 hg hm pa hs hs2, fun B G0 G H σ δ S R q => ?_⟩
  refine s B G0 G H σ δ S _ ?_
  have q' : ROk (cn X a) W σ G H (fun G' _ ds J => Gives (cn X a) B J G' ds) ((m δ).bind rng2) R := q
  generalize m δ = r at q'
  cases r with
  | stuck => exact q'.elim
  | exc x => exact q'
  | ok ds =>
    intro vs G' H' st rp
    rw [bind_ok] at q'
    cases er : rng2 ds with
    | stuck => rw [er] at q'; exact q'.elim
    | exc x => exact (rng2_exc er).elim
    | ok out =>
      rw [er] at q'
      obtain ⟨lo, hi, e1, h1, h2, e2⟩ := rng2_ok er
      subst e1 e2
      cases rp with
      | cons r0 r1 =>
        cases r0
        cases r1 with
        | cons r0 r1 =>
          cases r0; cases r1
          have h1 := small62_iff.1 h1
          have h2 := small62_iff.1 h2
          exact ⟨lo, hi, rfl, ⟨h1.1, h1.2, h2.1, h2.2⟩, q' _ G' H' st gives_range⟩
/-! ### 4. while: by any number of turns that ends it -/
def wturn (δ : DEnv) (t : Res Bool) (o : Out) (k : DEnv → Option Out) : Option Out := match t with
  | .stuck => some .stuck
  | .exc x => some (.ex x δ)
  | .ok false => some (.nx δ)
  | .ok true => match o with
    | .nx δ' => k δ'
    | .ct δ' => k δ'
    | .bk δ' => some (.nx δ')
    | .rt s δ' => some (.rt s δ')
    | .ex x δ' => some (.ex x δ')
    | .stuck => some .stuck
def whileN (c : MT) (b : MS) : Nat → DEnv → Option Out
  | 0, _ => none
  | n + 1, δ => wturn δ (c δ) (b δ) (whileN c b n)
theorem wturn_mono {δ : DEnv} {t : Res Bool} {o r : Out} {k k' : DEnv → Option Out} (h : ∀ δ r, k δ = some r → k' δ = some r) (e : wturn δ t o k = some r) : wturn δ t o k' = some r := by
  cases t with
  | stuck => exact e
  | exc x => exact e
  | ok b =>
    cases b with
    | false => exact e
    | true => cases o <;> first | exact e | exact h _ _ e
theorem whileN_mono {c : MT} {b : MS} : ∀ {n m : Nat} {δ : DEnv} {o : Out}, n ≤ m → whileN c b n δ = some o → whileN c b m δ = some o
  | 0, _, _, _, _, h => nomatch h
  | n + 1, 0, _, _, hl, _ => absurd hl (by omega)
  | n + 1, m + 1, δ, o, hl, h => wturn_mono (fun _ _ e => whileN_mono (by omega) e) h
open Classical in
noncomputable def mWhile (c : MT) (b : MS) : MS := fun δ => if h : ∃ n o, whileN c b n δ = some o then Classical.choose (Classical.choose_spec h) else .stuck
theorem mWhile_of {c : MT} {b : MS} {n : Nat} {δ : DEnv} {o : Out} (h : whileN c b n δ = some o) : mWhile c b δ = o := by
  have hx : ∃ n o, whileN c b n δ = some o := ⟨n, o, h⟩
  unfold mWhile
  rw [dif_pos hx]
  have hs := Classical.choose_spec (Classical.choose_spec hx)
  have h1 := whileN_mono (Nat.le_max_left n (Classical.choose hx)) h
  have h2 := whileN_mono (Nat.le_max_right n (Classical.choose hx)) hs
  rw [h1] at h2
  exact (Option.some.inj h2).symm
theorem mWhile_some {c : MT} {b : MS} {δ : DEnv} (h : mWhile c b δ ≠ .stuck) : ∃ n, whileN c b n δ = some (mWhile c b δ) := by
  by_cases hx : ∃ n o, whileN c b n δ = some o
  · obtain ⟨n, o, e⟩ := hx
    exact ⟨n, by rw [mWhile_of e]; exact e⟩
  · exact (h (by unfold mWhile; rw [dif_neg hx])).elim
def wgo (o : Out) (k : DEnv → Out) : Out := match o with
  | .nx δ' => k δ'
  | .ct δ' => k δ'
  | .bk δ' => .nx δ'
  | o => o
/-- one turn -/
theorem mWhile_eq (c : MT) (b : MS) (δ : DEnv) : mWhile c b δ = (c δ).out δ fun t => if t = true then wgo (b δ) (mWhile c b) else .nx δ := by
  have go : ∀ δ', (∀ n, whileN c b (n + 1) δ = whileN c b n δ') → mWhile c b δ = mWhile c b δ' := fun δ' h => by
    by_cases hs : mWhile c b δ' = .stuck
    · by_cases hs2 : mWhile c b δ = .stuck
      · rw [hs, hs2]
      · obtain ⟨n, e⟩ := mWhile_some hs2
        cases n with
        | zero => cases e
        | succ n => rw [h n] at e; exact (mWhile_of e).symm
    · obtain ⟨n, e⟩ := mWhile_some hs
      exact mWhile_of (n := n + 1) (by rw [h n]; exact e)
  have one : ∀ n, whileN c b (n + 1) δ = wturn δ (c δ) (b δ) (whileN c b n) := fun _ => rfl
  cases ec : c δ with
  | stuck => exact mWhile_of (n := 1) (by rw [one, ec]; rfl)
  | exc x => exact mWhile_of (n := 1) (by rw [one, ec]; rfl)
  | ok t =>
    cases t with
    | false => exact mWhile_of (n := 1) (by rw [one, ec]; rfl)
    | true =>
      rw [out_ok, if_pos rfl]
      cases eb : b δ with
      | nx δ' => exact go δ' fun n => by rw [one, ec, eb]; rfl
      | ct δ' => exact go δ' fun n => by rw [one, ec, eb]; rfl
      | bk δ' => exact mWhile_of (n := 1) (by rw [one, ec, eb]; rfl)
      | rt s δ' => exact mWhile_of (n := 1) (by rw [one, ec, eb]; rfl)
      | ex x δ' => exact mWhile_of (n := 1) (by rw [one, ec, eb]; rfl)
      | stuck => exact mWhile_of (n := 1) (by rw [one, ec, eb]; rfl)
theorem sndS_while {C : Cn} {tc : TT} {tb : TS} {c : MT} {b : MS} (hc : Snd C W relB tc c) (hb : SndS C W tb b) : SndS C W (tWhile tc tb) (mWhile c b) := by
  intro B G0 G H σ δ D S k
  have hs : mWhile c b δ ≠ .stuck := fun z => by rw [z] at k; exact k.elim
  obtain ⟨n, e⟩ := mWhile_some hs
  refine ⟨fun m σ' H' => ∃ G' δ' o, StR C B G0 G' H' σ' δ' ∧ whileN c b m δ' = some o ∧ OOk C W B G0 D o, ⟨n, G, δ, _, S, e, k⟩, ?_⟩
  rintro m σ1 H1 ⟨G1, δ1, o, S1, e1, k1⟩
  cases m with
  | zero => cases e1
  | succ m =>
    have e1 : wturn δ1 (c δ1) (b δ1) (whileN c b m) = some o := e1
    refine hc B G0 G1 H1 σ1 δ1 S1 _ ?_
    generalize c δ1 = t at e1
    cases t with
    | stuck => cases e1; exact k1
    | exc x => cases e1; exact fun cls d G' H' st r => k1 cls d σ1 G' H' (S1.step st) r
    | ok t =>
      intro t' G' H' st ee
      cases ee
      cases t with
      | false =>
        show D.nx σ1 H'
        cases e1
        exact k1 σ1 G' H' (S1.step st)
      | true =>
        show ∃ N : St → Hp → Prop, (∀ σ' H', N σ' H' → ∃ m', m' < m + 1 ∧ ∃ G' δ' o, StR C B G0 G' H' σ' δ' ∧ whileN c b m' δ' = some o ∧ OOk C W B G0 D o) ∧ tb { D with nx := N, ct := N, bk := D.nx } σ1 H'
        refine ⟨fun σ' H' => ∃ G' δ' o, StR C B G0 G' H' σ' δ' ∧ whileN c b m δ' = some o ∧ OOk C W B G0 D o, fun σ' H' n => ⟨m, Nat.lt_succ_self m, n⟩, ?_⟩
        refine hb B G0 G' H' σ1 δ1 _ (S1.step st) ?_
        generalize b δ1 = ob at e1
        cases ob with
        | nx δ2 => exact fun σ2 G2 H2 T => ⟨G2, δ2, o, T, e1, k1⟩
        | ct δ2 => exact fun σ2 G2 H2 T => ⟨G2, δ2, o, T, e1, k1⟩
        | bk δ2 => cases e1; exact fun σ2 G2 H2 T => k1 σ2 G2 H2 T
        | rt s δ' => cases e1; exact k1
        | ex x δ2 => cases e1; exact k1
        | stuck => cases e1; exact k1
theorem ds_while {c : MT} {b : MS} {body : List Stmt} (hp : PassesOwn (model X.prog X.w) X.A X.env X.xe) (hc : DT X a W e c) (hb : DSs X a W body b) : DS X a W (.While e body [] pos) (mWhile c b) :=
  let ⟨_, pc, sc⟩ := hc; let ⟨_, p, s⟩ := hb; ⟨_, ps_while hp pc p, sndS_while sc s⟩
/-! ### 5. defs and calls -/
abbrev F := List Slot → Res Slot
def spD (C : Cn) (f : F) : Sp := fun vs H Q E => ∃ G ss, Same G H ∧ ArgsR C.K G H ss vs ∧ ROk C (fun cls d _ H' => E cls d H') [] G H (relE C.K H) (f ss) Q
def Out.res : Out → Res Slot
  | .rt s _ => .ok s
  | .nx _ => .ok (.val .none)
  | .ex x _ => .exc x
  | _ => .stuck
def start0 (n : Nat) (ss : List Slot) : DEnv := ss.map some ++ List.replicate (n - ss.length) none
/-- a def of n slots with that body, called with k arguments -/
def mDef (n k : Nat) (b : MS) : F := fun ss => if ss.length = k then (b (start0 n ss)).res else .stuck
theorem ArgsR.length {K : Kw} {G H : Hp} : ∀ {ss : List Slot} {vs : List V}, ArgsR K G H ss vs → ss.length = vs.length := fun r => Paired.length r
theorem ArgsR.get {K : Kw} {G H : Hp} : ∀ {ss : List Slot} {vs : List V} {i : Nat} {s : Slot}, ArgsR K G H ss vs → ss[i]? = some s → ∃ v, vs[i]? = some v ∧ ArgR K G H s v
  | _, _, _, _, .nil, e => by simp at e
  | _, _, 0, _, .cons r _, e => by simp at e; subst e; exact ⟨_, rfl, r⟩
  | _, _, i + 1, _, .cons _ t, e => by
    obtain ⟨u, h1, h2⟩ := ArgsR.get (i := i) t (by simpa using e)
    exact ⟨u, by simpa using h1, h2⟩
theorem start_at {n i : Nat} {ss : List Slot} {s : Slot} (e : (start0 n ss)[i]? = some (some s)) : ss[i]? = some s := by
  unfold start0 at e
  by_cases hi : i < ss.length
  · rw [List.getElem?_append_left (by simpa using hi), List.getElem?_map] at e
    cases q : ss[i]? with
    | none => rw [q] at e; cases e
    | some u => rw [q] at e; cases e; rfl
  · rw [List.getElem?_append_right (by simpa using hi)] at e
    have := List.mem_of_getElem? e
    rw [List.mem_replicate] at this
    cases this.2
theorem start_v {N : List Str} {vs : List V} {i : Nat} {v : V} (q : vs[i]? = some v) : (L2.start N vs)[i]? = some (some v) := by
  unfold L2.start
  have hi : i < vs.length := (List.getElem?_eq_some_iff.mp q).1
  rw [List.getElem?_append_left (by simpa using hi), List.getElem?_map, q]
  rfl
theorem start_ok {C : Cn} (hR : C.R = []) {G H : Hp} {N : List Str} {ss : List Slot} {vs : List V} (gh : Same G H) (r : ArgsR C.K G H ss vs) : StR C H G G H (L2.start N vs) (start0 N.length ss) := by
  have hl := ArgsR.length r
  refine ⟨Same.refl _, Same.refl _, gh, fun _ e _ => e, ?_, fun p hp => (by rw [hR] at hp; cases hp), fun _ => [], fun i s e => ?_, fun _ _ => rfl, fun _ => List.nodup_nil, (fun i j c _ h => nomatch h), fun i c h => nomatch h⟩
  · unfold L2.start start0
    simp [hl]
  · obtain ⟨v, q, z⟩ := ArgsR.get r (start_at e)
    refine ⟨v, start_v q, ?_⟩
    cases s with
    | val d => exact ⟨rfl, z⟩
    | own d => exact z.elim
    | bor d => obtain ⟨b, eb, t⟩ := z; exact ⟨b, eb, rfl, t.ne, t⟩
    | tr d => exact z.elim
    | bt t => obtain ⟨fp, o⟩ := z; exact ⟨rfl, fp, o, fun a ha => o.there a ha⟩
    | exn x => exact z.elim
section
variable {P : Program} {w : World} {K : PySem.W.Frag} {mg : Str → Option Value} {base : Heap}
/-- THE RULE for a def -/
theorem fn_d {ax : Ax} {x qual : Str} {st : Stmt} {f : Addr} {fd : FuncData} {N ps : List Str} {k : Nat} {b : MS} (F0 : Fun K x qual st f fd) (S : FnScope N ps (defScope st))
    (hbody : ∀ (cdv : Value) (A : Around) (outer : List Env) (s : Shared) (H : Hp) (E : XK), Room k (A.deeper (PyProof.Rows.envOfC qual (defScope st) s.heap.objs.size f cdv)) →
      DSs (cxOf (L2.CX P w) P w K mg base N qual (defScope st) f cdv A outer s H E) ax (fun cls d _ H' => E cls d H') (defBody st) b) (hA : ax.A = fun _ _ => False) (hL : ax.R = [] := by rfl) :
    FnOk P w K mg base (L2.CX P w) (k + 1) f fd ps (spD ⟨⟨K, w⟩, ax.ec, ax.A, []⟩ (mDef N.length ps.length b)) := by
  refine F0.okX S (fun vs H Q E h => ?_) (fun cdv A outer s H vs Q E hr h => ?_)
  · obtain ⟨G, ss, gh, r, q⟩ := h
    have hl := ArgsR.length r
    unfold mDef at q
    split at q
    · rename_i z; rw [← hl]; exact z
    · exact q.elim
  · obtain ⟨t, p, snd⟩ := hbody cdv A outer s H E hr
    obtain ⟨G, ss, gh, r, q⟩ := h
    refine ⟨t, p, ?_⟩
    unfold mDef at q
    split at q
    · refine snd H G G H _ (start0 N.length ss) _ (start_ok (C := cn (cxOf (L2.CX P w) P w K mg base N qual (defScope st) f cdv A outer s H E) ax) hL gh r) ?_
      generalize b (start0 N.length ss) = o at q
      cases o with
      | nx δ' => exact fun σ' G' H' T => q .non G' H' T.end Rep.non
      | bk δ' => exact q.elim
      | ct δ' => exact q.elim
      | rt sl δ' => exact fun v σ' G' H' T => q v G' H' T.st.end T.res
      | ex x δ' => exact fun cls d σ' G' H' T rr => q cls d G' H' T.end rr
      | stuck => exact q.elim
    · exact q.elim
end
/-- arguments as slots: a value, or one's own thing lent to be read -/
def Slot.arg : Slot → Res Slot
  | .val d => .ok (.val d)
  | .own d => .ok (.val d)
  | .bor d => .ok (.bor d)
  | .bt t => .ok (.bt t)
  | _ => .stuck
theorem arg_noexc {s : Slot} {x : Exn} : s.arg ≠ .exc x := by cases s <;> (intro h; cases h)
def mANil : DEnv → Res (List Slot) := fun _ => .ok []
def mACons (m : ME) (n : DEnv → Res (List Slot)) : DEnv → Res (List Slot) := fun δ => (m δ).bind fun s => s.arg.bind fun s => (n δ).bind fun ss => .ok (s :: ss)
theorem ArgR.mono {K : Kw} {G H G' H' : Hp} (g : Same G G') (h : Same H H') {s : Slot} {v : V} (r : ArgR K G H s v) : ArgR K G' H' s v := by
  cases s with
  | val d => exact Rep.mono g r
  | own d => exact r.elim
  | bor d => obtain ⟨b, e, t⟩ := r; exact ⟨b, e, t.mono g h⟩
  | tr t => exact r.elim
  | bt t => obtain ⟨fp, o⟩ := r; exact ⟨fp, o.mono g h⟩
  | exn x => exact r.elim
theorem ArgsR.mono {K : Kw} {G H G' H' : Hp} (g : Same G G') (h : Same H H') : ∀ {ss : List Slot} {vs : List V}, ArgsR K G H ss vs → ArgsR K G' H' ss vs
  | _, _, .nil => .nil
  | s :: _, _, .cons r t => .cons (r.mono g h) (ArgsR.mono g h t)
theorem ResF.arg {K : Kw} {G H G1 H1 : Hp} {s s' : Slot} {v : V} {P : Hp → Prop} (st : Stp G H G1 H1) (h : ResF K H G1 H1 s v) (e : s.arg = .ok s') (k : ∀ G2 H2, Stp G H G2 H2 → ArgR K G2 H2 s' v → P H2) : Frz H1 v P := by
  cases s with
  | val d => cases e; exact .inl (k G1 H1 st h)
  | own d =>
    cases e
    exact ResF.vl (d := d) st h rfl fun G2 H2 s2 _ r => k G2 H2 s2 r
  | bor d => cases e; exact .inl (k G1 H1 st h)
  | tr d => cases e
  | bt t => cases e; exact .inl (k G1 H1 st h)
  | exn x => cases e
theorem das_nil : DAS X a W [] mANil := ⟨_, pa_nil, fun B G0 G H σ δ S Q hq => hq [] G H (Stp.refl S.gh) .nil⟩
theorem das_cons {m : ME} {n : DEnv → Res (List Slot)} (h : DE X a W e m) (k : DAS X a W es n) (hs : starEach (e :: es) X.env = (false, eval e X.env) :: starEach es X.env := by rfl) : DAS X a W (e :: es) (mACons m n) := by
  obtain ⟨t, p, s⟩ := h
  obtain ⟨u, q, z⟩ := k
  refine ⟨_, pa_cons (pe_lk p) q hs, ?_⟩
  intro B G0 G H σ δ S Q hq
  refine s B G0 G H σ δ S _ ?_
  have hq' : ROk (cn X a) W σ G H (relS X.kw H) ((m δ).bind fun s => s.arg.bind fun s => (n δ).bind fun ss => .ok (s :: ss)) Q := hq
  generalize m δ = r at hq'
  cases r with
  | stuck => exact hq'.elim
  | exc x => exact hq'
  | ok sl =>
    intro v G1 H1 st1 r1
    have hq2 : ROk (cn X a) W σ G H (relS X.kw H) (sl.arg.bind fun s => (n δ).bind fun ss => .ok (s :: ss)) Q := hq'
    cases ea : sl.arg with
    | stuck => rw [ea] at hq2; exact hq2.elim
    | exc x => exact (arg_noexc ea).elim
    | ok s' =>
      rw [ea] at hq2
      refine ResF.arg st1 r1 ea fun G2 H2 st2 r2 => z B G0 G2 H2 σ δ (S.step st2) _ ?_
      have hq3 : ROk (cn X a) W σ G H (relS X.kw H) ((n δ).bind fun ss => .ok (s' :: ss)) Q := hq2
      generalize n δ = rn at hq3
      cases rn with
      | stuck => exact hq3.elim
      | exc x => exact fun cls d G3 H3 s3 r => hq3 cls d G3 H3 (st2.trans s3) r
      | ok ss =>
        intro vs G3 H3 st3 r3
        refine hq3 (v :: vs) G3 H3 (st2.trans st3) (.cons ?_ r3)
        have := ArgsR.mono (K := X.kw) st3.g st3.h (ss := [s']) (vs := [v]) (.cons r2 .nil)
        cases this with
        | cons h _ => exact h
def mCall (f : F) (m : DEnv → Res (List Slot)) : ME := fun δ => (m δ).bind f
theorem de_call {x : Str} {f : F} {k : Nat} {fa : Addr} {fd : FuncData} {ps : List Str} {p : Pos} {m : DEnv → Res (List Slot)} (F0 : FnOk X.prog X.w X.K X.mg X.base (L2.CX X.prog X.w) k fa fd ps (spD ⟨X.kw, a.ec, fun _ _ => False, []⟩ f)) (hr : Room k X.A) (hg : Gl X x) (hm : X.mg x = some (.ref fa))
    (hk : PySem.W.keepIn X.K (.ref fa) = true) (hb : Binds X.K fd ps []) (tk : Takes X W) (h : DAS X a W (e :: es) m) (hdb : (x == ("__debug__" : Str)) = false := by decide) (he : starEach (e :: es) X.env = (false, eval e X.env) :: starEach es X.env := by rfl)
    (hpl : (backTo pos (starEach es X.env)).any (·.1) = false := by rfl) : DE X a W (.Call (.Name x p) (e :: es) [] pos) (mCall f m) := by
  obtain ⟨t, pa, s⟩ := h
  refine ⟨_, pe_callS F0 hr hg hm hk hb (fun σ => passAt tk σ) pa hdb he hpl, ?_⟩
  intro B G0 G H σ δ S Q hq
  refine s B G0 G H σ δ S _ ?_
  have hq' : ROk (cn X a) W σ G H (relE X.kw H) ((m δ).bind f) Q := hq
  generalize m δ = r at hq'
  cases r with
  | stuck => exact hq'.elim
  | exc x => exact hq'
  | ok ss =>
    intro vs G1 H1 st1 r1
    refine ⟨G1, ss, st1.gh, r1, ?_⟩
    have hq2 : ROk (cn X a) W σ G H (relE X.kw H) (f ss) Q := hq'
    generalize f ss = rf at hq2
    cases rf with
    | stuck => exact hq2.elim
    | exc x => exact fun cls d G2 H2 s2 r => hq2 cls d G2 H2 (st1.trans s2) r
    | ok sl => exact fun v G2 H2 s2 r => hq2 v G2 H2 (st1.trans s2) (ResF.mono0 st1.h r)
/-! ### 6. refusals -/
def mRaise (x : Exn) : MS := fun δ => .ex x δ
/-- raise X('..'), X without fields -/
theorem ds_raise {x : Str} {c : EC} {ms : Str} {j : Nat} {p p2 pos' : Pos} (hc : X.calm = true) (tk : Takes X W) (xP : PySem.W.excIn X.K (a.ec c) [.type "ValueError", .type "Exception", .type "BaseException", .type "object"] "ValueError.__new__" = true)
    (gC : X.mg x = some (.ref (a.ec c))) (kC : PySem.W.keepIn X.K (.ref (a.ec c)) = true) (r : Raises X (.ref (a.ec c))) (hg : Gl X x) (hdb : (x == ("__debug__" : Str)) = false := by decide) :
    DS X a W (.Raise (some (.Call (.Name x p) [.Constant (.str ms) j p2] [] pos)) none pos') (mRaise ⟨c, []⟩) :=
  ⟨_, ps_raise hc tk (pmk_own PySem.F.excBase_ValueError xP gC kC r hg hdb), fun B G0 G H σ δ D S q => q _ _ σ G H S ⟨rfl, rfl⟩⟩
end
end DL
/-! DLd: operators and built-ins over data -/
namespace DL
open PySem L2
/-! ### 1. what a readable value is -/
section
variable {K : Kw} {G H : Hp} {v : V}
theorem rdr_int {i : Int} (h : RdR K G H v (.int i)) : v = .int i := by
  rcases h with h | ⟨a, _, t⟩
  · cases h; rfl
  · exact t.elim
theorem rdr_bool {b : Bool} (h : RdR K G H v (.bool b)) : v = .bl b := by
  rcases h with h | ⟨a, _, t⟩
  · cases h; rfl
  · exact t.elim
theorem rdr_str {x : Str} (h : RdR K G H v (.str x)) : v = .str x := by
  rcases h with h | ⟨a, _, t⟩
  · cases h; rfl
  · exact t.elim
theorem rdr_none (h : RdR K G H v .none) : v = .non := by
  rcases h with h | ⟨a, _, t⟩
  · cases h; rfl
  · exact t.elim
theorem rdr_list {ds : List PyData} (g : Same G H) (h : RdR K G H v (.list ds)) : ∃ a xs, v = .ref a ∧ SqL K H a xs ∧ RepL K G xs ds := by
  rcases h with h | ⟨a, e, t⟩
  · cases h with
    | lst q r => exact ⟨_, _, rfl, sqL_mono g q, r⟩
  · obtain ⟨xs, q, r⟩ := t; exact ⟨a, xs, e, .inl (.inl q), r⟩
theorem rdr_tup {ds : List PyData} (g : Same G H) (h : RdR K G H v (.tuple ds)) : ∃ a xs, v = .ref a ∧ SqT K H a xs ∧ RepL K G xs ds := by
  rcases h with h | ⟨a, e, t⟩
  · cases h with
    | tup q r => exact ⟨_, _, rfl, sqT_mono g q, r⟩
  · exact t.elim
theorem rdr_dict {ds : List (PyData × PyData)} (g : Same G H) (h : RdR K G H v (.dict ds)) : ∃ a, v = .ref a ∧ ((∃ l, Rd H a (.dK l) ∧ RepK K G l ds) ∨ ∃ l, Rd H a (dnO K.w a l) ∧ l.length ≤ sizeLine ∧ RepN K G l ds) := by
  rcases h with h | ⟨a, e, t⟩
  · cases h with
    | dk q r => exact ⟨_, rfl, .inl ⟨_, .inr ⟨_, g _ _ q⟩, r⟩⟩
    | dn q hl r => exact ⟨_, rfl, .inr ⟨_, .inr ⟨_, g _ _ q⟩, hl, r⟩⟩
  · rcases t with ⟨l, q, r⟩ | ⟨l, q, hl, r⟩
    · exact ⟨a, e, .inl ⟨l, .inl q, r⟩⟩
    · exact ⟨a, e, .inr ⟨l, .inl q, hl, r⟩⟩
mutual
theorem rep_dp (g : Same G H) : ∀ {d : PyData} {v : V}, d.canLay0 = true → Rep K G v d → Dp K H v d
  | .none, _, _, .non => .non
  | .bool _, _, _, .bl b => .bl b
  | .int _, _, _, .int i => .int i
  | .str _, _, _, .str x => .str x
  | .list ds, _, c, .lst h r => .lst (sqL_mono g h) (repL_dp g (by simpa [PyData.canLay0] using c) r)
  | .tuple ds, _, c, .tup h r => .tup (sqT_mono g h) (repL_dp g (by simpa [PyData.canLay0] using c) r)
  | .dict _, _, c, _ => by simp [PyData.canLay0] at c
theorem repL_dp (g : Same G H) : ∀ {ds : List PyData} {vs : List V}, PyData.canLayAll0 ds = true → RepL K G vs ds → DpAll K H vs ds
  | [], _, _, .nil => .nil
  | d :: ds, _, c, .cons h r => by
    have c' : d.canLay0 = true ∧ PyData.canLayAll0 ds = true := by simpa [PyData.canLayAll0] using c
    exact .cons (rep_dp g c'.1 h) (repL_dp g c'.2 r)
end
theorem rdr_dp {d : PyData} (g : Same G H) (c : d.canLay0 = true) (h : RdR K G H v d) : Dp K H v d := by
  rcases h with h | ⟨a, e, t⟩
  · exact rep_dp g c h
  · subst e
    cases d with
    | list ds => obtain ⟨xs, q, r⟩ := t; exact .lst (.inl (.inl q)) (repL_dp g (by simpa [PyData.canLay0] using c) r)
    | dict ds => simp [PyData.canLay0] at c
    | none => exact t.elim
    | bool _ => exact t.elim
    | int _ => exact t.elim
    | str _ => exact t.elim
    | tuple _ => exact t.elim
/-- the built-in type of data -/
def tyD : PyData → String
  | .none => "NoneType"
  | .bool _ => "bool"
  | .int _ => "int"
  | .str _ => "str"
  | .list _ => "list"
  | .tuple _ => "tuple"
  | .dict _ => "dict"
theorem sqL_ty {a : Addr} {xs : List V} (h : SqL K H a xs) : TyX K H (.ref a) (.type "list") := by
  rcases h with (h | ⟨o, h⟩) | ⟨o, its, n, h, hc, _⟩
  · exact .base (.lst h)
  · exact .base (.frz h)
  · exact .kList h hc
theorem sqT_ty {a : Addr} {xs : List V} (h : SqT K H a xs) : TyX K H (.ref a) (.type "tuple") := by
  rcases h with (h | ⟨o, h⟩) | ⟨o, its, n, h, hc, _⟩
  · exact .base (.tup h)
  · exact .fTuple h
  · exact .kTuple h hc
/-- .. of a dict with tuple keys, too -/
def TyD (K : Kw) (H : Hp) (v : V) (t : Value) : Prop := TyX K H v t ∨ ∃ a l, v = .ref a ∧ t = .type "dict" ∧ Rd H a (dnO K.w a l)
theorem rdr_ty {d : PyData} (g : Same G H) (h : RdR K G H v d) : TyD K H v (.type (tyD d)) := by
  cases d with
  | none => cases rdr_none h; exact .inl (.base .non)
  | bool b => cases rdr_bool h; exact .inl (.base (.bl _))
  | int i => cases rdr_int h; exact .inl (.base (.int _))
  | str x => cases rdr_str h; exact .inl (.base (.str _))
  | list ds => obtain ⟨a, xs, e, q, _⟩ := rdr_list g h; subst e; exact .inl (sqL_ty q)
  | tuple ds => obtain ⟨a, xs, e, q, _⟩ := rdr_tup g h; subst e; exact .inl (sqT_ty q)
  | dict ds =>
    obtain ⟨a, e, q⟩ := rdr_dict g h
    subst e
    rcases q with ⟨l, q, _⟩ | ⟨l, q, _⟩
    · rcases q with q | ⟨o, q⟩
      · exact .inl (.base (.dK q))
      · exact .inl (.fDict q)
    · exact .inr ⟨a, l, rfl, rfl, q⟩
end
/-- what stands where a dict with tuple keys stands -/
theorem dn_of {P : Program} {w : World} {H : Hp} {h : Heap} {a : Addr} {l : List (NestedKey × Addr × V)} (ok : HOk P w H h) (e : Rd H a (dnO w a l)) : dnOk w a l h := (show ObjOk P w H h a (dnO w a l) from e.ok ok).1
def rIsiD (K : Kw) : List V → Hp → VK → Prop := fun xs H Q => ∃ (x c : V) (t u : Value) (b : Bool), xs = [x, c] ∧ ClsV c u ∧ TyD K H x t ∧ PySem.W.kitOne K t u = some b ∧ Q (.bl b) H
theorem call_isiD {X : Cx} : CallR X (.builtin "isinstance") (rIsiD X.kw) := by
  intro pins s σ H xs us Q I r h
  obtain ⟨x, c, t, u, b, rfl, k, ty, e, q⟩ := h
  obtain ⟨u1, u2, rfl, r1, r2⟩ := vals2 r
  have e2 := k.eq r2
  subst e2
  rcases ty with ty | ⟨a, l, rfl, rfl, ha⟩
  · obtain ⟨P, Z, p, hx⟩ := kit_of I r1 ty
    exact PySem.W.kia_one Z I.kIn p e hx fun tk => ⟨.bl b, H, I.tok tk, rfl, q⟩
  · cases (show u1 = Value.ref a from r1)
    obtain ⟨_, xs, o, es, ep, _, ho, hc, _⟩ := dn_of I.hok ha
    exact PySem.W.kia_one PySem.W.kitx_dict I.kIn ⟨o, ho, hc.1⟩ e (fun z => nomatch z) fun tk => ⟨.bl b, H, I.tok tk, rfl, q⟩
/-! ### 2. operators -/
def okV (d : PyData) : Res Slot := .ok (.val d)
def okI (i : Int) : Res Slot := .ok (.val (.int i))
def okB (b : Bool) : Res Slot := .ok (.val (.bool b))
/-- a new list, a new tuple at the end of a rule -/
theorem new_list {K : Kw} {G H : Hp} {xs : List V} {ds : List PyData} {Q : VK} (g : Same G H) (r : RepL K G xs ds) (h : ∀ v G' H', Stp G H G' H' → ResF K H G' H' (.own (.list ds)) v → Q v H') : ∀ p, H p = none → Q (.ref p) (upd H p (.lst xs)) :=
  fun p hp => h _ _ _ (Stp.newH g hp) ⟨p, rfl, g.free hp, hp, xs, upd_same, r⟩
theorem new_tup {K : Kw} {G H : Hp} {xs : List V} {ds : List PyData} {Q : VK} (g : Same G H) (r : RepL K G xs ds) (h : ∀ v G' H', Stp G H G' H' → ResF K H G' H' (.val (.tuple ds)) v → Q v H') : ∀ p, H p = none → Q (.ref p) (upd H p (.tup xs)) :=
  fun p hp => h _ _ _ (Stp.new g hp) (Rep.tup (.inl (.inl upd_same)) (r.mono (Stp.new g hp).g))
section
variable {X : Cx}
/-- list + list, any that are read -/
def rCatG (K : PySem.W.Frag) : R2 := fun x y H Q => ∃ a b xs ys, x = .ref a ∧ y = .ref b ∧ SqL K H a xs ∧ SqL K H b ys ∧ xs.length + ys.length ≤ sizeLine ∧ ∀ p, H p = none → Q (.ref p) (upd H p (.lst (xs ++ ys)))
theorem op_catG : OpR X (binaryOp .Add) (rCatG X.K) := by
  intro pins s σ H x y v u Q I rx ry h
  obtain ⟨a, b, xs, ys, rfl, rfl, ha, hb, hz, q⟩ := h
  cases rx
  cases ry
  obtain ⟨its, r1, ⟨⟨cls, dd, data, sl⟩, n, ho, hc, _, hd⟩, _⟩ := I.list ha
  obtain ⟨its2, r2, ⟨⟨cls2, dd2, data2, sl2⟩, n2, ho2, hc2, _, hd2⟩, _⟩ := I.list hb
  simp only at hc hd hc2 hd2
  subst hc hd hc2 hd2
  have l1 := r1.length
  have l2 := r2.length
  have e : its.toArray ++ its2.toArray = (its ++ its2).toArray := by simp
  refine concat_meets ⟨_, ho, rfl⟩ ⟨_, ho2, rfl⟩ noFill_list_add seq_list_add PySem.F.slot_list_add PySem.F.entry_list_add (PySem.F.args_list_add_2 _ _) (PyProof.Rows.list_addW a b its.toArray its2.toArray n n2 dd dd2 sl sl2 (by simp only [List.size_toArray]; omega)) ⟨ho, ho2, ?_⟩
  rw [e]
  exact ⟨.ref _, _, I.lnew (t' := s.toks) (r1.append r2) (by rw [List.length_append]; omega), rfl, q _ I.fresh⟩
def addF : PyData → PyData → Res Slot
  | .int i, .int j => okI (i + j)
  | .str x, .str y => if x.length + y.length ≤ sizeLine then okV (.str (x ++ y)) else .stuck
  | .list x, .list y => if x.length + y.length ≤ sizeLine then .ok (.own (.list (x ++ y))) else .stuck
  | .tuple x, .tuple y => if x.length + y.length ≤ sizeLine then okV (.tuple (x ++ y)) else .stuck
  | _, _ => .stuck
def rAddD (K : PySem.W.Frag) : R2 := fun x y H Q => rI0 (fun i j => .int (i + j)) x y H Q ∨ ((∃ i j, x = .str i ∧ y = .str j ∧ i.length + j.length ≤ sizeLine ∧ Q (.str (i ++ j)) H) ∨ (rCatG K x y H Q ∨ rCatA K x y H Q))
theorem op_addD : OpR X (binaryOp .Add) (rAddD X.K) := op_add.or (op_add_str.or (op_catG.or op_catA))
theorem addF_ok {K : Kw} : OpS K (rAddD K) addF := by
  intro G H x y d e s Q g rx ry ef q
  unfold addF at ef
  split at ef
  · cases ef
    cases rdr_int rx; cases rdr_int ry
    exact .inl ⟨_, _, rfl, rfl, q _ G H (Stp.refl g) (Rep.int _)⟩
  · split at ef
    · rename_i hz
      cases ef
      cases rdr_str rx; cases rdr_str ry
      exact .inr (.inl ⟨_, _, rfl, rfl, hz, q _ G H (Stp.refl g) (Rep.str _)⟩)
    · cases ef
  · split at ef
    · rename_i hz
      cases ef
      obtain ⟨a, xs, e1, q1, r1⟩ := rdr_list g rx
      obtain ⟨b, ys, e2, q2, r2⟩ := rdr_list g ry
      exact .inr (.inr (.inl ⟨a, b, xs, ys, e1, e2, q1, q2, by rw [r1.length, r2.length]; exact hz, new_list g (r1.append r2) q⟩))
    · cases ef
  · split at ef
    · rename_i hz
      cases ef
      obtain ⟨a, xs, e1, q1, r1⟩ := rdr_tup g rx
      obtain ⟨b, ys, e2, q2, r2⟩ := rdr_tup g ry
      refine .inr (.inr (.inr ⟨a, b, xs, ys, e1, e2, q1, q2, by rw [r1.length, r2.length]; exact hz, fun h => ?_, fun h1 h2 => ?_, fun h1 h2 => new_tup g (r1.append r2) q⟩))
      · subst h
        cases r1
        rcases ry with ry | ⟨c, _, t⟩
        · subst e2; exact q _ G H (Stp.refl g) ry
        · exact t.elim
      · subst h2
        cases r2
        rcases rx with rx | ⟨c, _, t⟩
        · subst e1; rw [List.append_nil] at q; exact q _ G H (Stp.refl g) rx
        · exact t.elim
    · cases ef
  · cases ef
theorem addF_ne : NoExc addF := fun d e x => by
  unfold addF
  split <;> (try split) <;> (intro h; cases h)
def subF : PyData → PyData → Res Slot
  | .int i, .int j => okI (i - j)
  | _, _ => .stuck
theorem subF_ok {K : Kw} : OpS K (rI0 fun i j => .int (i - j)) subF := by
  intro G H x y d e s Q g rx ry ef q
  unfold subF at ef
  split at ef
  · cases ef
    cases rdr_int rx; cases rdr_int ry
    exact ⟨_, _, rfl, rfl, q _ G H (Stp.refl g) (Rep.int _)⟩
  · cases ef
theorem subF_ne : NoExc subF := fun d e x => by
  unfold subF
  split <;> (intro h; cases h)
/-- products: the model's own line -/
theorem op_mulA : OpR X (binaryOp .Mult) (rI IntMulOk fun i j => .int (i * j)) := opI fun _ _ _ _ _ _ _ hc q => PyProof.Rows.mul_int q hc
instance (i j : Int) : Decidable (IntMulOk i j) := by unfold IntMulOk; infer_instance
/-- list * n, any list that is read -/
def rRepG (K : PySem.W.Frag) : R2 := fun x y H Q => ∃ a k xs, x = .ref a ∧ y = .int k ∧ H a = some (.lst xs) ∧ -(2 ^ 63) ≤ k ∧ k < 2 ^ 63 ∧ xs.length * k.toNat ≤ sizeLine ∧ ∀ p, H p = none → Q (.ref p) (upd H p (.lst (List.replicate k.toNat xs).flatten))
def mulF : PyData → PyData → Res Slot
  | .int i, .int j => if IntMulOk i j then okI (i * j) else .stuck
  | _, _ => .stuck
theorem mulF_ok {K : Kw} : OpS K (rI IntMulOk fun i j => .int (i * j)) mulF := by
  intro G H x y d e s Q g rx ry ef q
  unfold mulF at ef
  split at ef
  · split at ef
    · rename_i hz
      cases ef
      cases rdr_int rx; cases rdr_int ry
      exact ⟨_, _, rfl, rfl, hz, q _ G H (Stp.refl g) (Rep.int _)⟩
    · cases ef
  · cases ef
theorem mulF_ne : NoExc mulF := fun d e x => by
  unfold mulF
  split <;> (try split) <;> (intro h; cases h)
def CDivA (i j : Int) : Prop := j ≠ 0 ∧ Builtin.divisionGoesByPylong i j = false
instance (i j : Int) : Decidable (CDivA i j) := by unfold CDivA; infer_instance
theorem op_fdivA : OpR X (binaryOp .FloorDiv) (rI CDivA fun i j => .int (i.fdiv j)) := opI fun _ _ _ _ _ _ _ hc q => PyProof.Rows.floordiv_int hc.1 q (.inl hc.2)
def divF : PyData → PyData → Res Slot
  | .int i, .int j => if CDivA i j then okI (i.fdiv j) else .stuck
  | _, _ => .stuck
theorem divF_ok {K : Kw} : OpS K (rI CDivA fun i j => .int (i.fdiv j)) divF := by
  intro G H x y d e s Q g rx ry ef q
  unfold divF at ef
  split at ef
  · split at ef
    · rename_i hz
      cases ef
      cases rdr_int rx; cases rdr_int ry
      exact ⟨_, _, rfl, rfl, hz, q _ G H (Stp.refl g) (Rep.int _)⟩
    · cases ef
  · cases ef
theorem divF_ne : NoExc divF := fun d e x => by
  unfold divF
  split <;> (try split) <;> (intro h; cases h)
def modF : PyData → PyData → Res Slot
  | .int i, .int j => if j ≠ 0 then okI (i.fmod j) else .stuck
  | _, _ => .stuck
theorem modF_ok {K : Kw} : OpS K (rI (fun _ j => j ≠ 0) fun i j => .int (i.fmod j)) modF := by
  intro G H x y d e s Q g rx ry ef q
  unfold modF at ef
  split at ef
  · split at ef
    · rename_i hz
      cases ef
      cases rdr_int rx; cases rdr_int ry
      exact ⟨_, _, rfl, rfl, hz, q _ G H (Stp.refl g) (Rep.int _)⟩
    · cases ef
  · cases ef
theorem modF_ne : NoExc modF := fun d e x => by
  unfold modF
  split <;> (try split) <;> (intro h; cases h)
instance (i j : Int) : Decidable (CPow i j) := by unfold CPow; infer_instance
def powF : PyData → PyData → Res Slot
  | .int i, .int j => if CPow i j then okI (i ^ j.toNat) else .stuck
  | _, _ => .stuck
theorem powF_ok {K : Kw} : OpS K (rI CPow fun i j => .int (i ^ j.toNat)) powF := by
  intro G H x y d e s Q g rx ry ef q
  unfold powF at ef
  split at ef
  · split at ef
    · rename_i hz
      cases ef
      cases rdr_int rx; cases rdr_int ry
      exact ⟨_, _, rfl, rfl, hz, q _ G H (Stp.refl g) (Rep.int _)⟩
    · cases ef
  · cases ef
theorem powF_ne : NoExc powF := fun d e x => by
  unfold powF
  split <;> (try split) <;> (intro h; cases h)
/-- == -/
def eqF (d e : PyData) : Res Slot := if SeqAt.shaped d = true ∧ SeqAt.shaped e = true then okB (PyData.eqv d e) else .stuck
def neF (d e : PyData) : Res Slot := if SeqAt.shaped d = true ∧ SeqAt.shaped e = true then okB (!PyData.eqv d e) else .stuck
theorem eqF_ok {K : Kw} : OpS K (rEqD K) eqF := by
  intro G H x y d e s Q g rx ry ef q
  unfold eqF at ef
  split at ef
  · rename_i hz
    cases ef
    exact ⟨d, e, rdr_dp g (SeqAt.canLay_of_shaped hz.1) rx, rdr_dp g (SeqAt.canLay_of_shaped hz.2) ry, hz.1, hz.2, q _ G H (Stp.refl g) (Rep.bl _)⟩
  · cases ef
theorem neF_ok {K : Kw} : OpS K (rNeD K) neF := by
  intro G H x y d e s Q g rx ry ef q
  unfold neF at ef
  split at ef
  · rename_i hz
    cases ef
    exact ⟨d, e, rdr_dp g (SeqAt.canLay_of_shaped hz.1) rx, rdr_dp g (SeqAt.canLay_of_shaped hz.2) ry, hz.1, hz.2, q _ G H (Stp.refl g) (Rep.bl _)⟩
  · cases ef
theorem eqF_ne : NoExc eqF := fun d e x => by
  unfold eqF
  split <;> (intro h; cases h)
theorem neF_ne : NoExc neF := fun d e x => by
  unfold neF
  split <;> (intro h; cases h)
/-- < <= > >= of ints -/
def cmpF (p : Int → Int → Bool) : PyData → PyData → Res Slot
  | .int i, .int j => okB (p i j)
  | _, _ => .stuck
theorem cmpF_ok {K : Kw} {p : Int → Int → Bool} : OpS K (rI0 fun i j => .bl (p i j)) (cmpF p) := by
  intro G H x y d e s Q g rx ry ef q
  unfold cmpF at ef
  split at ef
  · cases ef
    cases rdr_int rx; cases rdr_int ry
    exact ⟨_, _, rfl, rfl, q _ G H (Stp.refl g) (Rep.bl _)⟩
  · cases ef
theorem cmpF_ne {p : Int → Int → Bool} : NoExc (cmpF p) := fun d e x => by
  unfold cmpF
  split <;> (intro h; cases h)
abbrev ltF := cmpF fun i j => decide (i < j)
abbrev leF := cmpF fun i j => decide (i ≤ j)
abbrev gtF := cmpF fun i j => decide (j < i)
abbrev geF := cmpF fun i j => decide (j ≤ i)
/-- is, is not: None, True, False on the right -/
def rIsD : R2 := fun x y H Q => (y = .non ∧ Q (.bl (decide (x = .non))) H) ∨ rIsB x y H Q
def rIsNotD : R2 := fun x y H Q => (y = .non ∧ Q (.bl (!decide (x = .non))) H) ∨ rNotB x y H Q
theorem op_isD : OpR X (compareOp .Is) rIsD := op_isN.or op_isBl
theorem op_isNotD : OpR X (compareOp .IsNot) rIsNotD := op_notN.or op_notBl
def PyData.isNone : PyData → Bool
  | .none => true
  | _ => false
def isF (neg : Bool) : PyData → PyData → Res Slot
  | d, .none => okB (neg != PyData.isNone d)
  | .bool a, .bool b => okB (neg != decide (a = b))
  | _, _ => .stuck
theorem rdr_isNone {K : Kw} {G H : Hp} {v : V} {d : PyData} (g : Same G H) (h : RdR K G H v d) : decide (v = .non) = PyData.isNone d := by
  cases d with
  | none => cases rdr_none h; rfl
  | bool b => cases rdr_bool h; rfl
  | int i => cases rdr_int h; rfl
  | str x => cases rdr_str h; rfl
  | list ds => obtain ⟨a, xs, e, q, _⟩ := rdr_list g h; subst e; rfl
  | tuple ds => obtain ⟨a, xs, e, q, _⟩ := rdr_tup g h; subst e; rfl
  | dict ds => obtain ⟨a, e, q⟩ := rdr_dict g h; subst e; rfl
theorem isF_ok {K : Kw} : OpS K rIsD (isF false) := by
  intro G H x y d e s Q g rx ry ef q
  unfold isF at ef
  split at ef
  · cases ef
    cases rdr_none ry
    refine .inl ⟨rfl, q _ G H (Stp.refl g) ?_⟩
    rw [rdr_isNone g rx]
    simpa using (show ResF K H G H (.val (.bool (PyData.isNone d))) (.bl (PyData.isNone d)) from Rep.bl _)
  · cases ef
    cases rdr_bool rx; cases rdr_bool ry
    refine .inr ⟨_, _, rfl, rfl, q _ G H (Stp.refl g) ?_⟩
    simpa using (show ResF K H G H (.val (.bool (decide (_ = _)))) (.bl (decide (_ = _))) from Rep.bl _)
  · cases ef
theorem isNotF_ok {K : Kw} : OpS K rIsNotD (isF true) := by
  intro G H x y d e s Q g rx ry ef q
  unfold isF at ef
  split at ef
  · cases ef
    cases rdr_none ry
    refine .inl ⟨rfl, q _ G H (Stp.refl g) ?_⟩
    rw [rdr_isNone g rx]
    simpa using (show ResF K H G H (.val (.bool (!PyData.isNone d))) (.bl (!PyData.isNone d)) from Rep.bl _)
  · cases ef
    cases rdr_bool rx; cases rdr_bool ry
    refine .inr ⟨_, _, rfl, rfl, q _ G H (Stp.refl g) ?_⟩
    simpa using (show ResF K H G H (.val (.bool (!decide (_ = _)))) (.bl (!decide (_ = _))) from Rep.bl _)
  · cases ef
theorem isF_ne {neg : Bool} : NoExc (isF neg) := fun d e x => by
  unfold isF
  split <;> (intro h; cases h)
/-! ### 3. subscripts, slices -/
variable {a : Ax} {W : WX} {e e1 e2 e3 : Expr} {es : List Expr} {pos : Pos}
def ixF : PyData → PyData → Res Slot
  | .list ds, .int i => match atI ds i with
    | some d => okV d
    | none => .stuck
  | .tuple ds, .int i => match atI ds i with
    | some d => okV d
    | none => .stuck
  | .str z, .int i => if z.length ≤ sizeLine then (match atI z.cps.toList i with
    | some c => okV (.str ⟨#[c]⟩)
    | none => .stuck) else .stuck
  | _, _ => .stuck
theorem repL_at {K : Kw} {G : Hp} {xs : List V} {ds : List PyData} {i : Int} {d : PyData} (r : RepL K G xs ds) (h : atI ds i = some d) : ∃ v, atI xs i = some v ∧ Rep K G v d := by
  unfold atI at h ⊢
  rw [r.length]
  cases e : ixN ds.length i with
  | none => rw [e] at h; cases h
  | some j =>
    rw [e] at h
    exact r.get h
theorem ixF_ok {K : Kw} : OpS K (rIx K) ixF := by
  intro G H x y d e s Q g rx ry ef q
  unfold ixF at ef
  split at ef
  · split at ef
    · rename_i he
      cases ef
      cases rdr_int ry
      obtain ⟨a, xs, e1, q1, r1⟩ := rdr_list g rx
      obtain ⟨v, hv, rv⟩ := repL_at r1 he
      exact .inl ⟨a, xs, _, v, e1, rfl, q1, hv, q v G H (Stp.refl g) rv⟩
    · cases ef
  · split at ef
    · rename_i he
      cases ef
      cases rdr_int ry
      obtain ⟨a, xs, e1, q1, r1⟩ := rdr_tup g rx
      obtain ⟨v, hv, rv⟩ := repL_at r1 he
      exact .inr (.inl ⟨a, xs, _, v, e1, rfl, q1, hv, q v G H (Stp.refl g) rv⟩)
    · cases ef
  · split at ef
    · rename_i hz
      split at ef
      · rename_i he
        cases ef
        cases rdr_int ry
        cases rdr_str rx
        exact .inr (.inr ⟨_, _, _, rfl, rfl, hz, he, q _ G H (Stp.refl g) (Rep.str _)⟩)
      · cases ef
    · cases ef
  · cases ef
theorem ixF_ne : NoExc ixF := fun d e x => by
  unfold ixF
  split <;> (try split) <;> (try split) <;> (intro h; cases h)
/-- xs[i] of a list, a tuple, a text -/
theorem de_ix {ma mb : MD} (ha : DR X a W e1 ma) (hb : DR X a W e2 mb) (hs : PlainIx e2) : DE X a W (.Subscript e1 e2 pos) (mB ixF ma mb) :=
  let ⟨_, pa, sa⟩ := ha; let ⟨_, pb, sb⟩ := hb; ⟨_, pe_ix ix_seq pa pb hs, snd_op (C := cn X a) ixF_ok ixF_ne sa sb⟩
/-- parts of slices -/
abbrev relO : Hp → Hp → Hp → Option Int → Option Int → Prop := fun _ _ _ o p => o = p
def DO (X : Cx) (a : Ax) (W : WX) (e : Option Expr) (m : DEnv → Res (Option Int)) : Prop := ∃ t, PO X e t ∧ Snd (cn X a) W relO t m
def mO0 : DEnv → Res (Option Int) := fun _ => .ok none
def asI : PyData → Res (Option Int)
  | .int i => .ok (some i)
  | _ => .stuck
def mO (m : MD) : DEnv → Res (Option Int) := fun δ => (m δ).bind asI
theorem do_none : DO X a W none mO0 := ⟨_, po_none, fun B G0 G H σ δ S Q hq => hq none G H (Stp.refl S.gh) rfl⟩
theorem do_some {m : MD} (h : DR X a W e m) : DO X a W (some e) (mO m) := by
  obtain ⟨t, p, s⟩ := h
  refine ⟨_, po_some p, fun B G0 G H σ δ S Q hq => ?_⟩
  refine s B G0 G H σ δ S _ ?_
  have hq' : ROk (cn X a) W σ G H (relO H) ((m δ).bind asI) Q := hq
  generalize m δ = r at hq'
  cases r with
  | stuck => exact hq'.elim
  | exc x => exact hq'
  | ok d =>
    intro v G' H' st r
    have hq2 : ROk (cn X a) W σ G H (relO H) (asI d) Q := hq'
    unfold asI at hq2
    split at hq2
    · exact ⟨_, rdr_int r, hq2 _ G' H' st rfl⟩
    · exact hq2.elim
def cutD (xs : List PyData) (lo hi : Option Int) : List PyData := (xs.drop (HT.sIx xs.length 0 lo)).take (HT.sIx xs.length xs.length hi - HT.sIx xs.length 0 lo)
def slF (d : PyData) (lo hi : Option Int) : Res Slot := match d with
  | .list ds => .ok (.own (.list (cutD ds lo hi)))
  | .tuple ds => okV (.tuple (cutD ds lo hi))
  | .str z => if z.length ≤ sizeLine then okV (.str (cutS z lo hi)) else .stuck
  | _ => .stuck
theorem repL_cut {K : Kw} {G : Hp} {xs : List V} {ds : List PyData} (r : RepL K G xs ds) (lo hi : Option Int) : RepL K G (cutV xs lo hi) (cutD ds lo hi) := by
  unfold cutV cutD
  rw [r.length]
  exact (r.drop _).take _
def rSlD (K : PySem.W.Frag) : V → Option Int → Option Int → Hp → VK → Prop := fun x lo hi H Q => rSlL K x lo hi H Q ∨ (rSlA K x lo hi H Q ∨ rSlS x lo hi H Q)
theorem sl_D : L2.SlR X (rSlD X.K) := L2.SlR.or sl_list (L2.SlR.or sl_tupA sl_str)
theorem cutD_whole {ds : List PyData} {lo hi : Option Int} (h : HT.sIx ds.length 0 lo = 0 ∧ HT.sIx ds.length ds.length hi = ds.length) : cutD ds lo hi = ds := by
  unfold cutD
  rw [h.1, h.2]
  simp
theorem slF_ok {K : Kw} {G H : Hp} {x : V} {d : PyData} {lo hi : Option Int} {s : Slot} {Q : VK} (g : Same G H) (rx : RdR K G H x d) (ef : slF d lo hi = .ok s) (q : ∀ v G' H', Stp G H G' H' → ResF K H G' H' s v → Q v H') : rSlD K x lo hi H Q := by
  unfold slF at ef
  split at ef
  · cases ef
    obtain ⟨b, xs, e1, q1, r1⟩ := rdr_list g rx
    exact .inl ⟨b, xs, e1, q1, new_list g (repL_cut r1 lo hi) q⟩
  · cases ef
    obtain ⟨b, xs, e1, q1, r1⟩ := rdr_tup g rx
    refine .inr (.inl ⟨b, xs, e1, q1, fun hw => ?_, fun hw => new_tup g (repL_cut r1 lo hi) q⟩)
    rw [r1.length] at hw
    rw [cutD_whole hw] at q
    rcases rx with rx | ⟨c, _, t⟩
    · subst e1; exact q _ G H (Stp.refl g) rx
    · exact t.elim
  · split at ef
    · rename_i hz
      cases ef
      cases rdr_str rx
      exact .inr (.inr ⟨_, rfl, hz, q _ G H (Stp.refl g) (Rep.str _)⟩)
    · cases ef
  · cases ef
def mSl (m : MD) (ml mh : DEnv → Res (Option Int)) : ME := fun δ => (m δ).bind fun d => (ml δ).bind fun lo => (mh δ).bind fun hi => slF d lo hi
theorem slF_ne {d : PyData} {lo hi : Option Int} {x : Exn} : slF d lo hi ≠ .exc x := by
  unfold slF
  split <;> (try split) <;> (intro h; cases h)
theorem de_sl {m : MD} {ml mh : DEnv → Res (Option Int)} {lo hi : Option Expr} {p2 : Pos} (h : DR X a W e m) (hl : DO X a W lo ml) (hh : DO X a W hi mh) : DE X a W (.Subscript e (.Slice lo hi none p2) pos) (mSl m ml mh) := by
  obtain ⟨t, p, s⟩ := h
  obtain ⟨tl, pl, sl⟩ := hl
  obtain ⟨th, ph, sh⟩ := hh
  refine ⟨_, pe_slice sl_D p pl ph, ?_⟩
  intro B G0 G H σ δ S Q hq
  refine s B G0 G H σ δ S _ ?_
  have hq' : ROk (cn X a) W σ G H (relE X.kw H) ((m δ).bind fun d => (ml δ).bind fun lo => (mh δ).bind fun hi => slF d lo hi) Q := hq
  generalize m δ = r at hq'
  cases r with
  | stuck => exact hq'.elim
  | exc x => exact hq'
  | ok d =>
    intro x G1 H1 st1 rd
    rw [bind_ok] at hq'
    refine sl B G0 G1 H1 σ δ (S.step st1) _ ?_
    generalize ml δ = r at hq'
    cases r with
    | stuck => exact hq'.elim
    | exc x => exact fun cls d G2 H2 s2 r => hq' cls d G2 H2 (st1.trans s2) r
    | ok lo =>
      intro l G2 H2 st2 el
      cases el
      rw [bind_ok] at hq'
      refine sh B G0 G2 H2 σ δ ((S.step st1).step st2) _ ?_
      generalize mh δ = r at hq'
      cases r with
      | stuck => exact hq'.elim
      | exc x => exact fun cls d G3 H3 s3 r => hq' cls d G3 H3 ((st1.trans st2).trans s3) r
      | ok hi =>
        intro u G3 H3 st3 eu
        cases eu
        rw [bind_ok] at hq'
        have st := (st1.trans st2).trans st3
        cases ef : slF d lo hi with
        | stuck => rw [ef] at hq'; exact hq'.elim
        | exc z => exact (slF_ne ef).elim
        | ok sl =>
          rw [ef] at hq'
          exact slF_ok st.gh (rd.mono (st2.trans st3).g (st2.trans st3).h) ef fun v G4 H4 s4 r => hq' v G4 H4 (st.trans s4) (ResF.mono0 st.h r)
end
end DL
/-! DLk: dicts over data: keys are ints and texts, or tuples, nested as they are -/
namespace DL
open PySem L2
/-! ### 1. keys -/
mutual
def kN : PyData → NestedKey
  | .none => .none
  | .int i => .num i
  | .str x => .text x
  | .bool b => .num (if b then 1 else 0)
  | .tuple ds => .tup (kNs ds)
  | .list _ => .none
  | .dict _ => .none
def kNs : List PyData → List NestedKey
  | [] => []
  | d :: ds => kN d :: kNs ds
end
mutual
def isKey : PyData → Bool
  | .none => true
  | .int _ => true
  | .str _ => true
  | .tuple ds => isKeys ds
  | .bool _ => false
  | .list _ => false
  | .dict _ => false
def isKeys : List PyData → Bool
  | [] => true
  | d :: ds => isKey d && isKeys ds
end
mutual
theorem data_kN : ∀ k : NestedKey, kN k.data = k
  | .none => rfl
  | .num _ => rfl
  | .text _ => rfl
  | .tup ks => by show NestedKey.tup (kNs (NestedKey.datas ks)) = _; rw [datas_kN ks]
theorem datas_kN : ∀ ks : List NestedKey, kNs (NestedKey.datas ks) = ks
  | [] => rfl
  | k :: ks => by show kN k.data :: kNs (NestedKey.datas ks) = _; rw [data_kN k, datas_kN ks]
end
mutual
theorem kN_data : ∀ {d : PyData}, isKey d = true → (kN d).data = d
  | .none, _ => rfl
  | .int _, _ => rfl
  | .str _, _ => rfl
  | .tuple ds, h => by show PyData.tuple (NestedKey.datas (kNs ds)) = _; rw [kNs_data (by simpa [isKey] using h)]
  | .bool _, h => by cases h
  | .list _, h => by cases h
  | .dict _, h => by cases h
theorem kNs_data : ∀ {ds : List PyData}, isKeys ds = true → NestedKey.datas (kNs ds) = ds
  | [], _ => rfl
  | d :: ds, h => by
    have h' : isKey d = true ∧ isKeys ds = true := by simpa [isKeys] using h
    show (kN d).data :: NestedKey.datas (kNs ds) = _
    rw [kN_data h'.1, kNs_data h'.2]
end
def isTup : PyData → Bool
  | .tuple _ => true
  | _ => false
def flatKey : PyData → Bool
  | .int _ => true
  | .str _ => true
  | _ => false
def okKey (d : PyData) : Bool := (flatKey d || (isTup d && isKey d)) && decide ((kN d).depth ≤ 8)
/-- a dict's keys are all of the kind of k -/
def kindOk (ds : List (PyData × PyData)) (k : PyData) : Bool := ds.all fun p => isTup p.1 == isTup k
def dgetN (ds : List (PyData × PyData)) (k : NestedKey) : Option PyData := (ds.find? fun p => decide (kN p.1 = k)).map (·.2)
def dget (ds : List (PyData × PyData)) (k : PyData) : Option PyData := dgetN ds (kN k)
def dput (ds : List (PyData × PyData)) (k v : PyData) : List (PyData × PyData) := if (dget ds k).isSome then ds.map (fun p => if kN p.1 = kN k then (p.1, v) else p) else ds ++ [(k, v)]
def ddel (ds : List (PyData × PyData)) (k : PyData) : List (PyData × PyData) := ds.filter fun p => decide (kN p.1 ≠ kN k)
def kK : Key → NestedKey
  | .inl i => .num i
  | .inr x => .text x
theorem kN_keyD (k : Key) : kN (keyD k) = kK k := by cases k <;> rfl
theorem kK_inj {j k : Key} : kK j = kK k ↔ j = k := by
  cases j <;> cases k <;> simp [kK]
theorem flat_key {d : PyData} (h : flatKey d = true) : ∃ k : Key, d = keyD k := by
  cases d with
  | int i => exact ⟨.inl i, rfl⟩
  | str x => exact ⟨.inr x, rfl⟩
  | none => cases h
  | bool _ => cases h
  | list _ => cases h
  | tuple _ => cases h
  | dict _ => cases h
/-! ### 2. how they are borne -/
def DcV (K : Kw) (G H : Hp) (a : Addr) (ds : List (PyData × PyData)) : Prop := (∃ l, Rd H a (.dK l) ∧ RepK K G l ds) ∨ ∃ l, Rd H a (dnO K.w a l) ∧ l.length ≤ sizeLine ∧ RepN K G l ds
theorem DcV.mono {K : Kw} {G H G' H' : Hp} {a : Addr} {ds : List (PyData × PyData)} (g : Same G G') (h : Same H H') (d : DcV K G H a ds) : DcV K G' H' a ds := by
  rcases d with ⟨l, e, r⟩ | ⟨l, e, z, r⟩
  · exact .inl ⟨l, rd_mono h e, r.mono g⟩
  · exact .inr ⟨l, rd_mono h e, z, r.mono g⟩
theorem Top.dv {K : Kw} {G H : Hp} {a : Addr} {ds : List (PyData × PyData)} (t : Top K G H a (.dict ds)) : DcV K G H a ds := by
  rcases t with ⟨l, e, r⟩ | ⟨l, e, z, r⟩
  · exact .inl ⟨l, .inl e, r⟩
  · exact .inr ⟨l, .inl e, z, r⟩
abbrev PX : List (NestedKey × Addr × V) → List (NestedKey × Addr × Value) → Prop := Paired fun p q => p.1 = q.1 ∧ p.2.1 = q.2.1 ∧ RelV p.2.2 q.2.2
def lval (l : List (NestedKey × Addr × V)) (k : NestedKey) : Option V := (l.find? fun x => decide (x.1 = k)).map fun x => x.2.2
theorem PX.val : ∀ {l : List (NestedKey × Addr × V)} {xs : List (NestedKey × Addr × Value)}, PX l xs → ∀ k, RelO (lval l k) ((atKey xs k).map (·.2))
  | _, _, .nil, k => True.intro
  | _, _, .cons (a := p) (b := q) r t, k => by
    have ih := PX.val t k
    obtain ⟨e1, e2, e3⟩ := r
    by_cases h : q.1 = k
    · have h' : p.1 = k := e1.trans h
      have a1 : ∀ r, lval (p :: r) k = some p.2.2 := fun r => by simp [lval, List.find?_cons, h']
      have a2 : ∀ r, (atKey (q :: r) k).map (·.2) = some q.2.2 := fun r => by simp [atKey, List.find?_cons, h]
      rw [a1, a2]
      exact e3
    · have h' : ¬ p.1 = k := fun z => h (e1.symm.trans z)
      simpa [lval, atKey, List.find?_cons, h, h'] using ih
theorem RepN.val {K : Kw} {G : Hp} : ∀ {l : List (NestedKey × Addr × V)} {ds : List (PyData × PyData)}, RepN K G l ds → ∀ k, (dgetN ds k = none ∧ lval l k = none) ∨ ∃ d v, dgetN ds k = some d ∧ lval l k = some v ∧ Rep K G v d
  | _, _, .nil, k => .inl ⟨rfl, rfl⟩
  | _, _, .cons (k := j) (kd := kd) e rk r t, k => by
    have ih := RepN.val t k
    have ej : kN kd = j := by rw [e]; exact data_kN j
    by_cases h : j = k
    · exact .inr ⟨_, _, by simp [dgetN, List.find?_cons, ej, h], by simp [lval, List.find?_cons, h], r⟩
    · simpa [dgetN, lval, List.find?_cons, ej, h] using ih
theorem RepK.val {K : Kw} {G : Hp} : ∀ {l : List (Key × V)} {ds : List (PyData × PyData)}, RepK K G l ds → ∀ k : Key, (dgetN ds (kK k) = none ∧ valV l k = none) ∨ ∃ d v, dgetN ds (kK k) = some d ∧ valV l k = some v ∧ Rep K G v d
  | _, _, .nil, k => .inl ⟨rfl, rfl⟩
  | _, _, .cons (k := j) r t, k => by
    have ih := RepK.val t k
    have ej : kN (keyD j) = kK j := kN_keyD j
    by_cases h : j = k
    · subst h; exact .inr ⟨_, _, by simp [dgetN, List.find?_cons, ej], by simp [valV, List.find?_cons], r⟩
    · have h' : ¬ kK j = kK k := fun z => h (kK_inj.mp z)
      simpa [dgetN, valV, List.find?_cons, ej, h, h'] using ih
section
variable {X : Cx} {pins : List (Addr × Obj)} {σ : St} {H G : Hp} {s : Shared}
mutual
theorem key_is (I : Inv X pins σ H s) (g : Same G H) : ∀ (k : NestedKey) {v : V} {u : Value}, Rep X.kw G v k.data → RelV v u → NestedIs s.heap k u
  | .none, v, u, r, ru => by
    have r' : Rep X.kw G v .none := r
    cases r'; cases (show u = Value.none from ru); exact .none
  | .num i, v, u, r, ru => by
    have r' : Rep X.kw G v (.int i) := r
    cases r'; obtain ⟨t, rfl⟩ := (show ∃ t, u = Value.int i t from ru); exact .int i t
  | .text x, v, u, r, ru => by
    have r' : Rep X.kw G v (.str x) := r
    cases r'; obtain ⟨t, rfl⟩ := (show ∃ t, u = Value.str x t from ru); exact .text x t
  | .tup ks, v, u, r, ru => by
    have r' : Rep X.kw G v (.tuple (NestedKey.datas ks)) := r
    cases r' with
    | tup h rs =>
      cases (show u = Value.ref _ from ru)
      obtain ⟨its, rv, ⟨o, h1, h2, n, h3⟩, _⟩ := I.tuple (sqT_mono g h)
      exact .tup h1 h2 h3 (by simpa using keys_is I g ks rs rv)
theorem keys_is (I : Inv X pins σ H s) (g : Same G H) : ∀ (ks : List NestedKey) {vs : List V} {us : List Value}, RepL X.kw G vs (NestedKey.datas ks) → Vals vs us → NestedAll s.heap ks us
  | [], vs, us, r, ru => by
    have r' : RepL X.kw G vs [] := r
    cases r'; cases ru; exact .nil
  | k :: ks, vs, us, r, ru => by
    have r' : RepL X.kw G vs (k.data :: NestedKey.datas ks) := r
    cases r' with
    | cons r1 r2 => cases ru with
      | cons u1 u2 => exact .cons (key_is I g k r1 u1) (keys_is I g ks r2 u2)
end
theorem RepN.key {K : Kw} {G : Hp} : ∀ {l : List (NestedKey × Addr × V)} {ds : List (PyData × PyData)}, RepN K G l ds → ∀ {i : Nat} {p : NestedKey × Addr × V}, l[i]? = some p → Rep K G (.ref p.2.1) p.1.data ∧ ∃ d, ds[i]? = some (p.1.data, d) ∧ Rep K G p.2.2 d
  | _, _, .nil, i, p, e => by simp at e
  | _, _, .cons ek rk r t, 0, p, e => by simp at e; subst e; subst ek; exact ⟨rk, _, rfl, r⟩
  | _, _, .cons _ _ _ t, i + 1, p, e => by
    obtain ⟨h1, d, h2, h3⟩ := RepN.key t (i := i) (by simpa using e)
    exact ⟨h1, d, by simpa using h2, h3⟩
theorem paired_inv {α β : Type} {R : α → β → Prop} : ∀ {xs : List α} {ys : List β}, Paired R xs ys → ∀ {i : Nat} {y : β}, ys[i]? = some y → ∃ x, xs[i]? = some x ∧ R x y
  | _, _, .nil, i, _, e => by simp at e
  | _, _, .cons r t, 0, _, e => by simp at e; subst e; exact ⟨_, rfl, r⟩
  | _, _, .cons _ t, i + 1, _, e => by
    obtain ⟨x, h1, h2⟩ := paired_inv t (i := i) (by simpa using e)
    exact ⟨x, by simpa using h1, h2⟩
theorem dn_heap (I : Inv X pins σ H s) (g : Same G H) {a : Addr} {l : List (NestedKey × Addr × V)} {ds : List (PyData × PyData)} (e : Rd H a (dnO X.w a l)) (r : RepN X.kw G l ds) : ∃ xs, PX l xs ∧ s.heap.DictOfH (nestedKind X.prog X.w) a xs ∧ (a == sysModules) = false ∧ ∀ x ∈ xs, x.1.depth ≤ 8 := by
  obtain ⟨hd, xs, o, es, ep, px, ho, hc, hdat, hes, hnd, hdep⟩ := dn_of I.hok e
  refine ⟨xs, px, ⟨o, es, ep, ho, hc, hdat, hes, fun x hx => ?_, hnd⟩, hd, hdep⟩
  obtain ⟨i, hi⟩ := List.mem_iff_getElem?.mp hx
  obtain ⟨p, hp, e1, e2, e3⟩ := paired_inv px hi
  obtain ⟨rk, _⟩ := r.key hp
  rw [e1, e2] at rk
  exact ⟨key_is I g x.1 rk rfl, hdep x hx⟩
theorem rep_ref_tup {K : Kw} {G : Hp} {b : Addr} {k : NestedKey} (r : Rep K G (.ref b) k.data) : isTup k.data = true := by
  cases k with
  | none => cases (show Rep K G (.ref b) .none from r)
  | num i => cases (show Rep K G (.ref b) (.int i) from r)
  | text x => cases (show Rep K G (.ref b) (.str x) from r)
  | tup ks => rfl
theorem pairs_nil {P : Program} {w : World} {L : List DictEntry} (h : Pairs (mixKind P w) L []) : L = [] := by cases h; rfl
/-- a dict asked with a tuple -/
theorem dv_tup (I : Inv X pins σ H s) (g : Same G H) {a : Addr} {ds : List (PyData × PyData)} (D : DcV X.kw G H a ds) (kk : ∀ p ∈ ds, isTup p.1 = true) :
    ∃ l xs, RepN X.kw G l ds ∧ PX l xs ∧ s.heap.DictOfH (nestedKind X.prog X.w) a xs ∧ (a == sysModules) = false ∧ l.length ≤ sizeLine := by
  rcases D with ⟨l, e, r⟩ | ⟨l, e, z, r⟩
  · cases r with
    | nil =>
      obtain ⟨_, hd, vs, rel, o, es, ep, ho, hc, hdat, _, hes, _⟩ := dk_rd I.hok e
      cases rel
      exact ⟨[], [], .nil, .nil, ⟨o, es, ep, ho, hc, hdat, pairs_nil hes, (fun x hx => nomatch hx), List.nodup_nil⟩, hd, Nat.zero_le _⟩
    | cons _ _ =>
      rename_i k _ _ _ _ _ _
      have := kk _ List.mem_cons_self
      cases k <;> cases this
  · obtain ⟨xs, px, dd, hd, _⟩ := dn_heap I g e r
    exact ⟨l, xs, r, px, dd, hd, z⟩
/-- a dict asked with an int or a text -/
theorem dv_flat (I : Inv X pins σ H s) (g : Same G H) {a : Addr} {ds : List (PyData × PyData)} (D : DcV X.kw G H a ds) (kk : ∀ p ∈ ds, isTup p.1 = false) :
    ∃ l vs, RepK X.kw G l ds ∧ KV l vs ∧ s.heap.DictOf (mixKind X.prog X.w) a vs ∧ (a == sysModules) = false ∧ l.length ≤ sizeLine := by
  rcases D with ⟨l, e, r⟩ | ⟨l, e, z, r⟩
  · obtain ⟨z, hd, vs, rel, dd⟩ := dk_rd I.hok e
    exact ⟨l, vs, r, rel, dd, hd, z⟩
  · cases r with
    | nil =>
      obtain ⟨hd, xs, o, es, ep, px, ho, hc, hdat, hes, _⟩ := dn_of I.hok e
      cases px
      have hes' : es.toList = [] := by simpa using hes
      refine ⟨[], [], .nil, .nil, ⟨o, es, ep, ho, hc, hdat, fun x hx => ?_, by rw [hes']; exact .nil, List.nodup_nil⟩, hd, Nat.zero_le _⟩
      have : x ∈ es.toList := by simpa using hx
      rw [hes'] at this
      cases this
    | cons ek rk _ _ =>
      have h1 := kk _ List.mem_cons_self
      subst ek
      rw [rep_ref_tup rk] at h1
      cases h1
theorem kind_of {ds : List (PyData × PyData)} {k : PyData} (h : kindOk ds k = true) : ∀ p ∈ ds, isTup p.1 = isTup k := fun p hp => by
  have := List.all_eq_true.mp h p hp
  simpa using this
theorem ok_kind {k : PyData} (h : okKey k = true) : ((∃ j : Key, k = keyD j) ∧ isTup k = false) ∨ ∃ ks, k = (NestedKey.tup ks).data ∧ kN k = .tup ks ∧ isTup k = true ∧ (NestedKey.tup ks).depth ≤ 8 := by
  have h' : (flatKey k = true ∨ (isTup k = true ∧ isKey k = true)) ∧ (kN k).depth ≤ 8 := by
    simpa [okKey] using h
  rcases h'.1 with f | ⟨t, i⟩
  · obtain ⟨j, rfl⟩ := flat_key f
    exact .inl ⟨⟨j, rfl⟩, by cases j <;> rfl⟩
  · cases k with
    | tuple ds => exact .inr ⟨kNs ds, (kN_data i).symm, rfl, rfl, h'.2⟩
    | none => cases t
    | bool _ => cases t
    | int _ => cases t
    | str _ => cases t
    | list _ => cases t
    | dict _ => cases t
theorem rep_keyD {K : Kw} {G : Hp} {y : V} {j : Key} (r : Rep K G y (keyD j)) : y = kV j := by
  cases j with
  | inl i => have r' : Rep K G y (.int i) := r; cases r'; rfl
  | inr x => have r' : Rep K G y (.str x) := r; cases r'; rfl
theorem rep_tup_ref {K : Kw} {G : Hp} {y : V} {ks : List NestedKey} (r : Rep K G y (NestedKey.tup ks).data) : ∃ b, y = .ref b := by
  have r' : Rep K G y (.tuple (NestedKey.datas ks)) := r
  cases r'
  exact ⟨_, rfl⟩
/-! ### 3. asking -/
variable {A : Around} {E : Value → Shared → Prop} {a : Addr} {ds : List (PyData × PyData)} {kd : PyData} {y : V} {u : Value}
/-- what both kinds give: the value at the key, or none -/
theorem dd_ask (I : Inv X pins σ H s) (g : Same G H) (D : DcV X.kw G H a ds) (ok : okKey kd = true) (kk : kindOk ds kd = true) (ry : Rep X.kw G y kd) (ru : RelV y u) {R : Prop}
    (h1 : ∀ (j : Key) l vs, kd = keyD j → y = kV j → RepK X.kw G l ds → KV l vs → s.heap.DictOf (mixKind X.prog X.w) a vs → (a == sysModules) = false → RelO (valV l j) (valueAt vs j) → R)
    (h2 : ∀ (k : NestedKey) (b : Addr) l xs, kN kd = k → y = .ref b → u = .ref b → (nestedKind X.prog X.w).is s.heap k b → RepN X.kw G l ds → PX l xs → s.heap.DictOfH (nestedKind X.prog X.w) a xs → (a == sysModules) = false → RelO (lval l k) ((atKey xs k).map (·.2)) → R) : R := by
  rcases ok_kind ok with ⟨⟨j, rfl⟩, ht⟩ | ⟨ks, ek, ekn, ht, hdep⟩
  · obtain ⟨l, vs, rk, kv, dd, hd, _⟩ := dv_flat I g D fun p hp => (kind_of kk p hp).trans ht
    exact h1 j l vs rfl (rep_keyD ry) rk kv dd hd (kv.val j)
  · obtain ⟨l, xs, rn, px, dd, hd, _⟩ := dv_tup I g D fun p hp => (kind_of kk p hp).trans ht
    rw [ek] at ry
    obtain ⟨b, rfl⟩ := rep_tup_ref ry
    cases (show u = Value.ref b from ru)
    exact h2 _ b l xs ekn rfl rfl ⟨key_is I g _ ry rfl, hdep⟩ rn px dd hd (px.val _)
theorem dd_item {d : PyData} {Q : Value → Shared → Prop} (hu : A.units + 9 < cLine) (I : Inv X pins σ H s) (g : Same G H) (D : DcV X.kw G H a ds) (ok : okKey kd = true) (kk : kindOk ds kd = true) (ry : Rep X.kw G y kd) (ru : RelV y u) (hd : dget ds kd = some d)
    (h : ∀ v w' s', Inv X pins σ H s' → RelV v w' → Rep X.kw G v d → Q w' s') : wpAny (model X.prog X.w) A (getItem (.ref a) u) Q E s := by
  refine dd_ask I g D ok kk ry ru (fun j l vs ek ey rk kv dd _ rel => ?_) fun k b l xs ek ey eu is rn px dd _ rel => ?_
  · subst ey
    rcases rk.val j with ⟨e, _⟩ | ⟨d', v, e1, e2, rp⟩
    · rw [ek] at hd; unfold dget at hd; rw [kN_keyD, e] at hd; cases hd
    · rw [ek] at hd; unfold dget at hd; rw [kN_keyD, e1] at hd; cases hd
      rw [e2] at rel
      obtain ⟨w', hw, rw'⟩ := RelO.some_of rel
      exact wpAny_getItem_of (kV_is ru) dd.mapOf hw (h v w' _ (I.tok _) rw' rp)
  · subst eu
    rcases rn.val k with ⟨e, _⟩ | ⟨d', v, e1, e2, rp⟩
    · unfold dget at hd; rw [ek, e] at hd; cases hd
    · unfold dget at hd; rw [ek, e1] at hd; cases hd
      rw [e2] at rel
      obtain ⟨w', hw, rw'⟩ := RelO.some_of rel
      obtain ⟨p, hp, hp2⟩ := Option.map_eq_some_iff.mp hw
      refine wpAny_getItem_heap (show A.in1.units + 8 < cLine from by show A.units + 1 + 8 < cLine; omega) is dd hp ?_
      rw [hp2]
      exact h v w' _ (I.tok _) rw' rp
theorem dd_in {Q : Value → Shared → Prop} (hu : A.units + 9 < cLine) (I : Inv X pins σ H s) (g : Same G H) (D : DcV X.kw G H a ds) (ok : okKey kd = true) (kk : kindOk ds kd = true) (ry : Rep X.kw G y kd) (ru : RelV y u)
    (h : ∀ s', Inv X pins σ H s' → Q (.bool (dget ds kd).isSome) s') : wpAny (model X.prog X.w) A (compareOp .In u (.ref a)) Q E s := by
  refine dd_ask I g D ok kk ry ru (fun j l vs ek ey rk kv dd hd rel => ?_) fun k b l xs ek ey eu is rn px dd hd rel => ?_
  · subst ey
    refine wpAny_in_of (kV_is ru) hd dd.mapOf ?_
    rw [← rel.isSome_eq]
    have e : (dget ds kd).isSome = (valV l j).isSome := by
      rw [ek]; unfold dget; rw [kN_keyD]
      rcases rk.val j with ⟨e, e2⟩ | ⟨d', v, e1, e2, rp⟩
      · rw [e, e2]; rfl
      · rw [e1, e2]; rfl
    rw [← e]
    exact h _ (I.tok _)
  · subst eu
    refine wpAny_in_heap (show A.in1.units + 8 < cLine from by show A.units + 1 + 8 < cLine; omega) is hd dd ?_
    have q := rel.isSome_eq
    rw [Option.isSome_map] at q
    rw [← q]
    have e : (dget ds kd).isSome = (lval l k).isSome := by
      unfold dget; rw [ek]
      rcases rn.val k with ⟨e, e2⟩ | ⟨d', v, e1, e2, rp⟩
      · rw [e, e2]; rfl
      · rw [e1, e2]; rfl
    rw [← e]
    exact h _ (I.tok _)
theorem dd_notIn {Q : Value → Shared → Prop} (hu : A.units + 9 < cLine) (I : Inv X pins σ H s) (g : Same G H) (D : DcV X.kw G H a ds) (ok : okKey kd = true) (kk : kindOk ds kd = true) (ry : Rep X.kw G y kd) (ru : RelV y u)
    (h : ∀ s', Inv X pins σ H s' → Q (.bool (!(dget ds kd).isSome)) s') : wpAny (model X.prog X.w) A (compareOp .NotIn u (.ref a)) Q E s := by
  refine dd_ask I g D ok kk ry ru (fun j l vs ek ey rk kv dd hd rel => ?_) fun k b l xs ek ey eu is rn px dd hd rel => ?_
  · subst ey
    refine wpAny_notIn_of (kV_is ru) hd dd.mapOf ?_
    rw [← rel.isSome_eq]
    have e : (dget ds kd).isSome = (valV l j).isSome := by
      rw [ek]; unfold dget; rw [kN_keyD]
      rcases rk.val j with ⟨e, e2⟩ | ⟨d', v, e1, e2, rp⟩
      · rw [e, e2]; rfl
      · rw [e1, e2]; rfl
    rw [← e]
    exact h _ (I.tok _)
  · subst eu
    show wpAny _ _ (do return .bool (!(← contains (.ref a) (.ref b)))) Q E s
    refine wpAny_bind (wpAny_contains_heap (show A.in1.units + 8 < cLine from by show A.units + 1 + 8 < cLine; omega) is hd dd (wpAny_pure ?_))
    have q := rel.isSome_eq
    rw [Option.isSome_map] at q
    rw [← q]
    have e : (dget ds kd).isSome = (lval l k).isSome := by
      unfold dget; rw [ek]
      rcases rn.val k with ⟨e, e2⟩ | ⟨d', v, e1, e2, rp⟩
      · rw [e, e2]; rfl
      · rw [e1, e2]; rfl
    rw [← e]
    exact h _ (I.tok _)
/-- d.get(k), d.get(k, x) -/
theorem dd_get1 {Q : Value → Shared → Prop} (hu : A.units + 9 < cLine) (I : Inv X pins σ H s) (g : Same G H) (D : DcV X.kw G H a ds) (ok : okKey kd = true) (kk : kindOk ds kd = true) (ry : Rep X.kw G y kd) (ru : RelV y u)
    (h : ∀ v w' s', Inv X pins σ H s' → RelV v w' → Rep X.kw G v ((dget ds kd).getD .none) → Q w' s') : wpAny (model X.prog X.w) A (call (.builtin "dict.get") [.ref a, u]) Q E s := by
  refine dd_ask I g D ok kk ry ru (fun j l vs ek ey rk kv dd hd rel => ?_) fun k b l xs ek ey eu is rn px dd hd rel => ?_
  · subst ey
    refine call_meetsIn PySem.F.slot_dict_get dd.typeIs PySem.F.entry_dict_get (PySem.F.args_dict_get_2 _ _) (meets_dict_get (mixKind X.prog X.w) a (kV_is ru) hd) ⟨_, dd.mapOf, h ((valV l j).getD .non) _ _ (I.tok _) (rel.getD rfl) ?_⟩
    rw [ek]; unfold dget; rw [kN_keyD]
    rcases rk.val j with ⟨e, e2⟩ | ⟨d', v, e1, e2, rp⟩
    · rw [e, e2]; exact .non
    · rw [e1, e2]; exact rp
  · subst eu
    refine call_meetsIn PySem.F.slot_dict_get dd.typeIs PySem.F.entry_dict_get (PySem.F.args_dict_get_2 _ _) (meetsH_dict_get (nestedKind X.prog X.w) a b hd) ⟨(show A.in1.units + 8 < cLine from by show A.units + 1 + 8 < cLine; omega), k, xs, is, dd, h ((lval l k).getD .non) _ _ (I.tok _) (rel.getD rfl) ?_⟩
    unfold dget; rw [ek]
    rcases rn.val k with ⟨e, e2⟩ | ⟨d', v, e1, e2, rp⟩
    · rw [e, e2]; exact .non
    · rw [e1, e2]; exact rp
theorem dd_get2 {x : V} {r : Value} {xd : PyData} {Q : Value → Shared → Prop} (hu : A.units + 9 < cLine) (I : Inv X pins σ H s) (g : Same G H) (D : DcV X.kw G H a ds) (ok : okKey kd = true) (kk : kindOk ds kd = true) (ry : Rep X.kw G y kd) (ru : RelV y u) (rx : Rep X.kw G x xd) (rr : RelV x r)
    (h : ∀ v w' s', Inv X pins σ H s' → RelV v w' → Rep X.kw G v ((dget ds kd).getD xd) → Q w' s') : wpAny (model X.prog X.w) A (call (.builtin "dict.get") [.ref a, u, r]) Q E s := by
  refine dd_ask I g D ok kk ry ru (fun j l vs ek ey rk kv dd hd rel => ?_) fun k b l xs ek ey eu is rn px dd hd rel => ?_
  · subst ey
    refine call_meetsIn PySem.F.slot_dict_get dd.typeIs PySem.F.entry_dict_get (PySem.F.args_dict_get_3 _ _ _) (meets_dict_get_default (mixKind X.prog X.w) a (kV_is ru) hd r) ⟨_, dd.mapOf, h ((valV l j).getD x) _ _ (I.tok _) (rel.getD rr) ?_⟩
    rw [ek]; unfold dget; rw [kN_keyD]
    rcases rk.val j with ⟨e, e2⟩ | ⟨d', v, e1, e2, rp⟩
    · rw [e, e2]; exact rx
    · rw [e1, e2]; exact rp
  · subst eu
    refine call_meetsIn PySem.F.slot_dict_get dd.typeIs PySem.F.entry_dict_get (PySem.F.args_dict_get_3 _ _ _) (meetsH_dict_get_default (nestedKind X.prog X.w) a b hd r) ⟨(show A.in1.units + 8 < cLine from by show A.units + 1 + 8 < cLine; omega), k, xs, is, dd, h ((lval l k).getD x) _ _ (I.tok _) (rel.getD rr) ?_⟩
    unfold dget; rw [ek]
    rcases rn.val k with ⟨e, e2⟩ | ⟨d', v, e1, e2, rp⟩
    · rw [e, e2]; exact rx
    · rw [e1, e2]; exact rp
/-! ### 4. storing -/
def lput (l : List (NestedKey × Addr × V)) (k : NestedKey) (b : Addr) (v : V) : List (NestedKey × Addr × V) := if (lval l k).isSome then l.map (fun x => if x.1 = k then (x.1, x.2.1, v) else x) else l ++ [(k, b, v)]
theorem PX.put {l : List (NestedKey × Addr × V)} {xs : List (NestedKey × Addr × Value)} (px : PX l xs) (k : NestedKey) (b : Addr) {v : V} {r : Value} (rv : RelV v r) : PX (lput l k b v) (storedH xs k b r) := by
  have e : (lval l k).isSome = (atKey xs k).isSome := by
    have := (px.val k).isSome_eq
    rw [Option.isSome_map] at this
    exact this
  unfold lput storedH
  rw [e]
  split
  · have go : ∀ {l : List (NestedKey × Addr × V)} {xs : List (NestedKey × Addr × Value)}, PX l xs → PX (l.map (fun x => if x.1 = k then (x.1, x.2.1, v) else x)) (xs.map (putAt k r)) := by
      intro l xs px
      induction px with
      | nil => exact .nil
      | cons h t ih =>
        obtain ⟨e1, e2, e3⟩ := h
        refine .cons ?_ ih
        rename_i p q _ _
        show (fun (p : NestedKey × Addr × V) (q : NestedKey × Addr × Value) => p.1 = q.1 ∧ p.2.1 = q.2.1 ∧ RelV p.2.2 q.2.2) (if p.1 = k then (p.1, p.2.1, v) else p) (putAt k r q)
        unfold putAt
        by_cases hk : q.1 = k
        · have hk' : p.1 = k := e1.trans hk
          rw [if_pos hk, if_pos hk']
          exact ⟨e1, e2, rv⟩
        · have hk' : ¬ p.1 = k := fun z => hk (e1.symm.trans z)
          rw [if_neg hk, if_neg hk']
          exact ⟨e1, e2, e3⟩
    exact go px
  · have go : ∀ {l : List (NestedKey × Addr × V)} {xs : List (NestedKey × Addr × Value)}, PX l xs → PX (l ++ [(k, b, v)]) (xs ++ [(k, b, r)]) := by
      intro l xs px
      induction px with
      | nil => exact .cons ⟨rfl, rfl, rv⟩ .nil
      | cons h t ih => exact .cons h ih
    exact go px
theorem lput_length (l : List (NestedKey × Addr × V)) (k : NestedKey) (b : Addr) (v : V) : (lput l k b v).length ≤ l.length + 1 := by
  unfold lput
  split <;> simp
theorem RepN.putN {K : Kw} {G : Hp} {l : List (NestedKey × Addr × V)} {ds : List (PyData × PyData)} {kd d : PyData} {k : NestedKey} {b : Addr} {v : V} (r : RepN K G l ds) (ek : kd = k.data) (rk : Rep K G (.ref b) kd) (rv : Rep K G v d) : RepN K G (lput l k b v) (dput ds kd d) := by
  have ekn : kN kd = k := by rw [ek]; exact data_kN k
  have e : (dget ds kd).isSome = (lval l k).isSome := by
    unfold dget; rw [ekn]
    rcases r.val k with ⟨e, e2⟩ | ⟨d', v', e1, e2, rp⟩
    · rw [e, e2]; rfl
    · rw [e1, e2]; rfl
  unfold dput lput
  rw [e, ekn]
  split
  · have go : ∀ {l : List (NestedKey × Addr × V)} {ds : List (PyData × PyData)}, RepN K G l ds → RepN K G (l.map (fun x => if x.1 = k then (x.1, x.2.1, v) else x)) (ds.map (fun p => if kN p.1 = k then (p.1, d) else p)) := by
      intro l
      induction l with
      | nil => intro ds r; cases r; exact .nil
      | cons x l ih =>
        intro ds r
        cases r with
        | @cons j b' v' _ kd' d' ds' ej rj rv' rt =>
          have ejn : kN kd' = j := by rw [ej]; exact data_kN j
          show RepN K G ((if j = k then (j, b', v) else (j, b', v')) :: _) ((if kN kd' = k then (kd', d) else (kd', d')) :: _)
          rw [ejn]
          by_cases hk : j = k
          · rw [if_pos hk, if_pos hk]; exact .cons ej rj rv (ih rt)
          · rw [if_neg hk, if_neg hk]; exact .cons ej rj rv' (ih rt)
    exact go r
  · have go : ∀ {l : List (NestedKey × Addr × V)} {ds : List (PyData × PyData)}, RepN K G l ds → RepN K G (l ++ [(k, b, v)]) (ds ++ [(kd, d)]) := by
      intro l
      induction l with
      | nil => intro ds r; cases r; exact .cons ek rk rv .nil
      | cons x l ih =>
        intro ds r
        cases r with
        | cons ej rj rv' rt => exact .cons ej rj rv' (ih rt)
    exact go r
theorem RepK.putK {K : Kw} {G : Hp} {l : List (Key × V)} {ds : List (PyData × PyData)} {d : PyData} {k : Key} {v : V} (r : RepK K G l ds) (rv : Rep K G v d) : RepK K G (L2.putK l k v) (dput ds (keyD k) d) := by
  have e : (dget ds (keyD k)).isSome = (l.any fun kv => decide (kv.1 = k)) := by
    unfold dget; rw [kN_keyD, valV_any]
    rcases r.val k with ⟨e, e2⟩ | ⟨d', v', e1, e2, rp⟩
    · rw [e, e2]; rfl
    · rw [e1, e2]; rfl
  unfold dput L2.putK
  rw [e, kN_keyD]
  split
  · have go : ∀ {l : List (Key × V)} {ds : List (PyData × PyData)}, RepK K G l ds → RepK K G (l.map fun kv => if kv.1 = k then (kv.1, v) else kv) (ds.map (fun p => if kN p.1 = kK k then (p.1, d) else p)) := by
      intro l
      induction l with
      | nil => intro ds r; cases r; exact .nil
      | cons x l ih =>
        intro ds r
        cases r with
        | @cons j v' _ d' ds' rv' rt =>
          show RepK K G ((if j = k then (j, v) else (j, v')) :: _) ((if kN (keyD j) = kK k then (keyD j, d) else (keyD j, d')) :: _)
          rw [kN_keyD]
          by_cases hk : j = k
          · rw [if_pos hk, if_pos (kK_inj.mpr hk)]; exact .cons rv (ih rt)
          · rw [if_neg hk, if_neg (fun z => hk (kK_inj.mp z))]; exact .cons rv' (ih rt)
    exact go r
  · have go : ∀ {l : List (Key × V)} {ds : List (PyData × PyData)}, RepK K G l ds → RepK K G (l ++ [(k, v)]) (ds ++ [(keyD k, d)]) := by
      intro l
      induction l with
      | nil => intro ds r; cases r; exact .cons rv .nil
      | cons x l ih =>
        intro ds r
        cases r with
        | cons rv' rt => exact .cons rv' (ih rt)
    exact go r
theorem Top.mut {K : Kw} {G H : Hp} {a : Addr} {d : PyData} (t : Top K G H a d) : Mut (H a) := by
  cases d with
  | list ds => obtain ⟨_, e, _⟩ := t; rw [e]; exact True.intro
  | dict ds => rcases t with ⟨_, e, _⟩ | ⟨_, e, _⟩ <;> (rw [e]; exact True.intro)
  | none => exact t.elim
  | bool _ => exact t.elim
  | int _ => exact t.elim
  | str _ => exact t.elim
  | tuple _ => exact t.elim
theorem dn_new {P : Program} {w : World} {H' : Hp} {h' : Heap} {a : Addr} {l : List (NestedKey × Addr × V)} {xs : List (NestedKey × Addr × Value)} (hd : (a == sysModules) = false) (px : PX l xs) (dd : h'.DictOfH (nestedKind P w) a xs) : ObjOk P w H' h' a (dnO w a l) := by
  obtain ⟨o, es, ep, ho, hc, hdat, hes, his, hnd⟩ := dd
  refine ⟨⟨hd, xs, o, es, ep, px, ho, hc, hdat, hes, hnd, fun x hx => (his x hx).2⟩, ⟨o, ho⟩, fun h1 h2 x k => ?_⟩
  obtain ⟨hd, xs, o, es, ep, px, ho, r⟩ := x
  exact ⟨hd, xs, o, es, ep, px, k o ho, r⟩
theorem dd_set {v : V} {d : PyData} {r : Value} {Q : Unit → Shared → Prop} (hu : A.units + 9 < cLine) (I : Inv X pins σ H s) (g : Same G H) (t : Top X.kw G H a (.dict ds)) (hz : ds.length < sizeLine) (ok : okKey kd = true) (kk : kindOk ds kd = true) (ry : Rep X.kw G y kd) (ru : RelV y u) (rv : Rep X.kw G v d) (rr : RelV v r)
    (h : ∀ ob s', Inv X pins σ (upd H a ob) s' → Top X.kw G (upd H a ob) a (.dict (dput ds kd d)) → Q () s') : wpAny (model X.prog X.w) A (setItem (.ref a) u r) Q E s := by
  refine dd_ask I g t.dv ok kk ry ru (fun j l vs ek ey rk kv dd hd rel => ?_) fun k b l xs ek ey eu is rn px dd hd rel => ?_
  · subst ey
    have hl0 : l.length = ds.length := rk.length
    have hz' : vs.length ≤ sizeLine := by rw [← kv.length, hl0]; omega
    have hl : (L2.putK l j v).length ≤ sizeLine := by have := length_putK l j v; omega
    refine wpAny_setItem_pairs (hsz := hz') (kV_is ru) dd fun h' dd' hs => h (.dK (L2.putK l j v)) _ ?_ ?_
    · have he : ∃ q, h'.get? a = some q := let ⟨q, _, _, hq, _⟩ := dd'; ⟨q, hq⟩
      exact d_write I t.mut hs he (dk_new hl hd (kv.put j rr) dd')
    · rw [ek]
      exact .inl ⟨_, upd_same, rk.putK rv⟩
  · subst eu
    have hl0 : l.length = ds.length := rn.length
    have hxs : l.length = xs.length := Paired.length px
    have hkd : kd = k.data := by
      rcases ok_kind ok with ⟨⟨j, rfl⟩, _⟩ | ⟨ks, e1, e2, _⟩
      · subst ey
        have := rep_keyD ry
        cases j <;> cases this
      · rw [e2] at ek; rw [e1, ← ek]
    refine wpAny_setItem_heap (hsz := by omega) (show A.in1.units + 8 < cLine from by show A.units + 1 + 8 < cLine; omega) is dd fun h' dd' hs => h (dnO X.w a (lput l k b v)) _ ?_ ?_
    · have he : ∃ q, h'.get? a = some q := let ⟨q, _, _, hq, _⟩ := dd'; ⟨q, hq⟩
      exact d_write I t.mut hs he (dn_new hd (px.put k b rr) dd')
    · refine .inr ⟨_, upd_same, by have := lput_length l k b v; omega, rn.putN hkd (ey ▸ ry) rv⟩
end
end DL
/-! DLe: built-ins called, comprehensions, try, methods that change a list -/
namespace DL
open PySem L2
section
variable {X : Cx} {a : Ax} {W : WX} {e e1 e2 e3 : Expr} {es : List Expr} {pos : Pos}
/-! ### 1. arguments that are read; built-ins -/
abbrev RdL (K : Kw) (G H : Hp) : List PyData → List V → Prop := Paired fun d v => RdR K G H v d
abbrev relRL (K : Kw) : Hp → Hp → Hp → List PyData → List V → Prop := fun _ G H ds vs => RdL K G H ds vs
def DRL (X : Cx) (a : Ax) (W : WX) (es : List Expr) (m : ML) : Prop := ∃ t, PA X es t ∧ Snd (cn X a) W (relRL X.kw) t m
theorem RdL.mono {K : Kw} {G H G' H' : Hp} (g : Same G G') (h : Same H H') : ∀ {ds : List PyData} {vs : List V}, RdL K G H ds vs → RdL K G' H' ds vs
  | _, _, .nil => .nil
  | _, _, .cons r t => .cons (r.mono g h) (RdL.mono g h t)
theorem drl_nil : DRL X a W [] mNil := ⟨_, pa_nil, fun B G0 G H σ δ S Q hq => hq [] G H (Stp.refl S.gh) .nil⟩
theorem drl_cons {m : MD} {n : ML} (h : DR X a W e m) (k : DRL X a W es n) (hs : starEach (e :: es) X.env = (false, eval e X.env) :: starEach es X.env := by rfl) : DRL X a W (e :: es) (mCons m n) := by
  obtain ⟨t, p, s⟩ := h
  obtain ⟨u, q, z⟩ := k
  refine ⟨_, pa_cons p q hs, ?_⟩
  intro B G0 G H σ δ S Q hq
  refine s B G0 G H σ δ S _ ?_
  have hq' : ROk (cn X a) W σ G H (relRL X.kw H) ((m δ).bind fun d => (n δ).bind fun ds => .ok (d :: ds)) Q := hq
  generalize m δ = r at hq'
  cases r with
  | stuck => exact hq'.elim
  | exc x => exact hq'
  | ok d =>
    intro v G1 H1 st1 r1
    rw [bind_ok] at hq'
    refine z B G0 G1 H1 σ δ (S.step st1) _ ?_
    generalize n δ = rn at hq'
    cases rn with
    | stuck => exact hq'.elim
    | exc x => exact fun cls d G3 H3 s3 r => hq' cls d G3 H3 (st1.trans s3) r
    | ok ds => exact fun vs G3 H3 st3 r3 => hq' (v :: vs) G3 H3 (st1.trans st3) (.cons (r1.mono st3.g st3.h) r3)
def CallS (K : Kw) (r : List V → Hp → VK → Prop) (f : List PyData → Res Slot) : Prop :=
  (∀ (G H : Hp) (vs : List V) (ds : List PyData) (s : Slot) (Q : VK), Same G H → RdL K G H ds vs → f ds = .ok s → (∀ v G' H', Stp G H G' H' → ResF K H G' H' s v → Q v H') → r vs H Q) ∧ ∀ ds x, f ds ≠ .exc x
def mBi (f : List PyData → Res Slot) (m : ML) : ME := fun δ => (m δ).bind f
theorem snd_bi {C : Cn} {r : List V → Hp → VK → Prop} {f : List PyData → Res Slot} (hf : CallS C.K r f) {t : TA} {m : ML} (h : Snd C W (relRL C.K) t m) : Snd C W (relE C.K) (tCB r t) (mBi f m) := by
  refine snd_bind (rel1 := relRL C.K) (rel2 := relE C.K) downE h (t2 := fun vs _ H Q => r vs H Q) (m2 := fun ds _ => f ds) ?_
  intro ds vs B G0 G H σ δ H0 S rd Q hq
  have hq' : ROk C W σ G H (relE C.K H) (f ds) Q := hq
  cases ef : f ds with
  | stuck => rw [ef] at hq'; exact hq'.elim
  | exc x => exact (hf.2 ds x ef).elim
  | ok s => rw [ef] at hq'; exact hf.1 G H vs ds s Q S.gh rd ef hq'
theorem de_callB {x : Str} {idb : String} {r : List V → Hp → VK → Prop} {f : List PyData → Res Slot} {p : Pos} {m : ML} (hf : CallS X.kw r f) (hc : CallR X (.builtin idb) r) (hg : Gl X x) (hm : X.mg x = none) (hv : bootBuiltins x = some (.builtin idb)) (h : DRL X a W (e :: es) m)
    (hn : x ≠ "__name__" := by decide) (hdb : (x == ("__debug__" : Str)) = false := by decide) (he : starEach (e :: es) X.env = (false, eval e X.env) :: starEach es X.env := by rfl) (hpl : (backTo pos (starEach es X.env)).any (·.1) = false := by rfl) : DE X a W (.Call (.Name x p) (e :: es) [] pos) (mBi f m) :=
  let ⟨_, pa, sa⟩ := h; ⟨_, pe_callB hc hg hm hv pa hn hdb he hpl, snd_bi (C := cn X a) hf sa⟩
theorem de_callT {x : Str} {T : String} {r : List V → Hp → VK → Prop} {f : List PyData → Res Slot} {p : Pos} {m : ML} (hf : CallS X.kw r f) (hc : CallR X (.type T) r) (hg : Gl X x) (hm : X.mg x = none) (hv : bootBuiltins x = some (.type T)) (h : DRL X a W (e :: es) m)
    (hn : x ≠ "__name__" := by decide) (hdb : (x == ("__debug__" : Str)) = false := by decide) (he : starEach (e :: es) X.env = (false, eval e X.env) :: starEach es X.env := by rfl) (hpl : (backTo pos (starEach es X.env)).any (·.1) = false := by rfl) : DE X a W (.Call (.Name x p) (e :: es) [] pos) (mBi f m) :=
  let ⟨_, pa, sa⟩ := h; ⟨_, pe_callTy hc hg hm hv pa hn hdb he hpl, snd_bi (C := cn X a) hf sa⟩
/-- abs -/
def absF : List PyData → Res Slot
  | [.int i] => okI (if i < 0 then -i else i)
  | _ => .stuck
theorem rdl1 {K : Kw} {G H : Hp} {d : PyData} {vs : List V} (h : RdL K G H [d] vs) : ∃ v, vs = [v] ∧ RdR K G H v d := by
  cases h with
  | cons r t => cases t; exact ⟨_, rfl, r⟩
theorem rdl2 {K : Kw} {G H : Hp} {d e : PyData} {vs : List V} (h : RdL K G H [d, e] vs) : ∃ v u, vs = [v, u] ∧ RdR K G H v d ∧ RdR K G H u e := by
  cases h with
  | cons r t =>
    obtain ⟨u, e, q⟩ := rdl1 t
    subst e
    exact ⟨_, _, rfl, r, q⟩
theorem absF_ok {K : Kw} : CallS K (fun xs H Q => ∃ i, xs = [.int i] ∧ Q (.int (if i < 0 then -i else i)) H) absF := by
  refine ⟨fun G H vs ds s Q g rd ef q => ?_, fun ds x => ?_⟩
  · unfold absF at ef
    split at ef
    · cases ef
      obtain ⟨v, ev, r⟩ := rdl1 rd
      cases rdr_int r
      exact ⟨_, ev, q _ G H (Stp.refl g) (Rep.int _)⟩
    · cases ef
  · unfold absF
    split <;> (intro h; cases h)
/-- len -/
def lenF : List PyData → Res Slot
  | [.str x] => if x.length ≤ sizeLine then okI (x.length : Int) else .stuck
  | [.list ds] => okI (ds.length : Int)
  | [.tuple ds] => okI (ds.length : Int)
  | _ => .stuck
theorem lenF_ok {K : Kw} : CallS K (fun xs H Q => ∃ x n, xs = [x] ∧ LenV K x H n ∧ Q (.int (n : Int)) H) lenF := by
  refine ⟨fun G H vs ds s Q g rd ef q => ?_, fun ds x => ?_⟩
  · unfold lenF at ef
    split at ef
    · split at ef
      · rename_i hz
        cases ef
        obtain ⟨v, ev, r⟩ := rdl1 rd
        cases rdr_str r
        exact ⟨_, _, ev, ⟨hz, rfl⟩, q _ G H (Stp.refl g) (Rep.int _)⟩
      · cases ef
    · cases ef
      obtain ⟨v, ev, r⟩ := rdl1 rd
      obtain ⟨b, xs, e1, q1, r1⟩ := rdr_list g r
      subst e1
      refine ⟨_, xs.length, ev, .inl ⟨xs, q1, rfl⟩, ?_⟩
      rw [r1.length]
      exact q _ G H (Stp.refl g) (Rep.int _)
    · cases ef
      obtain ⟨v, ev, r⟩ := rdl1 rd
      obtain ⟨b, xs, e1, q1, r1⟩ := rdr_tup g r
      subst e1
      refine ⟨_, xs.length, ev, .inr ⟨xs, q1, rfl⟩, ?_⟩
      rw [r1.length]
      exact q _ G H (Stp.refl g) (Rep.int _)
    · cases ef
  · unfold lenF
    split <;> (try split) <;> (intro h; cases h)
/-- list(x), tuple(x) of a list or tuple -/
def listF : List PyData → Res Slot
  | [.list ds] => .ok (.own (.list ds))
  | [.tuple ds] => .ok (.own (.list ds))
  | _ => .stuck
theorem listF_ok {K : Kw} : CallS K (fun xs H Q => ∃ p ys, xs = [.ref p] ∧ (SqL K H p ys ∨ SqT K H p ys) ∧ ∀ l, H l = none → Q (.ref l) (upd H l (.lst ys))) listF := by
  refine ⟨fun G H vs ds s Q g rd ef q => ?_, fun ds x => ?_⟩
  · unfold listF at ef
    split at ef
    · cases ef
      obtain ⟨v, ev, r⟩ := rdl1 rd
      obtain ⟨b, xs, e1, q1, r1⟩ := rdr_list g r
      subst e1
      exact ⟨b, xs, ev, .inl q1, new_list g r1 q⟩
    · cases ef
      obtain ⟨v, ev, r⟩ := rdl1 rd
      obtain ⟨b, xs, e1, q1, r1⟩ := rdr_tup g r
      subst e1
      exact ⟨b, xs, ev, .inr q1, new_list g r1 q⟩
    · cases ef
  · unfold listF
    split <;> (intro h; cases h)
def tupleF : List PyData → Res Slot
  | [.list ds] => okV (.tuple ds)
  | [.tuple ds] => okV (.tuple ds)
  | _ => .stuck
theorem tupleF_ok {K : Kw} : CallS K (fun xs H Q => ∃ p ys, xs = [.ref p] ∧ ((SqL K H p ys ∧ ∀ l, H l = none → Q (.ref l) (upd H l (.tup ys))) ∨ (SqT K H p ys ∧ Q (.ref p) H))) tupleF := by
  refine ⟨fun G H vs ds s Q g rd ef q => ?_, fun ds x => ?_⟩
  · unfold tupleF at ef
    split at ef
    · cases ef
      obtain ⟨v, ev, r⟩ := rdl1 rd
      obtain ⟨b, xs, e1, q1, r1⟩ := rdr_list g r
      subst e1
      exact ⟨b, xs, ev, .inl ⟨q1, new_tup g r1 q⟩⟩
    · cases ef
      obtain ⟨v, ev, r⟩ := rdl1 rd
      obtain ⟨b, xs, e1, q1, r1⟩ := rdr_tup g r
      subst e1
      refine ⟨b, xs, ev, .inr ⟨q1, ?_⟩⟩
      rcases r with r | ⟨c, _, t⟩
      · exact q _ G H (Stp.refl g) r
      · exact t.elim
    · cases ef
  · unfold tupleF
    split <;> (intro h; cases h)
/-- int(n), int(flag); str(n) -/
def intF : List PyData → Res Slot
  | [.int i] => okI i
  | [.bool b] => okI (if b then 1 else 0)
  | _ => .stuck
theorem intF_ok {K : Kw} : CallS K (fun xs H Q => (∃ i, xs = [.int i] ∧ Q (.int i) H) ∨ ∃ k, xs = [.bl k] ∧ Q (.int (if k then 1 else 0)) H) intF := by
  refine ⟨fun G H vs ds s Q g rd ef q => ?_, fun ds x => ?_⟩
  · unfold intF at ef
    split at ef
    · cases ef
      obtain ⟨v, ev, r⟩ := rdl1 rd
      cases rdr_int r
      exact .inl ⟨_, ev, q _ G H (Stp.refl g) (Rep.int _)⟩
    · cases ef
      obtain ⟨v, ev, r⟩ := rdl1 rd
      cases rdr_bool r
      exact .inr ⟨_, ev, q _ G H (Stp.refl g) (Rep.int _)⟩
    · cases ef
  · unfold intF
    split <;> (intro h; cases h)
/-! ### 2. isinstance -/
def isiF (T : String) (d : PyData) : Res Slot := match kitB (tyD d) T with
  | some b => okB b
  | none => .stuck
def mIsi (T : String) (m : MD) : ME := fun δ => (m δ).bind (isiF T)
theorem de_isi {T : String} {x : Str} {m : MD} {p p2 : Pos} (hg : Gl X "isinstance") (hm : X.mg "isinstance" = none) (hgT : Gl X x) (hmT : X.mg x = none) (hvT : bootBuiltins x = some (.type T)) (h : DR X a W e m)
    (hnT : x ≠ "__name__" := by decide) (hdT : (x == ("__debug__" : Str)) = false := by decide)
    (he : starEach (e :: [.Name x p2]) X.env = (false, eval e X.env) :: starEach [.Name x p2] X.env := by rfl) (he2 : starEach [.Name x p2] X.env = (false, eval (.Name x p2) X.env) :: starEach [] X.env := by rfl) (hpl : (backTo pos (starEach [.Name x p2] X.env)).any (·.1) = false := by rfl) :
    DE X a W (.Call (.Name "isinstance" p) [e, .Name x p2] [] pos) (mIsi T m) := by
  obtain ⟨t, pe, s⟩ := h
  refine ⟨_, pe_callB call_isiD hg hm PyProof.Rows.boot_isinstance (pa_cons pe (pa_cons (pe_bltn (v := .ty T) hgT hmT hvT rfl hnT hdT) pa_nil he2) he) (by decide) (by decide) he hpl, ?_⟩
  refine snd_bind (rel1 := relD X.kw) (rel2 := relE X.kw) downE s (t2 := fun x _ H Q => rIsiD X.kw [x, .ty T] H Q) (m2 := fun d _ => isiF T d) ?_
  intro d v B G0 G H σ δ H0 S rd Q hq
  have hq' : ROk (cn X a) W σ G H (relE X.kw H) (isiF T d) Q := hq
  unfold isiF at hq'
  split at hq'
  · rename_i b hb
    exact ⟨v, .ty T, .type (tyD d), .type T, b, rfl, .ty T, rdr_ty S.gh rd, kit_ty hb, hq' _ G H (Stp.refl S.gh) (Rep.bl b)⟩
  · exact hq'.elim
/-- isinstance(e, C) of the refusal that the suite holds -/
def isSub : EC → EC → Bool
  | _, .DuelError => true
  | c, d => decide (c = d)
def mIsE (i : Nat) (c : EC) : ME := fun δ => match δ[i]? with
  | some (some (.exn x)) => okB (isSub x.c c)
  | _ => .stuck
def mIsEV (i : Nat) : ME := fun δ => match δ[i]? with
  | some (some (.exn _)) => okB true
  | _ => .stuck
/-- what is held: one refusal of the class c, without fields -/
abbrev held1 (ec : EC → Addr) (b : Addr) (c : EC) (R : List (Nat × V) := []) : Ax := ⟨ec, fun b' x => b' = b ∧ x = ⟨c, []⟩, R⟩
theorem de_isE {R : List (Nat × V)} {ec : EC → Addr} {c cc : EC} {i : Nat} {b : Addr} {oe : Obj} {pn : List (Addr × Obj)} {x y : Str} {p p1 p2 : Pos} (hg : Gl (X.suite b ((b, oe) :: pn)) "isinstance") (hm : X.mg "isinstance" = none) (C : ExcC X.K (ec c)) (hz : Zc (.ref (ec c)) none oe) (hf : ∃ vs, oe.data = .fields vs)
    (hgC : Gl (X.suite b ((b, oe) :: pn)) y) (hmC : X.mg y = some (.ref (ec cc))) (hk : PySem.W.kitOne X.K (.ref (ec c)) (.ref (ec cc)) = some (isSub c cc)) (hN : X.N[i]? = some x) (hv : Vis X.env.scope x) (hd : (x == ("__debug__" : Str)) = false := by decide) (hcd : (x == ("__classdict__" : Str)) = false := by decide)
    (hdC : (y == ("__debug__" : Str)) = false := by decide) (he : starEach (.Name x p1 :: [.Name y p2]) X.env = (false, eval (.Name x p1) X.env) :: starEach [.Name y p2] X.env := by rfl) (he2 : starEach [.Name y p2] X.env = (false, eval (.Name y p2) X.env) :: starEach [] X.env := by rfl)
    (hpl : (backTo pos (starEach [.Name y p2] X.env)).any (·.1) = false := by rfl) :
    DE (X.suite b ((b, oe) :: pn)) (held1 ec b c R) W (.Call (.Name "isinstance" p) [.Name x p1, .Name y p2] [] pos) (mIsE i cc) := by
  refine ⟨_, pe_callB (call_isE C hz hf) hg hm PyProof.Rows.boot_isinstance (pa_cons (pe_var hN hv hd hcd) (pa_cons (pe_glob (v := .ref (ec cc)) hgC hmC rfl hdC) pa_nil he2) he) (by decide) (by decide) he hpl, ?_⟩
  intro B G0 G H σ δ S Q hq
  have hq' : ROk (cn (X.suite b ((b, oe) :: pn)) (held1 ec b c R)) W σ G H (relE X.kw H) (mIsE i cc δ) Q := hq
  unfold mIsE at hq'
  split at hq'
  · rename_i z ei
    obtain ⟨v, fp, ev, ⟨_, b', eb, e1, e2⟩, _⟩ := S.sl ei
    subst eb e1 e2
    exact ⟨_, ev, .ref (ec cc), .ref (ec cc), _, rfl, fun u hu => hu, hk, hq' _ G H (Stp.refl S.gh) (Rep.bl _)⟩
  · exact hq'.elim
theorem de_isET {R : List (Nat × V)} {ec : EC → Addr} {c : EC} {i : Nat} {b : Addr} {oe : Obj} {pn : List (Addr × Obj)} {x y : Str} {T : String} {p p1 p2 : Pos} (hg : Gl (X.suite b ((b, oe) :: pn)) "isinstance") (hm : X.mg "isinstance" = none) (C : ExcC X.K (ec c)) (hz : Zc (.ref (ec c)) none oe) (hf : ∃ vs, oe.data = .fields vs)
    (hgC : Gl (X.suite b ((b, oe) :: pn)) y) (hmC : X.mg y = none) (hvT : bootBuiltins y = some (.type T)) (hk : PySem.W.kitOne X.K (.ref (ec c)) (.type T) = some true) (hN : X.N[i]? = some x) (hv : Vis X.env.scope x) (hd : (x == ("__debug__" : Str)) = false := by decide) (hcd : (x == ("__classdict__" : Str)) = false := by decide)
    (hnT : y ≠ "__name__" := by decide) (hdC : (y == ("__debug__" : Str)) = false := by decide) (he : starEach (.Name x p1 :: [.Name y p2]) X.env = (false, eval (.Name x p1) X.env) :: starEach [.Name y p2] X.env := by rfl) (he2 : starEach [.Name y p2] X.env = (false, eval (.Name y p2) X.env) :: starEach [] X.env := by rfl)
    (hpl : (backTo pos (starEach [.Name y p2] X.env)).any (·.1) = false := by rfl) :
    DE (X.suite b ((b, oe) :: pn)) (held1 ec b c R) W (.Call (.Name "isinstance" p) [.Name x p1, .Name y p2] [] pos) (mIsEV i) := by
  refine ⟨_, pe_callB (call_isE C hz hf) hg hm PyProof.Rows.boot_isinstance (pa_cons (pe_var hN hv hd hcd) (pa_cons (pe_bltn (v := .ty T) hgC hmC hvT rfl hnT hdC) pa_nil he2) he) (by decide) (by decide) he hpl, ?_⟩
  intro B G0 G H σ δ S Q hq
  have hq' : ROk (cn (X.suite b ((b, oe) :: pn)) (held1 ec b c R)) W σ G H (relE X.kw H) (mIsEV i δ) Q := hq
  unfold mIsEV at hq'
  split at hq'
  · rename_i z ei
    obtain ⟨v, fp, ev, ⟨_, b', eb, e1, e2⟩, _⟩ := S.sl ei
    subst eb e1 e2
    exact ⟨_, ev, .ty T, .type T, _, rfl, fun u hu => hu, hk, hq' _ G H (Stp.refl S.gh) (Rep.bl _)⟩
  · exact hq'.elim
/-! ### 3. comprehensions -/
def wipeD (δ : DEnv) : List Nat → DEnv
  | [] => δ
  | v :: vs => (wipeD δ vs).set v none
def Cn.frees (C : Cn) (vs : List Nat) : Prop := ∀ v ∈ vs, C.free v
def Ax.frees (a : Ax) (vs : List Nat) : Prop := ∀ v ∈ vs, a.free v
theorem frees0 {ec : EC → Addr} {A : Addr → Exn → Prop} {vs : List Nat} : Ax.frees ⟨ec, A, []⟩ vs := fun _ _ => free0
theorem frees1 {ec : EC → Addr} {A : Addr → Exn → Prop} {j : Nat} {v : V} {vs : List Nat} (h : ∀ i ∈ vs, j ≠ i) : Ax.frees ⟨ec, A, [(j, v)]⟩ vs := fun i hi => free1 (h i hi)
theorem StR.wipe {C : Cn} {B G0 G H : Hp} {σ : St} {δ : DEnv} (S : StR C B G0 G H σ δ) : ∀ vs : List Nat, C.frees vs → StR C B G0 G H (L2.wipe σ vs) (wipeD δ vs)
  | [], _ => S
  | v :: vs, h => (StR.wipe S vs fun u hu => h u (List.mem_cons_of_mem _ hu)).setNone (h v List.mem_cons_self) none
theorem wipe_at {σ : St} {j : Nat} : ∀ {vs : List Nat}, j ∈ vs → (L2.wipe σ vs)[j]? = if j < σ.length then some none else none
  | [], h => by simp at h
  | v :: vs, h => by
    unfold L2.wipe
    by_cases hv : v = j
    · subst hv
      rw [List.getElem?_set]
      simp [wipe_length]
    · rw [List.getElem?_set_ne hv]
      exact wipe_at (by simpa [Ne.symm hv] using h)
theorem wipe_off {σ : St} {j : Nat} : ∀ {vs : List Nat}, j ∉ vs → (L2.wipe σ vs)[j]? = σ[j]?
  | [], _ => rfl
  | v :: vs, h => by
    unfold L2.wipe
    rw [List.mem_cons, not_or] at h
    rw [List.getElem?_set_ne (Ne.symm h.1)]
    exact wipe_off h.2
theorem wipe_eq {σ σ' : St} {us vs : List Nat} (o : Off us (L2.wipe σ vs) σ') (hs : ∀ j ∈ us, j ∈ vs) : L2.wipe σ' vs = L2.wipe σ vs := by
  refine List.ext_getElem? fun j => ?_
  by_cases hj : j ∈ vs
  · rw [wipe_at hj, wipe_at hj, o.1, wipe_length]
  · rw [wipe_off hj, o.2 j (fun z => hj (hs j z))]
def compR (g : MG) (c : MT) (m : MD) (δ : DEnv) : List PyData → Res (List PyData)
  | [] => .ok []
  | d :: ds => match g d δ with
    | none => .stuck
    | some δ1 => match c δ1 with
      | .ok true => match m δ1 with
        | .ok y => (compR g c m δ ds).bind fun ys => .ok (y :: ys)
        | _ => .stuck
      | .ok false => compR g c m δ ds
      | _ => .stuck
def mComp (vs : List Nat) (g : MG) (it : ML) (c : MT) (m : MD) : ME := fun δ => (it δ).bind fun ds => if fits ds = true then (compR g c m (wipeD δ vs) ds).bind fun ys => .ok (.own (.list ys)) else .stuck
abbrev W0 : WX := fun _ _ _ _ => False
theorem snd_comp {C : Cn} {wi : TI} {g : TG} {tt : TT} {te : TE} {mg : MG} {it : ML} {c : MT} {m : MD} {vs us : List Nat} (hf : C.frees vs) (hi : SndI C W wi it) (hg : SndG C g mg us) (hs : ∀ j ∈ us, j ∈ vs) (ht : Snd C W0 relB tt c) (he : Snd C W0 (relV C.K) te m) :
    Snd C W (relE C.K) (tLc wi g tt te vs) (mComp vs mg it c m) := by
  intro B G0 G H σ δ S Q hq
  refine hi B G0 G H σ δ S _ ?_
  have hq' : ROk C W σ G H (relE C.K H) ((it δ).bind fun ds => if fits ds = true then (compR mg c m (wipeD δ vs) ds).bind fun ys => .ok (.own (.list ys)) else .stuck) Q := hq
  generalize it δ = r at hq'
  cases r with
  | stuck => exact hq'.elim
  | exc x => exact hq'
  | ok ds =>
    intro J G1 H1 st1 gv Dl hD
    rw [bind_ok] at hq'
    by_cases hz : fits ds = true
    · rw [if_pos hz] at hq'
      have hz' : ds.length ≤ sizeLine := of_decide_eq_true hz
      have S1 := S.step st1
      refine ⟨fun i k H' => k + i = ds.length ∧ ∃ G' acc accd, Stp G1 H1 G' H' ∧ G' Dl = none ∧ H' Dl = some (.lst acc) ∧ RepL C.K G' acc accd ∧ acc.length ≤ i ∧ ROk C W σ G H (relE C.K H) ((compR mg c m (wipeD δ vs) (ds.drop i)).bind fun ys => .ok (.own (.list (accd ++ ys)))) Q,
        ⟨ds.length, by omega, G1, [], [], Stp.newH st1.gh hD, st1.gh.free hD, upd_same, .nil, Nat.le_refl _, by simpa using hq'⟩, ?_⟩
      rintro i k H' ⟨hk, G', acc, accd, st2, nD, eD, ra, hl, k1⟩
      obtain ⟨go, stop⟩ := gv i G' H' st2.g st2.gh (S1.bh.trans st2.h)
      by_cases hi : i < ds.length
      · have ed : ds[i]? = some ds[i] := List.getElem?_eq_getElem hi
        obtain ⟨go, yl⟩ := go _ ed
        rw [List.drop_eq_getElem_cons hi] at k1
        refine .inr ⟨go, fun H' => ∃ G' acc accd, Stp G1 H1 G' H' ∧ G' Dl = none ∧ H' Dl = some (.lst acc) ∧ RepL C.K G' acc accd ∧ acc.length ≤ i + 1 ∧ ROk C W σ G H (relE C.K H) ((compR mg c m (wipeD δ vs) (ds.drop (i + 1))).bind fun ys => .ok (.own (.list (accd ++ ys)))) Q,
          fun H' n => ⟨k - 1, by omega, by omega, n⟩, fun x H2 y => ?_⟩
        obtain ⟨G2, st3, r⟩ := yl x H2 y
        have S2 := ((S1.step st2).step st3).wipe vs hf
        have nD2 : G2 Dl = none := st3.fr Dl nD (by rw [eD]; exact fun z => nomatch z)
        have k2 : ROk C W σ G H (relE C.K H) ((match mg ds[i] (wipeD δ vs) with
          | none => (.stuck : Res (List PyData))
          | some δ1 => match c δ1 with
            | .ok true => match m δ1 with
              | .ok y => (compR mg c m (wipeD δ vs) (ds.drop (i + 1))).bind fun ys => .ok (y :: ys)
              | _ => .stuck
            | .ok false => compR mg c m (wipeD δ vs) (ds.drop (i + 1))
            | _ => .stuck).bind fun ys => .ok (.own (.list (accd ++ ys)))) Q := k1
        cases eg : mg ds[i] (wipeD δ vs) with
        | none => rw [eg] at k2; exact k2.elim
        | some δ1 =>
          rw [eg] at k2
          simp only at k2
          refine hg B G0 G2 H2 _ _ x ds[i] δ1 _ S2 r eg fun σ3 S3 o3 => ⟨?_, ?_⟩
          · exact wipe_eq o3 hs
          · refine ht B G0 G2 H2 σ3 δ1 S3 _ ?_
            cases ec : c δ1 with
            | stuck => rw [ec] at k2; exact k2.elim
            | exc x => rw [ec] at k2; exact k2.elim
            | ok b =>
              intro b' G3 H3 st4 eb
              cases eb
              cases b with
              | true =>
                show te σ3 H3 _
                rw [ec] at k2
                simp only at k2
                refine he B G0 G3 H3 σ3 δ1 (S3.step st4) _ ?_
                cases em : m δ1 with
                | stuck => rw [em] at k2; exact k2.elim
                | exc x => rw [em] at k2; exact k2.elim
                | ok y =>
                  rw [em] at k2
                  intro v G4 H4 st5 rv
                  have st35 := (st3.trans st4).trans st5
                  have e4 : H4 Dl = some (.lst acc) := st35.h _ _ eD
                  have n4 : G4 Dl = none := st35.fr Dl nD (by rw [eD]; exact fun z => nomatch z)
                  refine ⟨acc, e4, by omega, G4, acc ++ [v], accd ++ [y], ?_, n4, upd_same, (RepL.mono st35.g ra).snoc rv, by simp; omega, ?_⟩
                  · have st := st2.trans st35
                    refine ⟨st.g, fun b u q => ?_, fun b u q => ?_, st.fr⟩
                    · rw [upd_ne (ne_of_none q hD)]; exact st.h _ _ q
                    · rw [upd_ne (ne_of_none q n4)]; exact st.gh _ _ q
                  · simp only at k2
                    generalize compR mg c m (wipeD δ vs) (ds.drop (i + 1)) = rr at k2 ⊢
                    cases rr with
                    | stuck => exact k2
                    | exc x => exact k2
                    | ok ys =>
                      rw [bind_ok, bind_ok] at k2
                      rw [bind_ok, List.append_assoc]
                      exact k2
              | false =>
                show ∃ G' acc accd, _
                rw [ec] at k2
                have st34 := st3.trans st4
                exact ⟨G3, acc, accd, st2.trans st34, st34.fr Dl nD (by rw [eD]; exact fun z => nomatch z), st34.h _ _ eD, RepL.mono st34.g ra, by omega, k2⟩
      · have e : i = ds.length := by omega
        refine .inl ⟨stop (by omega) (by omega), ?_⟩
        rw [List.drop_of_length_le (by omega)] at k1
        have k3 : ROk C W σ G H (relE C.K H) (.ok (.own (.list (accd ++ [])))) Q := k1
        rw [List.append_nil] at k3
        exact k3 (.ref Dl) G' H' (st1.trans st2) ⟨Dl, rfl, nD, st1.h.free hD, acc, eD, ra⟩
    · rw [if_neg hz] at hq'
      exact hq'.elim
theorem de_comp {elt tg iter : Expr} {ifs : List Expr} {scope : Scope} {own : List (Str × Nat)} {g : MG} {it : ML} {c : MT} {m : MD} {us : List Nat} (hfr : a.frees (own.map (·.2))) (hc : X.calm = true) (hN : X.N.Nodup) (hi : DI X a W tg iter it) (ok : BlkOk X.N X.env.scope scope own) (hu : ∀ j ∈ us, j ∈ own.map (·.2))
    (hg : ∀ (s : Shared) (H : Hp) (C : Addr) (cl : List (Str × Addr)) (fp : List Addr), DG (X.blk s H scope (compEnvC scope cl C X.env) fp) a tg g us) (ht : ∀ (s : Shared) (H : Hp) (C : Addr) (cl : List (Str × Addr)) (fp : List Addr), ∃ t, PTs (X.blk s H scope (compEnvC scope cl C X.env) fp) ifs t ∧ Snd (cn X a) W0 relB t c)
    (he : ∀ (s : Shared) (H : Hp) (C : Addr) (cl : List (Str × Addr)) (fp : List Addr), DV (X.blk s H scope (compEnvC scope cl C X.env) fp) a W0 elt m) (hs : ∀ x, foldedSetIterable iter X.env x = pure x := by intro _; rfl) :
    DE X a W (.ListComp elt [⟨tg, iter, ifs, 0⟩] scope pos) (mComp (own.map (·.2)) g it c m) := by
  obtain ⟨wi, pi, si⟩ := hi
  -- what holds of every block at once
  let tg' : TG := fun v σ H Q => ∀ s H₀ C cl fp, Classical.choose (hg s H₀ C cl fp) v σ H Q
  let tt' : TT := fun σ H Q => ∀ s H₀ C cl fp, Classical.choose (ht s H₀ C cl fp) σ H Q
  let te' : TE := fun σ H Q => ∀ s H₀ C cl fp, Classical.choose (he s H₀ C cl fp) σ H Q
  refine ⟨_, pe_lc (g := tg') (tt := tt') (te := te') hc hN pi ok (fun s H C cl fp => ⟨fun pins s1 σ H1 v u Q I r q => (Classical.choose_spec (hg s H C cl fp)).1.run pins s1 σ H1 v u Q I r (q s H C cl fp)⟩)
    (fun s H C cl fp => ⟨fun pins s1 σ H1 Q I q => (Classical.choose_spec (ht s H C cl fp)).1.run pins s1 σ H1 Q I (q s H C cl fp)⟩) (fun s H C cl fp => ⟨fun pins s1 σ H1 Q I q => (Classical.choose_spec (he s H C cl fp)).1.run pins s1 σ H1 Q I (q s H C cl fp)⟩) hs, ?_⟩
  exact snd_comp (C := cn X a) (us := us) hfr si (fun B G0 G H σ δ v d δ' Q S r e k s H₀ C cl fp => (Classical.choose_spec (hg s H₀ C cl fp)).2 B G0 G H σ δ v d δ' Q S r e k) hu
    (fun B G0 G H σ δ S Q q s H₀ C cl fp => (Classical.choose_spec (ht s H₀ C cl fp)).2 B G0 G H σ δ S Q q) (fun B G0 G H σ δ S Q q s H₀ C cl fp => (Classical.choose_spec (he s H₀ C cl fp)).2 B G0 G H σ δ S Q q)
/-- y = [..], a statement of its own -/
theorem ds_asgComp {i : Nat} {y : Str} {py : Pos} {elt tg iter : Expr} {ifs : List Expr} {scope : Scope} {own : List (Str × Nat)} {g : MG} {it : ML} {c : MT} {m : MD} {us : List Nat} {spos : Pos} (hfr : a.frees (own.map (·.2))) (hfi : a.free i) (hc : X.calm = true) (hN : X.N.Nodup) (hy : X.N[i]? = some y) (hyl : X.env.scope.names.lookup y = some .local)
    (hsw : swapsWith (.ListComp elt [⟨tg, iter, ifs, 0⟩] scope pos) (some (.Name y py)) spos.line X.env = pure true) (hi : DI X a W tg iter it) (ok : BlkOk X.N X.env.scope scope own) (hu : ∀ j ∈ us, j ∈ own.map (·.2))
    (hg : ∀ (s : Shared) (H : Hp) (C : Addr) (cl : List (Str × Addr)) (fp : List Addr), DG (X.blk s H scope (compEnvC scope cl C X.env) fp) a tg g us) (ht : ∀ (s : Shared) (H : Hp) (C : Addr) (cl : List (Str × Addr)) (fp : List Addr), ∃ t, PTs (X.blk s H scope (compEnvC scope cl C X.env) fp) ifs t ∧ Snd (cn X a) W0 relB t c)
    (he : ∀ (s : Shared) (H : Hp) (C : Addr) (cl : List (Str × Addr)) (fp : List Addr), DV (X.blk s H scope (compEnvC scope cl C X.env) fp) a W0 elt m) (hs : ∀ x, foldedSetIterable iter X.env x = pure x := by intro _; rfl) :
    DS X a W (.Assign [.Name y py] (.ListComp elt [⟨tg, iter, ifs, 0⟩] scope pos) spos) (mAsg i (mComp (own.map (·.2)) g it c m)) := by
  obtain ⟨wi, pi, si⟩ := hi
  let tg' : TG := fun v σ H Q => ∀ s H₀ C cl fp, Classical.choose (hg s H₀ C cl fp) v σ H Q
  let tt' : TT := fun σ H Q => ∀ s H₀ C cl fp, Classical.choose (ht s H₀ C cl fp) σ H Q
  let te' : TE := fun σ H Q => ∀ s H₀ C cl fp, Classical.choose (he s H₀ C cl fp) σ H Q
  refine ⟨_, ps_setLc (g := tg') (tt := tt') (te := te') hc hN hy hyl hsw pi ok (fun s H C cl fp => ⟨fun pins s1 σ H1 v u Q I r q => (Classical.choose_spec (hg s H C cl fp)).1.run pins s1 σ H1 v u Q I r (q s H C cl fp)⟩)
    (fun s H C cl fp => ⟨fun pins s1 σ H1 Q I q => (Classical.choose_spec (ht s H C cl fp)).1.run pins s1 σ H1 Q I (q s H C cl fp)⟩) (fun s H C cl fp => ⟨fun pins s1 σ H1 Q I q => (Classical.choose_spec (he s H C cl fp)).1.run pins s1 σ H1 Q I (q s H C cl fp)⟩) hs, ?_⟩
  exact sndS_asg (C := cn X a) i hfi (snd_comp (C := cn X a) (us := us) hfr si (fun B G0 G H σ δ v d δ' Q S r e k s H₀ C cl fp => (Classical.choose_spec (hg s H₀ C cl fp)).2 B G0 G H σ δ v d δ' Q S r e k) hu
    (fun B G0 G H σ δ S Q q s H₀ C cl fp => (Classical.choose_spec (ht s H₀ C cl fp)).2 B G0 G H σ δ S Q q) (fun B G0 G H σ δ S Q q s H₀ C cl fp => (Classical.choose_spec (he s H₀ C cl fp)).2 B G0 G H σ δ S Q q))
def mYes : MT := fun _ => .ok true
theorem dif_nil : ∃ t, PTs X [] t ∧ Snd (cn X a) W relB t mYes := ⟨_, pts_nil, fun B G0 G H σ δ S Q q => q true G H (Stp.refl S.gh) rfl⟩
theorem dif_one {c : MT} (h : DT X a W e c) : ∃ t, PTs X [e] t ∧ Snd (cn X a) W relB t c := let ⟨_, p, s⟩ := h; ⟨_, pts_one p, s⟩
/-! ### 4. methods that change a list of one's own -/
def mApp (i : Nat) (m : MD) : MS := fun δ => match δ[i]? with
  | some (some (.own (.list ds))) => if ds.length < sizeLine then (m δ).out δ fun d => .nx (δ.set i (some (.own (.list (ds ++ [d]))))) else .stuck
  | _ => .stuck
theorem ds_append {i : Nat} {x : Str} {m : MD} {p1 p2 pos2 : Pos} (h : DV X a W e m) (hst : starEach (e :: []) X.env = (false, eval e X.env) :: starEach [] X.env := by rfl)
    (hp : ∀ t, PA X [e] t → PE X (.Call (.Attribute (.Name x p1) "append" p2) [e] [] pos) (tBM X.K "list" rAppend (tVar i) t) := by exact fun _ ht => pe_bm PySem.F.plainAttrs_list PySem.F.slot_list_append PySem.F.type_list_append mt_append (pv _) ht)
    (hs : swapsWith (.Call (.Attribute (.Name x p1) "append" p2) [e] [] pos) none pos2.line X.env = pure false := by rfl) :
    DS X a W (.Expr (.Call (.Attribute (.Name x p1) "append" p2) [e] [] pos) pos2) (mApp i m) := by
  obtain ⟨t, p, s⟩ := h
  refine ⟨_, ps_expr (hp _ (pa_cons p pa_nil hst)) hs, ?_⟩
  intro B G0 G H σ δ D S q
  have q' : OOk (cn X a) W B G0 D (mApp i m δ) := q
  unfold mApp at q'
  split at q'
  · rename_i ds ei
    split at q'
    · rename_i hz
      obtain ⟨v, fp, ev, ⟨b, eb, ef, xs, hx, rx⟩, _⟩ := S.sl ei
      subst eb
      refine ⟨_, ev, .inl ⟨rfl, xs, .inl (.inl hx)⟩, ?_⟩
      refine snd_out s S (R := fun y H2 => rAppend (.ref b) [y] H2 fun _ H3 => D.nx σ H3) (f := fun d => .nx (δ.set i (some (.own (.list (ds ++ [d])))))) q' fun d y G' H' _ st r k => ?_
      have ex : H' b = some (.lst xs) := st.h _ _ hx
      refine ⟨b, xs, y, rfl, rfl, ex, by rw [rx.length]; exact hz, ?_⟩
      exact k σ G' _ ((S.step st).write (d' := .list (ds ++ [d])) ei ev ⟨xs ++ [y], upd_same, (RepL.mono st.g rx).snoc r⟩)
    · exact q'.elim
  · exact q'.elim
/-- l.pop() into a target -/
def popD (i : Nat) (δ : DEnv) (k : PyData → DEnv → Out) : Out := match δ[i]? with
  | some (some (.own (.list ds))) => match ds[ds.length - 1]? with
    | some d => k d (δ.set i (some (.own (.list ds.dropLast))))
    | none => .stuck
  | _ => .stuck
theorem RepL.dropLast {K : Kw} {G : Hp} {ds : List PyData} {vs : List V} (r : RepL K G vs ds) : RepL K G vs.dropLast ds.dropLast := by
  rw [List.dropLast_eq_take, List.dropLast_eq_take, r.length]
  exact r.take _
theorem snd_pop {i : Nat} {k : PyData → DEnv → Out} {B G0 G H : Hp} {σ : St} {δ : DEnv} {D : Ends} {Q : VK} (S : StR (cn X a) B G0 G H σ δ) (q : OOk (cn X a) W B G0 D (popD i δ k))
    (h : ∀ v d δ' H', StR (cn X a) B G0 G H' σ δ' → Rep X.kw G v d → OOk (cn X a) W B G0 D (k d δ') → Q v H') : tBM0 X.K "list" rPop (tVar i) σ H Q := by
  unfold popD at q
  split at q
  · rename_i ds ei
    split at q
    · rename_i d ed
      obtain ⟨v, fp, ev, ⟨b, eb, ef, xs, hx, rx⟩, _⟩ := S.sl ei
      subst eb
      obtain ⟨y, ey, ry⟩ := rx.get ed
      refine ⟨_, ev, .inl ⟨rfl, xs, .inl (.inl hx)⟩, b, xs, y, rfl, rfl, hx, by rw [rx.length]; exact ey, ?_⟩
      exact h y d _ _ (S.write (d' := .list ds.dropLast) ei ev ⟨xs.dropLast, upd_same, rx.dropLast⟩) ry q
    · exact q.elim
  · exact q.elim
def mPop (i : Nat) : MS := fun δ => popD i δ fun _ δ' => .nx δ'
def mPopG (i : Nat) (g : MG) : MS := fun δ => popD i δ fun d δ' => tgtO g δ' d
theorem ds_pop {i : Nat} {x : Str} {p1 p2 pos2 : Pos} (hp : PE X (.Call (.Attribute (.Name x p1) "pop" p2) [] [] pos) (tBM0 X.K "list" rPop (tVar i)) := by exact pe_bm0 PySem.F.plainAttrs_list PySem.F.slot_list_pop PySem.F.type_list_pop mt_pop (pv _))
    (hs : swapsWith (.Call (.Attribute (.Name x p1) "pop" p2) [] [] pos) none pos2.line X.env = pure false := by rfl) : DS X a W (.Expr (.Call (.Attribute (.Name x p1) "pop" p2) [] [] pos) pos2) (mPop i) :=
  ⟨_, ps_expr hp hs, fun B G0 G H σ δ D S q => snd_pop (W := W) (D := D) (k := fun _ δ' => .nx δ') S q fun v d δ' H' S' _ k => k σ G H' S'⟩
theorem ds_popG {i : Nat} {x : Str} {p1 p2 pos2 : Pos} {tg : Expr} {g : MG} {vs : List Nat} (hg : DG X a tg g vs) (hp : PE X (.Call (.Attribute (.Name x p1) "pop" p2) [] [] pos) (tBM0 X.K "list" rPop (tVar i)) := by exact pe_bm0 PySem.F.plainAttrs_list PySem.F.slot_list_pop PySem.F.type_list_pop mt_pop (pv _))
    (hs : swapsWithSole [tg] (.Call (.Attribute (.Name x p1) "pop" p2) [] [] pos) pos2.line X.env = pure false := by rfl) (hw : swappedStores [tg] (.Call (.Attribute (.Name x p1) "pop" p2) [] [] pos) X.env = pure none := by rfl)
    (h1 : (assignEach [tg] X.env).map (·.2) = [assign tg X.env] := by rfl) : DS X a W (.Assign [tg] (.Call (.Attribute (.Name x p1) "pop" p2) [] [] pos) pos2) (mPopG i g) := by
  obtain ⟨u, q, z⟩ := hg
  refine ⟨_, ps_asg hp q hs hw h1, fun B G0 G H σ δ D S k => ?_⟩
  refine snd_pop (W := W) (D := D) (k := fun d δ' => tgtO g δ' d) S k fun v d δ' H' S' r k' => ?_
  unfold tgtO at k'
  cases e : g d δ' with
  | none => rw [e] at k'; exact k'.elim
  | some δ2 => rw [e] at k'; exact z B G0 G H' σ δ' v d δ2 D.nx S' r e fun σ' T _ => k' σ' G H' T
/-! ### 5. try .. except C as n: -/
def Slot.noX : Option Slot → Option Slot
  | some (.exn _) => none
  | s => s
def clearX (δ : DEnv) : DEnv := δ.map Slot.noX
def dropX (i : Nat) : Out → Out
  | .nx δ => .nx ((clearX δ).set i none)
  | .bk δ => .bk ((clearX δ).set i none)
  | .ct δ => .ct ((clearX δ).set i none)
  | .rt s δ => .rt s (clearX δ)
  | .ex _ _ => .stuck
  | .stuck => .stuck
def mTryAs (i : Nat) (cc : EC) (S : List EC) (b s : MS) : MS := fun δ => match b δ with
  | .ex ⟨c, []⟩ δ' => if c ∈ S then (if isSub c cc = true then dropX i (s (δ'.set i (some (.exn ⟨c, []⟩)))) else .ex ⟨c, []⟩ δ') else .stuck
  | .ex _ _ => .stuck
  | o => o
theorem clear_at {δ : DEnv} {j : Nat} {s : Slot} (e : (clearX δ)[j]? = some (some s)) : δ[j]? = some (some s) ∧ ∀ x, s ≠ .exn x := by
  unfold clearX at e
  rw [List.getElem?_map] at e
  cases q : δ[j]? with
  | none => rw [q] at e; cases e
  | some o =>
    rw [q] at e
    have e' : Slot.noX o = some s := Option.some.inj e
    unfold Slot.noX at e'
    split at e'
    · cases e'
    · rename_i h
      subst e'
      exact ⟨rfl, fun x z => h x (by rw [z])⟩
theorem clear_of' {δ : DEnv} {j : Nat} {s : Slot} (e : δ[j]? = some (some s)) (h : ∀ x, s ≠ .exn x) : (clearX δ)[j]? = some (some s) := by
  unfold clearX
  rw [List.getElem?_map, e]
  cases s with
  | exn x => exact (h x rfl).elim
  | val d => rfl
  | own d => rfl
  | bor d => rfl
  | tr d => rfl
  | bt d => rfl
theorem SlR.cn {C C' : Cn} (hK : C.K = C'.K) {B G H : Hp} {fp : List Addr} {s : Slot} {v : V} (h : ∀ x, s ≠ .exn x) (r : SlR C B G H fp s v) : SlR C' B G H fp s v := by
  cases s with
  | val d => exact ⟨r.1, hK ▸ r.2⟩
  | own d => obtain ⟨b, eb, n, t⟩ := r; exact ⟨b, eb, n, hK ▸ t⟩
  | bor d => obtain ⟨b, eb, n, nb, t⟩ := r; exact ⟨b, eb, n, nb, hK ▸ t⟩
  | tr t => exact (hK ▸ r : Own C'.K G H v t fp)
  | bt t => obtain ⟨e, fq, o, q⟩ := r; exact ⟨e, fq, hK ▸ o, q⟩
  | exn x => exact (h x rfl).elim
theorem EnR.swap {C C' : Cn} (hK : C.K = C'.K) {B G H : Hp} {σ : St} {δ : DEnv} {fps : Nat → List Addr} (E : EnR C B G H σ δ fps) : EnR C' B G H σ (clearX δ) fps := by
  refine ⟨fun j s e => ?_, fun j h => ?_, E.nd, E.dj, E.off⟩
  · obtain ⟨e', nx⟩ := clear_at e
    obtain ⟨v, q, r⟩ := E.sl j s e'
    exact ⟨v, q, r.cn hK nx⟩
  · by_cases hs : ∃ s, δ[j]? = some (some s)
    · obtain ⟨s, e⟩ := hs
      by_cases hx : ∃ x, s = .exn x
      · obtain ⟨x, rfl⟩ := hx
        obtain ⟨v, q, r⟩ := E.sl j _ e
        exact r.1
      · exact absurd (clear_of' e fun x z => hx ⟨x, z⟩) (h s)
    · exact E.no j fun s z => hs ⟨s, z⟩
theorem StR.swap {C C' : Cn} (hK : C.K = C'.K) (hR : C.R = C'.R) {B G0 G H : Hp} {σ : St} {δ : DEnv} (S : StR C B G0 G H σ δ) : StR C' B G0 G H σ (clearX δ) :=
  ⟨S.bh, S.g0, S.gh, S.fr, by rw [S.len]; simp [clearX], by rw [← hR]; exact S.rt, let ⟨fps, E⟩ := S.en; ⟨fps, E.swap hK⟩⟩
theorem RvR.cn {C C' : Cn} (hK : C.K = C'.K) {G H : Hp} {fp : List Addr} {s : Slot} {v : V} (r : RvR C G H fp s v) : RvR C' G H fp s v := by
  cases s with
  | val d => exact ⟨r.1, hK ▸ r.2⟩
  | own d => obtain ⟨b, eb, n, t⟩ := r; exact ⟨b, eb, n, hK ▸ t⟩
  | tr t => exact (hK ▸ r : Own C'.K G H v t fp)
  | bor d => exact r.elim
  | bt t => exact r.elim
  | exn x => exact r.elim
theorem RetR.swap {C C' : Cn} (hK : C.K = C'.K) (hR : C.R = C'.R) {B G0 G H : Hp} {σ : St} {δ : DEnv} {s : Slot} {v : V} (r : RetR C B G0 G H σ δ s v) : RetR C' B G0 G H σ (clearX δ) s v :=
  ⟨r.st.swap hK hR, let ⟨fps, fp, E, z, n, q⟩ := r.en; ⟨fps, fp, E.swap hK, z.cn hK, n, q⟩⟩
/-- a frame that holds no refusal takes one -/
theorem StR.hold {C C' : Cn} (hK : C.K = C'.K) (hR : C.R = C'.R) (hA : ∀ b x, ¬ C.A b x) {B G0 G H : Hp} {σ : St} {δ : DEnv} (S : StR C B G0 G H σ δ) (i : Nat) (hf : C.free i) {b : Addr} {x : Exn} (hx : C'.A b x) : StR C' B G0 G H (σ.set i (some (.ref b))) (δ.set i (some (.exn x))) := by
  have nox : ∀ (j : Nat) (s : Slot), δ[j]? = some (some s) → ∀ x, s ≠ .exn x := fun j s e y z => by
    subst z
    obtain ⟨v, fp, q, ⟨_, c, _, z⟩, _⟩ := S.sl e
    exact hA c y z
  have hcl : clearX δ = δ := by
    refine List.ext_getElem? fun j => ?_
    cases e : δ[j]? with
    | none => unfold clearX; rw [List.getElem?_map, e]; rfl
    | some o =>
      cases o with
      | none => unfold clearX; rw [List.getElem?_map, e]; rfl
      | some s => exact clear_of' e (nox j s e)
  have T := S.swap hK hR
  rw [hcl] at T
  obtain ⟨fps, E⟩ := T.en
  have hf' : C'.free i := by unfold Cn.free; rw [← hR]; exact hf
  by_cases hi : i < δ.length
  · exact T.put E hi (Same.refl _) T.gh (fun _ _ e _ => e) (fun a h => .inl h) (fp := []) (s := .exn x) ⟨rfl, b, rfl, hx⟩ List.nodup_nil (fun a ha => nomatch ha) (fun p hp e => absurd e (hf' p hp))
  · rw [set_out hi, set_out (by rw [T.len]; exact hi)]; exact T
theorem ds_try_as {i : Nat} {n x : Str} {cc : EC} {S : List EC} {mb ms : MS} {body suite : List Stmt} {b₀ : Stmt} {np pos' : Pos} (hA : a.A = fun _ _ => False) (hs : X.stack = X.env :: X.outer) (hf : X.env.frame = some X.env.locals) (hN : X.N.Nodup) (hi : X.N[i]? = some n)
    (hln : X.env.kindOf n = some .local) (hc : Names X x (.ref (a.ec cc))) (tk : Takes X W) (hS : ∀ c ∈ S, PySem.W.exmOne X.K (.ref (a.ec c)) (.ref (a.ec cc)) = some (isSub c cc))
    (hb : ∀ (W' : WX) (pn : List (Addr × Obj)) (xe : Value → Shared → Prop), Takes (X.tr pn xe) W' → PassesOwn (model X.prog X.w) X.A X.env xe → DSs (X.tr pn xe) a W' body mb)
    (hsu : ∀ c ∈ S, ∀ (b : Addr) (oe : Obj) (pn : List (Addr × Obj)), Zc (.ref (a.ec c)) none oe → (∃ vs, oe.data = .fields vs) → DSs (X.suite b ((b, oe) :: pn)) (held1 a.ec b c a.R) W0 (b₀ :: suite) ms) (hfr : a.free i) :
    DS X a W (.Try body [.ExceptHandler (some (.Name x np)) (some n) (b₀ :: suite) pos'] [] [] pos) (mTryAs i cc S mb ms) := by
  let tb : WX → TS := fun W' D σ H => ∀ pn xe (h1 : Takes (X.tr pn xe) W') (h2 : PassesOwn (model X.prog X.w) X.A X.env xe), Classical.choose (hb W' pn xe h1 h2) D σ H
  let ts : Addr → Value → Option Addr → TS := fun b cls d D σ H => ∃ c, ∃ hc : c ∈ S, cls = .ref (a.ec c) ∧ d = none ∧ ∀ oe pn (hz : Zc (.ref (a.ec c)) none oe) (hd : ∃ vs, oe.data = .fields vs), Classical.choose (hsu c hc b oe pn hz hd) D σ H
  refine ⟨_, ps_try_as (i := i) (tb := tb) (ts := ts) hs hf hN hi hln hc tk (fun W' pn xe h1 h2 => ⟨fun pins s σ H D I q => (Classical.choose_spec (hb W' pn xe h1 h2)).1.run pins s σ H D I (q pn xe h1 h2)⟩)
    (fun b oe cls d pn hz hd => ⟨fun pins s σ H D I q => ?_⟩), ?_⟩
  · obtain ⟨c, hc, e1, e2, q⟩ := q
    subst e1 e2
    exact (Classical.choose_spec (hsu c hc b oe pn hz hd)).1.run pins s σ H D I (q oe pn hz hd)
  · intro B G0 G H σ δ D Sr q pn xe h1 h2
    refine (Classical.choose_spec (hb _ pn xe h1 h2)).2 B G0 G H σ δ D Sr ?_
    have q' : OOk (cn X a) W B G0 D (match mb δ with
      | .ex ⟨c, []⟩ δ' => if c ∈ S then (if isSub c cc = true then dropX i (ms (δ'.set i (some (.exn ⟨c, []⟩)))) else .ex ⟨c, []⟩ δ') else .stuck
      | .ex _ _ => .stuck
      | o => o) := q
    generalize mb δ = o at q'
    show OOk (cn X a) _ B G0 D o
    cases o with
    | nx δ' => exact q'
    | bk δ' => exact q'
    | ct δ' => exact q'
    | rt s δ' => exact q'
    | stuck => exact q'
    | ex x δ' =>
      obtain ⟨c, fs⟩ := x
      cases fs with
      | cons f fs => exact q'.elim
      | nil =>
        by_cases hcS : c ∈ S
        · have q2 : OOk (cn X a) W B G0 D (if c ∈ S then (if isSub c cc = true then dropX i (ms (δ'.set i (some (.exn ⟨c, []⟩)))) else .ex ⟨c, []⟩ δ') else .stuck) := q'
          rw [if_pos hcS] at q2
          intro cls d σ' G' H' T r
          obtain ⟨rc, rd⟩ := r
          have rc' : cls = .ref (a.ec c) := rc
          have rd' : d = none := rd
          subst rc' rd'
          refine ⟨isSub c cc, hS c hcS, fun hy b hb0 => ?_, fun hn => ?_⟩
          · rw [if_pos hy] at q2
            refine ⟨c, hcS, rfl, rfl, fun oe pn2 hz hd => ?_⟩
            have T' : StR (cn (X.suite b ((b, oe) :: pn2)) (held1 a.ec b c a.R)) B G0 G' H' (σ'.set i (some (.ref b))) (δ'.set i (some (.exn ⟨c, []⟩))) :=
              StR.hold (C := cn X a) (C' := cn (X.suite b ((b, oe) :: pn2)) (held1 a.ec b c a.R)) rfl rfl (fun b x z => by rw [show (cn X a).A = a.A from rfl, hA] at z; exact z) T i hfr ⟨rfl, rfl⟩
            refine (Classical.choose_spec (hsu c hcS b oe pn2 hz hd)).2 B G0 G' H' _ _ _ T' ?_
            generalize ms (δ'.set i (some (.exn ⟨c, []⟩))) = o2 at q2 ⊢
            have back : ∀ {δ2 : DEnv} {σ2 : St} {G2 H2 : Hp}, StR (cn (X.suite b ((b, oe) :: pn2)) (held1 a.ec b c a.R)) B G0 G2 H2 σ2 δ2 → StR (cn X a) B G0 G2 H2 (σ2.set i none) ((clearX δ2).set i none) :=
              fun T2 => (StR.swap (C := cn (X.suite b ((b, oe) :: pn2)) (held1 a.ec b c a.R)) (C' := cn X a) rfl rfl T2).setNone hfr none
            cases o2 with
            | nx δ2 => exact fun σ2 G2 H2 T2 => q2 _ G2 H2 (back T2)
            | bk δ2 => exact fun σ2 G2 H2 T2 => q2 _ G2 H2 (back T2)
            | ct δ2 => exact fun σ2 G2 H2 T2 => q2 _ G2 H2 (back T2)
            | rt s δ2 => exact fun v σ2 G2 H2 T2 => q2 v σ2 G2 H2 (RetR.swap (C := cn (X.suite b ((b, oe) :: pn2)) (held1 a.ec b c a.R)) (C' := cn X a) rfl rfl T2)
            | ex x δ2 => exact q2.elim
            | stuck => exact q2.elim
          · rw [if_neg (by rw [hn]; decide)] at q2
            exact q2 _ _ σ' G' H' T ⟨rfl, rfl⟩
        · have q2 : OOk (cn X a) W B G0 D (if c ∈ S then (if isSub c cc = true then dropX i (ms (δ'.set i (some (.exn ⟨c, []⟩)))) else .ex ⟨c, []⟩ δ') else .stuck) := q'
          rw [if_neg hcS] at q2
          exact q2.elim
end
end DL
/-! DLf: defs by name, the law's end, some more operators -/
namespace DL
open PySem L2
/-! ### 1. a def of the top, by its name -/
/-- the def x of the text -/
def Ln (K : PySem.W.Frag) (mg : Str → Option Value) (x : Str) (st : Stmt) (ps : List Str) : Prop :=
  ∃ fa fd, Fun K x x st fa fd ∧ mg x = some (.ref fa) ∧ Binds K fd ps []
/-- the def x keeps the promise f -/
def Fd (P : Program) (w : World) (K : PySem.W.Frag) (mg : Str → Option Value) (base : Heap) (ec : EC → Addr) (x : Str) (ps : List Str) (k : Nat) (f : F) : Prop :=
  ∃ fa fd, FnOk P w K mg base (L2.CX P w) k fa fd ps (spD ⟨⟨K, w⟩, ec, fun _ _ => False, []⟩ f) ∧ mg x = some (.ref fa) ∧ PySem.W.keepIn K (.ref fa) = true ∧ Binds K fd ps []
section
variable {P : Program} {w : World} {K : PySem.W.Frag} {mg : Str → Option Value} {base : Heap} {ec : EC → Addr}
theorem fd_of {x : Str} {st : Stmt} {N ps : List Str} {k : Nat} {b : MS} (S : FnScope N ps (defScope st)) (L : Ln K mg x st ps)
    (hbody : ∀ {f : Addr} (cdv : Value) (A : Around) (outer : List Env) (s : Shared) (H : Hp) (E : XK), Room k (A.deeper (PyProof.Rows.envOfC x (defScope st) s.heap.objs.size f cdv)) →
      DSs (cxOf (L2.CX P w) P w K mg base N x (defScope st) f cdv A outer s H E) ⟨ec, fun _ _ => False, []⟩ (fun cls d _ H' => E cls d H') (defBody st) b) :
    Fd P w K mg base ec x ps (k + 1) (mDef N.length ps.length b) := by
  obtain ⟨fa, fd, F0, hm, hb⟩ := L
  exact ⟨fa, fd, fn_d (ax := ⟨ec, fun _ _ => False, []⟩) F0 S (fun cdv A outer s H E hr => hbody cdv A outer s H E hr) rfl, hm, F0.kp, hb⟩
theorem fd_mono {x : Str} {ps : List Str} {j k : Nat} {f : F} (h : j ≤ k) (L : Fd P w K mg base ec x ps j f) : Fd P w K mg base ec x ps k f := by
  obtain ⟨fa, fd, F0, r⟩ := L
  exact ⟨fa, fd, F0.mono h, r⟩
/-- a promise that tells less -/
theorem spD_imp {C : Cn} {f g : F} (h : ∀ ss, g ss ≠ .stuck → f ss = g ss) {vs : List V} {H : Hp} {Q : VK} {E : XK} (q : spD C g vs H Q E) : spD C f vs H Q E := by
  obtain ⟨G, ss, gh, r, k⟩ := q
  refine ⟨G, ss, gh, r, ?_⟩
  rw [h ss (fun z => by rw [z] at k; exact k)]
  exact k
theorem fd_imp {x : Str} {ps : List Str} {k : Nat} {f g : F} (h : ∀ ss, g ss ≠ .stuck → f ss = g ss) (L : Fd P w K mg base ec x ps k f) : Fd P w K mg base ec x ps k g := by
  obtain ⟨fa, fd, F0, r⟩ := L
  exact ⟨fa, fd, F0.imp fun vs H Q E q => spD_imp h q, r⟩
/-- the law itself, at its address -/
theorem fnok_of {x : Str} {st : Stmt} {N ps : List Str} {k : Nat} {b : MS} {fa : Addr} {fd : FuncData} (S : FnScope N ps (defScope st)) (F0 : Fun K x x st fa fd)
    (hbody : ∀ {f : Addr} (cdv : Value) (A : Around) (outer : List Env) (s : Shared) (H : Hp) (E : XK), Room k (A.deeper (PyProof.Rows.envOfC x (defScope st) s.heap.objs.size f cdv)) →
      DSs (cxOf (L2.CX P w) P w K mg base N x (defScope st) f cdv A outer s H E) ⟨ec, fun _ _ => False, []⟩ (fun cls d _ H' => E cls d H') (defBody st) b) :
    FnOk P w K mg base (L2.CX P w) (k + 1) fa fd ps (spD ⟨⟨K, w⟩, ec, fun _ _ => False, []⟩ (mDef N.length ps.length b)) :=
  fn_d (ax := ⟨ec, fun _ _ => False, []⟩) F0 S (fun cdv A outer s H E hr => hbody cdv A outer s H E hr) rfl
end
section
variable {X : Cx} {a : Ax} {W : WX} {e e1 e2 e3 : Expr} {es : List Expr} {pos : Pos}
theorem de_callF {x : Str} {f : F} {k : Nat} {ps : List Str} {p : Pos} {m : DEnv → Res (List Slot)} (F0 : Fd X.prog X.w X.K X.mg X.base a.ec x ps k f) (hr : Room k X.A) (hg : Gl X x) (tk : Takes X W) (h : DAS X a W (e :: es) m)
    (hdb : (x == ("__debug__" : Str)) = false := by decide) (he : starEach (e :: es) X.env = (false, eval e X.env) :: starEach es X.env := by rfl) (hpl : (backTo pos (starEach es X.env)).any (·.1) = false := by rfl) : DE X a W (.Call (.Name x p) (e :: es) [] pos) (mCall f m) := by
  obtain ⟨fa, fd, F1, hm, hk, hb⟩ := F0
  exact de_call F1 hr hg hm hk hb tk h hdb he hpl
/-! ### 2. the law's call -/
theorem vals_ints {K : Kw} {G : Hp} : ∀ ns : List Int, RepL K G (ns.map V.int) (ns.map PyData.int)
  | [] => .nil
  | n :: ns => .cons (.int n) (vals_ints ns)
theorem law_sp {K : PySem.W.Frag} {w : World} {ec : EC → Addr} {H : Hp} {b : Addr} {ns : List Int} {f : F} (hS : SqL K H b (ns.map V.int)) (hf : f [.val (.list (ns.map PyData.int))] = .ok (.val (.bool true))) :
    spD ⟨⟨K, w⟩, ec, fun _ _ => False, []⟩ f [.ref b] H (fun v _ => v = .bl true) fun _ _ _ => False := by
  refine ⟨H, [.val (.list (ns.map PyData.int))], Same.refl _, .cons (Rep.lst hS (vals_ints ns)) .nil, ?_⟩
  rw [hf]
  intro v G' H' st r
  have r' : Rep ⟨K, w⟩ G' v (.bool true) := r
  cases r'
  rfl
theorem cx_none {P : Program} {w : World} {H : Hp} {s : Shared} {e : Value} {s' : Shared} (h : L2.CX P w [] H s (fun _ _ _ => False) e s') : False := by
  obtain ⟨_, _, _, _, _, _, _, _, _, _, _, _, z⟩ := h
  exact z
/-! ### 3. more operators -/
def mU (f : PyData → Res Slot) (m : MD) : ME := fun δ => (m δ).bind f
def negF : PyData → Res Slot
  | .int i => okI (-i)
  | _ => .stuck
theorem de_neg {m : MD} (h : DR X a W e m) : DE X a W (.UnaryOp .USub e pos) (mU negF m) := by
  obtain ⟨t, p, s⟩ := h
  refine ⟨_, pe_un un_neg p, ?_⟩
  refine snd_bind (rel1 := relD X.kw) (rel2 := relE X.kw) downE s (t2 := fun x _ H Q => rU (fun i => .int (-i)) x H Q) (m2 := fun d _ => negF d) ?_
  intro d v B G0 G H σ δ H0 S rd Q hq
  have hq' : ROk (cn X a) W σ G H (relE X.kw H) (negF d) Q := hq
  unfold negF at hq'
  split at hq'
  · exact ⟨_, rdr_int rd, hq' _ G H (Stp.refl S.gh) (Rep.int _)⟩
  · exact hq'.elim
def revF : PyData → Res Slot
  | .list ds => .ok (.own (.list ds.reverse))
  | _ => .stuck
theorem de_rev {m : MD} {k : Nat} {p1 p2 p3 : Pos} (h : DR X a W e m) : DE X a W (.Subscript e (.Slice none none (some (.UnaryOp .USub (.Constant (.int 1) k p1) p2)) p3) pos) (mU revF m) := by
  obtain ⟨t, p, s⟩ := h
  refine ⟨_, pe_revL p, ?_⟩
  refine snd_bind (rel1 := relD X.kw) (rel2 := relE X.kw) downE s (t2 := fun x _ H1 Q => ∃ a xs, x = .ref a ∧ SqL X.K H1 a xs ∧ ∀ p, H1 p = none → Q (.ref p) (upd H1 p (.lst xs.reverse))) (m2 := fun d _ => revF d) ?_
  intro d v B G0 G H σ δ H0 S rd Q hq
  have hq' : ROk (cn X a) W σ G H (relE X.kw H) (revF d) Q := hq
  unfold revF at hq'
  split at hq'
  · obtain ⟨b, xs, e1, q1, r1⟩ := rdr_list S.gh rd
    exact ⟨b, xs, e1, q1, new_list S.gh r1.reverse hq'⟩
  · exact hq'.elim
def mDict0 : ME := fun _ => .ok (.own (.dict []))
theorem de_dict0 : DE X a W (.Dict [] [] pos) mDict0 := ⟨_, pe_dnewK, fun B G0 G H σ δ S Q hq p hp => hq _ G _ (Stp.newH S.gh hp) ⟨p, rfl, S.gh.free hp, hp, .inl ⟨[], upd_same, .nil⟩⟩⟩
/-- a < b < c -/
def mChain (f g : PyData → PyData → Res Slot) (ma mb mc : MD) : ME := fun δ => (ma δ).bind fun x => (mb δ).bind fun y => (f x y).bind fun s => s.bl.bind fun k => if k = true then (mc δ).bind fun z => g y z else .ok (.val (.bool false))
theorem snd_chain {C : Cn} {r r' : R2} {f g : PyData → PyData → Res Slot} (hf : OpS C.K r f) (hfn : NoExc f) (hg : OpS C.K r' g) (hgn : NoExc g) {ta tb tc : TE} {ma mb mc : MD} (ha : Snd C W (relD C.K) ta ma) (hb : Snd C W (relD C.K) tb mb) (hc : Snd C W (relD C.K) tc mc) :
    Snd C W (relE C.K) (tChain r r' ta tb tc) (mChain f g ma mb mc) := by
  intro B G0 G H σ δ S Q hq
  refine ha B G0 G H σ δ S _ ?_
  have hq' : ROk C W σ G H (relE C.K H) ((ma δ).bind fun x => (mb δ).bind fun y => (f x y).bind fun s => s.bl.bind fun k => if k = true then (mc δ).bind fun z => g y z else .ok (.val (.bool false))) Q := hq
  generalize ma δ = r1 at hq'
  cases r1 with
  | stuck => exact hq'.elim
  | exc x => exact hq'
  | ok x =>
    intro vx G1 H1 st1 rx
    rw [bind_ok] at hq'
    refine hb B G0 G1 H1 σ δ (S.step st1) _ ?_
    generalize mb δ = r2 at hq'
    cases r2 with
    | stuck => exact hq'.elim
    | exc x => exact fun cls d G2 H2 s2 r => hq' cls d G2 H2 (st1.trans s2) r
    | ok y =>
      intro vy G2 H2 st2 ry
      rw [bind_ok] at hq'
      have st := st1.trans st2
      cases ef : f x y with
      | stuck => rw [ef] at hq'; exact hq'.elim
      | exc z => exact (hfn x y z ef).elim
      | ok s =>
        rw [ef, bind_ok] at hq'
        refine hf G2 H2 vx vy x y s _ st.gh (rx.mono st2.g st2.h) ry ef fun v G3 H3 st3 rv => ?_
        unfold Slot.bl at hq'
        split at hq'
        · rename_i k
          rw [bind_ok] at hq'
          have rv' : Rep C.K G3 v (.bool k) := rv
          cases rv'
          refine ⟨k, rfl, ?_⟩
          have st' := st.trans st3
          cases k with
          | true =>
            rw [if_pos rfl] at hq'
            show tc σ H3 _
            refine hc B G0 G3 H3 σ δ (S.step st') _ ?_
            generalize mc δ = r3 at hq'
            cases r3 with
            | stuck => exact hq'.elim
            | exc x => exact fun cls d G4 H4 s4 r => hq' cls d G4 H4 (st'.trans s4) r
            | ok z =>
              intro vz G4 H4 st4 rz
              rw [bind_ok] at hq'
              have st4' := st'.trans st4
              cases eg : g y z with
              | stuck => rw [eg] at hq'; exact hq'.elim
              | exc u => exact (hgn y z u eg).elim
              | ok s2 =>
                rw [eg] at hq'
                exact hg G4 H4 vy vz y z s2 Q st4'.gh (ry.mono (st3.trans st4).g (st3.trans st4).h) rz eg fun v G5 H5 s5 rv => hq' v G5 H5 (st4'.trans s5) (ResF.mono0 st4'.h rv)
          | false =>
            rw [if_neg (by decide)] at hq'
            show Q (.bl false) H3
            exact hq' _ G3 H3 st' (Rep.bl false)
        · exact hq'.elim
theorem de_chain {op op' : CmpOp} {r r' : R2} {f g : PyData → PyData → Res Slot} (hf : OpS X.kw r f) (hfn : NoExc f) (hg : OpS X.kw r' g) (hgn : NoExc g) (ho : OpR X (compareOp op) r) (ho' : OpR X (compareOp op') r') {ma mb mc : MD} (ha : DR X a W e1 ma) (hb : DR X a W e2 mb) (hc : DR X a W e3 mc)
    (hm : lastMarks [op, op'] [e2, e3] = false := by with_unfolding_all rfl) : DE X a W (.Compare e1 [op, op'] [e2, e3] pos) (mChain f g ma mb mc) :=
  let ⟨_, pa, sa⟩ := ha; let ⟨_, pb, sb⟩ := hb; let ⟨_, pc, sc⟩ := hc; ⟨_, pe_chain ho ho' pa pb pc hm, snd_chain (C := cn X a) hf hfn hg hgn sa sb sc⟩
theorem dt_chain {op op' : CmpOp} {r r' : R2} {f g : PyData → PyData → Res Slot} (hf : OpS X.kw r f) (hfn : NoExc f) (hg : OpS X.kw r' g) (hgn : NoExc g) (ho : OpR X (compareOp op) r) (ho' : OpR X (compareOp op') r') {ma mb mc : MD} (ha : DR X a W e1 ma) (hb : DR X a W e2 mb) (hc : DR X a W e3 mc)
    (hm : lastMarks [op, op'] [e2, e3] = false := by with_unfolding_all rfl) : DT X a W (.Compare e1 [op, op'] [e2, e3] pos) (mTest (mChain f g ma mb mc)) :=
  let ⟨_, pa, sa⟩ := ha; let ⟨_, pb, sb⟩ := hb; let ⟨_, pc, sc⟩ := hc; ⟨_, pt_chain ho ho' pa pb pc hm, snd_test (C := cn X a) (snd_chain (C := cn X a) hf hfn hg hgn sa sb sc)⟩
theorem isNotF_ne : NoExc (isF true) := isF_ne
/-- for over a list or a tuple -/
def asSeq : PyData → Res (List PyData)
  | .list ds => .ok ds
  | .tuple ds => .ok ds
  | _ => .stuck
end
end DL
/-! DLg: walking a list, a tuple or a text; str(n) -/
namespace DL
open PySem L2
section
variable {X : Cx} {a : Ax} {W : WX} {e e1 e2 e3 tg : Expr} {es : List Expr} {pos : Pos}
def iSeq (K : PySem.W.Frag) (tl : TE) : TI := fun σ H R => tl σ H fun x H1 => (∃ a, x = .ref a ∧ (∃ xs, SqL K H1 a xs) ∧ R (Itl K a) H1) ∨ (∃ a, x = .ref a ∧ (∃ xs, SqT K H1 a xs) ∧ R (Itt K a) H1) ∨ ∃ z, x = .str z ∧ R (Its z) H1
theorem pi_seq {l : Expr} {tl : TE} (hl : PE X l tl) : PI X tg l (iSeq X.K tl) := by
  refine ⟨fun pins s σ H R I h => ?_⟩
  refine thn (hl.run pins s σ H _ I h) fun v s1 ⟨x, H1, I1, r1, q1⟩ => ?_
  rcases q1 with ⟨b, e, q, k⟩ | ⟨b, e, q, k⟩ | ⟨z, e, k⟩
  · have p : PI X tg l (iList X.K fun _ _ Q => Q x H1) → True := fun _ => trivial
    subst e
    obtain ⟨xs, hq⟩ := q
    cases r1
    obtain ⟨its, rv, p, hz⟩ := I1.list hq
    refine wpAny_pyIter_list p.isList ?_
    refine ⟨s1.heap.objs.size, [s1.heap.objs.size], _, _, H1, rfl, I1.kept (t' := s1.toks) fun b o e => Heap.get?_push_of_some _ e, turn_list b _, ⟨_, Heap.get?_push_size _ rfl, rfl, rfl⟩, fun b hb => ?_, k⟩
    have e : b = s1.heap.objs.size := by simpa using hb
    subst e
    exact I1.fpOk (Nat.le_refl _) (I1.hok.fresh (Nat.le_refl _))
  · subst e
    obtain ⟨xs, hq⟩ := q
    cases r1
    obtain ⟨its, rv, p, hz⟩ := I1.tuple hq
    refine wpAny_pyIter_tuple (show s1.heap.IsTuple b its.toArray from p) ?_
    refine ⟨s1.heap.objs.size, [s1.heap.objs.size], _, _, H1, rfl, I1.kept (t' := s1.toks) fun b o e => Heap.get?_push_of_some _ e, turn_tuple b _, ⟨_, Heap.get?_push_size _ rfl, rfl, rfl⟩, fun b hb => ?_, k⟩
    have e : b = s1.heap.objs.size := by simpa using hb
    subst e
    exact I1.fpOk (Nat.le_refl _) (I1.hok.fresh (Nat.le_refl _))
  · subst e
    obtain ⟨t, rfl⟩ := r1
    cases ha : z.cps.all (· < 128)
    · exact wpAny_pyIter_wide ha (pi_one (tk := s1.toks) I1 _ (turn_str _ z t "str_iterator" (.inr rfl)) ⟨_, Heap.get?_push_size _ rfl, rfl, rfl⟩ k)
    · exact wpAny_pyIter_ascii ha (pi_one (tk := s1.toks) I1 _ (turn_str _ z t "str_ascii_iterator" (.inl rfl)) ⟨_, Heap.get?_push_size _ rfl, rfl, rfl⟩ k)
def signs (z : Str) : List PyData := z.cps.toList.map fun c => .str ⟨#[c]⟩
theorem gives_str {C : Cn} {B G : Hp} {z : Str} : Gives C B (Its z) G (signs z) := by
  intro i G1 H1 g s _
  have hl : (signs z).length = z.cps.size := by simp [signs]
  refine ⟨fun d e => ?_, fun h1 _ => by rw [hl] at h1; exact h1⟩
  have hi : i < z.cps.size := by
    have := (List.getElem?_eq_some_iff.mp e).1
    rw [hl] at this; exact this
  refine ⟨hi, fun x H' y => ?_⟩
  obtain ⟨e1, c, e2, e3⟩ := y
  subst e1 e3
  have ed : d = .str ⟨#[c]⟩ := by
    have h3 : (signs z)[i]? = some (.str ⟨#[c]⟩) := by
      unfold signs
      rw [List.getElem?_map, Array.getElem?_toList, e2]
      rfl
    rw [h3] at e; cases e; rfl
  subst ed
  exact ⟨G1, Stp.refl s, .str _⟩
def seqOf : PyData → Res (List PyData)
  | .list ds => .ok ds
  | .tuple ds => .ok ds
  | .str z => .ok (signs z)
  | _ => .stuck
def miQ (m : MD) : ML := fun δ => (m δ).bind seqOf
theorem di_seq {tg : Expr} {m : MD} (h : DV X a W e m) : DI X a W tg e (miQ m) := by
  obtain ⟨t, p, s⟩ := h
  refine ⟨_, pi_seq p, fun B G0 G H σ δ S R q => ?_⟩
  refine s B G0 G H σ δ S _ ?_
  have q' : ROk (cn X a) W σ G H (fun G' _ ds J => Gives (cn X a) B J G' ds) ((m δ).bind seqOf) R := q
  generalize m δ = r at q'
  cases r with
  | stuck => exact q'.elim
  | exc x => exact q'
  | ok d =>
    intro v G' H' st rp
    cases rp with
    | lst h r => exact .inl ⟨_, rfl, ⟨_, sqL_mono st.gh h⟩, q' _ G' H' st (gives_list (C := cn X a) h r)⟩
    | tup h r => exact .inr (.inl ⟨_, rfl, ⟨_, sqT_mono st.gh h⟩, q' _ G' H' st (gives_tup (C := cn X a) h r)⟩)
    | str x => exact .inr (.inr ⟨_, rfl, q' _ G' H' st gives_str⟩)
    | dk _ _ => exact q'.elim
    | dn _ _ _ => exact q'.elim
    | non => exact q'.elim
    | bl _ => exact q'.elim
    | int _ => exact q'.elim
/-- a local name's list, text or tuple; a borrowed list stays as it is while the def runs -/
def miV (i : Nat) : ML := fun δ => match δ[i]? with
  | some (some (.val d)) => seqOf d
  | some (some (.bor (.list ds))) => .ok ds
  | _ => .stuck
theorem gives_bor {C : Cn} {B G : Hp} {p : Addr} {xs : List V} {ds : List PyData} (h : B p = some (.lst xs)) (r : RepL C.K G xs ds) : Gives C B (Itl C.K p) G ds := by
  intro i G1 H1 g s sb
  have q : SqL C.K H1 p xs := .inl (.inl (sb _ _ h))
  refine ⟨fun d e => ?_, fun h1 h2 => ⟨xs, q, by rw [r.length]; exact h1⟩⟩
  obtain ⟨v, ev, rv⟩ := r.get e
  refine ⟨⟨xs, v, q, ev⟩, fun x H' y => ?_⟩
  obtain ⟨e1, y⟩ := y
  subst e1
  have e2 := y xs q
  rw [ev] at e2; cases e2
  exact ⟨G1, Stp.refl s, rv.mono g⟩
theorem di_var (i : Nat) {x : Str} {p : Pos} (hN : X.N[i]? = some x := by rfl) (hv : Vis X.env.scope x := by first | exact Or.inl rfl | exact Or.inr (Or.inl rfl) | exact Or.inr (Or.inr rfl)) (hd : (x == ("__debug__" : Str)) = false := by decide)
    (hcd : (x == ("__classdict__" : Str)) = false := by decide) : DI X a W tg (.Name x p) (miV i) := by
  refine ⟨_, pi_seq (pe_var hN hv hd hcd), fun B G0 G H σ δ S R q => ?_⟩
  unfold miV at q
  split at q
  · rename_i d e
    obtain ⟨v, fp, ev, ⟨_, rp⟩, _⟩ := S.sl e
    refine ⟨v, ev, ?_⟩
    have st := Stp.refl S.gh
    have q' : ROk (cn X a) W σ G H (fun G' _ ds J => Gives (cn X a) B J G' ds) (seqOf d) R := q
    cases rp with
    | lst h r => exact .inl ⟨_, rfl, ⟨_, sqL_mono st.gh h⟩, q' _ G H st (gives_list (C := cn X a) h r)⟩
    | tup h r => exact .inr (.inl ⟨_, rfl, ⟨_, sqT_mono st.gh h⟩, q' _ G H st (gives_tup (C := cn X a) h r)⟩)
    | str x => exact .inr (.inr ⟨_, rfl, q' _ G H st gives_str⟩)
    | dk _ _ => exact q'.elim
    | dn _ _ _ => exact q'.elim
    | non => exact q'.elim
    | bl _ => exact q'.elim
    | int _ => exact q'.elim
  · rename_i ds e
    obtain ⟨v, fp, ev, ⟨b, rfl, _, nb, t⟩, _⟩ := S.sl e
    refine ⟨_, ev, ?_⟩
    obtain ⟨xs, hx, r⟩ := t
    have hb : B b = some (.lst xs) := by
      cases hz : B b with
      | none => exact absurd hz nb
      | some c => have := S.bh _ _ hz; rw [hx] at this; rw [← this]
    exact .inl ⟨_, rfl, ⟨xs, .inl (.inl hx)⟩, q _ G H (Stp.refl S.gh) (gives_bor (C := cn X a) hb r)⟩
  · exact q.elim
/-- str(n) -/
def strF : List PyData → Res Slot
  | [.int i] => if i.natAbs.log2 < 1920 then okV (.str (toString i)) else .stuck
  | _ => .stuck
theorem strF_ok {K : Kw} : CallS K (fun xs H Q => ∃ i, xs = [.int i] ∧ i.natAbs.log2 < 1920 ∧ Q (.str (toString i)) H) strF := by
  refine ⟨fun G H vs ds s Q g rd ef q => ?_, fun ds x => ?_⟩
  · unfold strF at ef
    split at ef
    · split at ef
      · rename_i hz
        cases ef
        obtain ⟨v, ev, r⟩ := rdl1 rd
        cases rdr_int r
        exact ⟨_, ev, hz, q _ G H (Stp.refl g) (Rep.str _)⟩
      · cases ef
    · cases ef
  · unfold strF
    split <;> (try split) <;> (intro h; cases h)
/-- in, not in: a text in a text; data in a list or tuple of data -/
def rInT (K : PySem.W.Frag) (neg : Bool) : R2 := fun x y H Q => ∃ d ds, Dp K H x d ∧ Dp K H y (.tuple ds) ∧ SeqAt.shaped d = true ∧ SeqAt.shaped (.tuple ds) = true ∧ Q (.bl (neg != ds.any fun z => PyData.eqv z d)) H
theorem op_inTup (hu : X.A.units + 65 < cLine) : OpR X (compareOp .In) (rInT X.K false) := by
  intro pins s σ H x y v u Q I rx ry h
  obtain ⟨d, ds, hd, he, sd, se, q⟩ := h
  obtain ⟨as, r1⟩ := Dp.reads I d x v hd rx
  obtain ⟨bs, r2⟩ := Dp.reads I (.tuple ds) y u he ry
  exact SeqAt.in_tuple_reads r2 r1 (SeqAt.canLay_of_shaped se) (SeqAt.canLay_of_shaped sd) (PyProof.Rows.room_in_shaped sd hu) ⟨.bl _, H, I, rfl, by simpa using q⟩
theorem op_notInTup (hu : X.A.units + 65 < cLine) : OpR X (compareOp .NotIn) (rInT X.K true) := by
  intro pins s σ H x y v u Q I rx ry h
  obtain ⟨d, ds, hd, he, sd, se, q⟩ := h
  obtain ⟨as, r1⟩ := Dp.reads I d x v hd rx
  obtain ⟨bs, r2⟩ := Dp.reads I (.tuple ds) y u he ry
  exact SeqAt.notIn_tuple_reads r2 r1 (SeqAt.canLay_of_shaped se) (SeqAt.canLay_of_shaped sd) (PyProof.Rows.room_in_shaped sd hu) ⟨.bl _, H, I, rfl, by simpa using q⟩
def strIn (x z : Str) : Bool := !(Builtin.Str.occurrences z x 0 z.length 1).isEmpty
def inF (neg : Bool) (d : PyData) : PyData → Res Slot
  | .str z => match d with
    | .str x => okB (neg != strIn x z)
    | _ => .stuck
  | .list ds => if SeqAt.shaped d = true ∧ SeqAt.shaped (.list ds) = true then okB (neg != ds.any fun z => PyData.eqv z d) else .stuck
  | .tuple ds => if SeqAt.shaped d = true ∧ SeqAt.shaped (.tuple ds) = true then okB (neg != ds.any fun z => PyData.eqv z d) else .stuck
  | _ => .stuck
def rInA (K : PySem.W.Frag) : R2 := fun x y H Q => (∃ i j, x = .str i ∧ y = .str j ∧ Q (.bl (!(Builtin.Str.occurrences j i 0 j.length 1).isEmpty)) H) ∨ (rInD K x y H Q ∨ rInT K false x y H Q)
def rNotInA (K : PySem.W.Frag) : R2 := fun x y H Q => (∃ i j, x = .str i ∧ y = .str j ∧ Q (.bl (!(!(Builtin.Str.occurrences j i 0 j.length 1).isEmpty))) H) ∨ (rNotInD K x y H Q ∨ rInT K true x y H Q)
theorem op_inA {k : Nat} (hr : Room k X.A) : OpR X (compareOp .In) (rInA X.K) := op_in_str.or ((L2.op_inD (by have := hr.un; omega)).or (op_inTup (by have := hr.un; omega)))
theorem op_notInA {k : Nat} (hr : Room k X.A) : OpR X (compareOp .NotIn) (rNotInA X.K) := op_notin_str.or ((L2.op_notInD (by have := hr.un; omega)).or (op_notInTup (by have := hr.un; omega)))
theorem inF_ok {K : Kw} : OpS K (rInA K) (inF false) := by
  intro G H x y d e s Q g rx ry ef q
  unfold inF at ef
  split at ef
  · split at ef
    · cases ef
      cases rdr_str rx; cases rdr_str ry
      exact .inl ⟨_, _, rfl, rfl, by have h := q (.bl (false != strIn _ _)) G H (Stp.refl g) (Rep.bl _); simpa [strIn] using h⟩
    · cases ef
  · split at ef
    · rename_i hz
      cases ef
      refine .inr (.inl ⟨d, _, rdr_dp g (SeqAt.canLay_of_shaped hz.1) rx, rdr_dp g (SeqAt.canLay_of_shaped hz.2) ry, hz.1, hz.2, ?_⟩)
      have h := q (.bl _) G H (Stp.refl g) (Rep.bl _)
      simpa using h
    · cases ef
  · split at ef
    · rename_i hz
      cases ef
      exact .inr (.inr ⟨d, _, rdr_dp g (SeqAt.canLay_of_shaped hz.1) rx, rdr_dp g (SeqAt.canLay_of_shaped hz.2) ry, hz.1, hz.2, q (.bl _) G H (Stp.refl g) (Rep.bl _)⟩)
    · cases ef
  · cases ef
theorem notInF_ok {K : Kw} : OpS K (rNotInA K) (inF true) := by
  intro G H x y d e s Q g rx ry ef q
  unfold inF at ef
  split at ef
  · split at ef
    · cases ef
      cases rdr_str rx; cases rdr_str ry
      exact .inl ⟨_, _, rfl, rfl, by have h := q (.bl (true != strIn _ _)) G H (Stp.refl g) (Rep.bl _); simpa [strIn] using h⟩
    · cases ef
  · split at ef
    · rename_i hz
      cases ef
      refine .inr (.inl ⟨d, _, rdr_dp g (SeqAt.canLay_of_shaped hz.1) rx, rdr_dp g (SeqAt.canLay_of_shaped hz.2) ry, hz.1, hz.2, ?_⟩)
      have h := q (.bl _) G H (Stp.refl g) (Rep.bl _)
      simpa using h
    · cases ef
  · split at ef
    · rename_i hz
      cases ef
      exact .inr (.inr ⟨d, _, rdr_dp g (SeqAt.canLay_of_shaped hz.1) rx, rdr_dp g (SeqAt.canLay_of_shaped hz.2) ry, hz.1, hz.2, q (.bl _) G H (Stp.refl g) (Rep.bl _)⟩)
    · cases ef
  · cases ef
theorem inF_ne {neg : Bool} : NoExc (inF neg) := fun d e x => by
  unfold inF
  split <;> (try split) <;> (intro h; cases h)
theorem notInF_ne : NoExc (inF true) := inF_ne
end
end DL
/-! DLs: what the denotations come to, for simp -/
namespace DL
open PySem L2
section
variable {m n : MS} {δ : DEnv} {i k : Nat} {me mf : ME} {ma mb mc : MD} {c e : MT} {f : PyData → PyData → Res Slot} {ml : ML}
@[simp] theorem mSeq_ap : mSeq m n δ = (match m δ with | .nx δ' => n δ' | o => o) := (rfl)
@[simp] theorem mNext_ap : mNext δ = .nx δ := (rfl)
@[simp] theorem mBk_ap : mBk δ = .bk δ := (rfl)
@[simp] theorem mCt_ap : mCt δ = .ct δ := (rfl)
@[simp] theorem mFrz_ap : mFrz i m δ = m (frz i δ) := (rfl)
@[simp] theorem mDrop_ap : mDrop me δ = (me δ).out δ fun _ => .nx δ := (rfl)
@[simp] theorem mRet_ap : mRet me δ = (me δ).out δ (retS δ) := (rfl)
@[simp] theorem retS_val {d : PyData} : retS δ (.val d) = .rt (.val d) δ := (rfl)
@[simp] theorem retS_own {d : PyData} : retS δ (.own d) = .rt (.own d) δ := (rfl)
@[simp] theorem retS_tr {t : T} : retS δ (.tr t) = .rt (.tr t) δ := (rfl)
@[simp] theorem mRetN_ap : mRetN i δ = (match δ[i]? with | some (some (.val d)) => .rt (.val d) δ | some (some (.own d)) => .rt (.own d) (δ.set i none) | some (some (.tr t)) => .rt (.tr t) (δ.set i none) | _ => .stuck) := (rfl)
@[simp] theorem mRet0_ap : mRet0 δ = .rt (.val .none) δ := (rfl)
@[simp] theorem mIf_ap : mIf c m n δ = (c δ).out δ fun b => if b = true then m δ else n δ := (rfl)
@[simp] theorem mAsg_ap : mAsg i me δ = (me δ).out δ (asgS i δ) := (rfl)
@[simp] theorem asgS_val {d : PyData} : asgS i δ (.val d) = .nx (δ.set i (some (.val d))) := (rfl)
@[simp] theorem asgS_own {d : PyData} : asgS i δ (.own d) = .nx (δ.set i (some (.own d))) := (rfl)
@[simp] theorem asgS_tr {t : T} : asgS i δ (.tr t) = .nx (δ.set i (some (.tr t))) := (rfl)
@[simp] theorem asgS_bor {d : PyData} : asgS i δ (.bor d) = .stuck := (rfl)
@[simp] theorem mRaise_ap {x : Exn} : mRaise x δ = .ex x δ := (rfl)
@[simp] theorem mVar_ap : mVar i δ = (match δ[i]? with | some (some (.val d)) => .ok (.val d) | some (some (.own d)) => .ok (.bor d) | some (some (.bor d)) => .ok (.bor d) | some (some (.tr t)) => .ok (.bt t) | some (some (.bt t)) => .ok (.bt t) | _ => .stuck) := (rfl)
@[simp] theorem mC_ap {d : PyData} : mC d δ = .ok (.val d) := (rfl)
@[simp] theorem mV_ap : mV me δ = (me δ).bind Slot.vl := (rfl)
@[simp] theorem mR_ap : mR me δ = (me δ).bind Slot.rd := (rfl)
@[simp] theorem mB_ap : mB f ma mb δ = (ma δ).bind fun d => (mb δ).bind fun e => f d e := (rfl)
@[simp] theorem mU_ap {g : PyData → Res Slot} : mU g ma δ = (ma δ).bind g := (rfl)
@[simp] theorem mTest_ap : mTest me δ = (me δ).bind Slot.bl := (rfl)
@[simp] theorem mAnd_ap : mAnd c e δ = (c δ).bind fun b => if b = true then e δ else .ok false := (rfl)
@[simp] theorem mOr_ap : mOr c e δ = (c δ).bind fun b => if b = true then .ok true else e δ := (rfl)
@[simp] theorem mNot_ap : mNot c δ = (c δ).bind fun b => .ok (!b) := (rfl)
@[simp] theorem mAndV_ap : mAndV me mf δ = (mTest me δ).bind fun b => if b = true then mf δ else .ok (.val (.bool false)) := (rfl)
@[simp] theorem mOrV_ap : mOrV me mf δ = (mTest me δ).bind fun b => if b = true then .ok (.val (.bool true)) else mf δ := (rfl)
@[simp] theorem mNotV_ap : mNotV me δ = (mTest me δ).bind fun b => .ok (.val (.bool (!b))) := (rfl)
@[simp] theorem mIte_ap : mIte c me mf δ = (c δ).bind fun b => if b = true then me δ else mf δ := (rfl)
@[simp] theorem mNil_ap : mNil δ = .ok [] := (rfl)
@[simp] theorem mCons_ap : mCons ma ml δ = (ma δ).bind fun d => (ml δ).bind fun ds => .ok (d :: ds) := (rfl)
@[simp] theorem mTup_ap : mTup ml δ = (ml δ).bind fun ds => if fits ds = true then .ok (.val (.tuple ds)) else .stuck := (rfl)
@[simp] theorem mLst_ap : mLst ml δ = (ml δ).bind fun ds => if fits ds = true then .ok (.own (.list ds)) else .stuck := (rfl)
@[simp] theorem mBi_ap {g : List PyData → Res Slot} : mBi g ml δ = (ml δ).bind g := (rfl)
@[simp] theorem mANil_ap : mANil δ = .ok [] := (rfl)
@[simp] theorem mACons_ap {ms : DEnv → Res (List Slot)} : mACons me ms δ = (me δ).bind fun s => s.arg.bind fun s => (ms δ).bind fun ss => .ok (s :: ss) := (rfl)
@[simp] theorem mCall_ap {g : F} {ms : DEnv → Res (List Slot)} : mCall g ms δ = (ms δ).bind g := (rfl)
@[simp] theorem mIsi_ap {T : String} : mIsi T ma δ = (ma δ).bind (isiF T) := (rfl)
@[simp] theorem mO0_ap : mO0 δ = .ok none := (rfl)
@[simp] theorem mO_ap : mO ma δ = (ma δ).bind asI := (rfl)
@[simp] theorem asI_int {j : Int} : asI (.int j) = .ok (some j) := (rfl)
@[simp] theorem mSl_ap {l h : DEnv → Res (Option Int)} : mSl ma l h δ = (ma δ).bind fun d => (l δ).bind fun lo => (h δ).bind fun hi => slF d lo hi := (rfl)
@[simp] theorem mFor_ap {g : MG} : mFor g ml m δ = (ml δ).out δ fun ds => loopO g m ds δ := (rfl)
@[simp] theorem mRng1_ap : mRng1 ml δ = (ml δ).bind rng1 := (rfl)
@[simp] theorem mRng2_ap : mRng2 ml δ = (ml δ).bind rng2 := (rfl)
@[simp] theorem miL_ap : miL ma δ = (ma δ).bind asList := (rfl)
@[simp] theorem miT_ap : miT ma δ = (ma δ).bind asTuple := (rfl)
@[simp] theorem mDict0_ap : mDict0 δ = .ok (.own (.dict [])) := (rfl)
@[simp] theorem mChain_ap {g : PyData → PyData → Res Slot} : mChain f g ma mb mc δ = (ma δ).bind fun x => (mb δ).bind fun y => (f x y).bind fun s => s.bl.bind fun k => if k = true then (mc δ).bind fun z => g y z else .ok (.val (.bool false)) := (rfl)
end
end DL
namespace DL
open PySem L2
section
variable {α β : Type} {a : α} {x : Exn} {g : α → Res β} {h : α → Out} {δ : DEnv} {i : Nat} {d : PyData}
@[simp] theorem bind_ok' : (Res.ok a).bind g = g a := (rfl)
@[simp] theorem bind_exc' : (Res.exc x : Res α).bind g = .exc x := (rfl)
@[simp] theorem bind_stuck' : (Res.stuck : Res α).bind g = .stuck := (rfl)
@[simp] theorem out_ok' : (Res.ok a).out δ h = h a := (rfl)
@[simp] theorem out_exc' : (Res.exc x : Res α).out δ h = .ex x δ := (rfl)
@[simp] theorem out_stuck' : (Res.stuck : Res α).out δ h = .stuck := (rfl)
@[simp] theorem vl_val : (Slot.val d).vl = .ok d := (rfl)
@[simp] theorem vl_own : (Slot.own d).vl = .ok d := (rfl)
@[simp] theorem vl_bor : (Slot.bor d).vl = .stuck := (rfl)
@[simp] theorem rd_val : (Slot.val d).rd = .ok d := (rfl)
@[simp] theorem rd_own : (Slot.own d).rd = .ok d := (rfl)
@[simp] theorem rd_bor : (Slot.bor d).rd = .ok d := (rfl)
@[simp] theorem arg_val : (Slot.val d).arg = .ok (.val d) := (rfl)
@[simp] theorem arg_own : (Slot.own d).arg = .ok (.val d) := (rfl)
@[simp] theorem arg_bt {t : T} : (Slot.bt t).arg = .ok (.bt t) := (rfl)
@[simp] theorem arg_bor : (Slot.bor d).arg = .ok (.bor d) := (rfl)
@[simp] theorem bl_bool {b : Bool} : (Slot.val (.bool b)).bl = .ok b := (rfl)
@[simp] theorem okV_eq : okV d = .ok (.val d) := (rfl)
@[simp] theorem okI_eq {j : Int} : okI j = .ok (.val (.int j)) := (rfl)
@[simp] theorem okB_eq {b : Bool} : okB b = .ok (.val (.bool b)) := (rfl)
@[simp] theorem res_rt {s : Slot} : (Out.rt s δ).res = .ok s := (rfl)
@[simp] theorem res_nx : (Out.nx δ).res = .ok (.val .none) := (rfl)
@[simp] theorem res_ex : (Out.ex x δ).res = .exc x := (rfl)
@[simp] theorem addF_int {a b : Int} : addF (.int a) (.int b) = .ok (.val (.int (a + b))) := (rfl)
@[simp] theorem subF_int {a b : Int} : subF (.int a) (.int b) = .ok (.val (.int (a - b))) := (rfl)
@[simp] theorem cmpF_int {a b : Int} {p : Int → Int → Bool} : cmpF p (.int a) (.int b) = .ok (.val (.bool (p a b))) := (rfl)
theorem shaped_int (a : Int) : SeqAt.shaped (.int a) = true := by
  unfold SeqAt.shaped
  simp [PyData.canLay0, PyData.depth]
theorem shaped_bool (a : Bool) : SeqAt.shaped (.bool a) = true := by
  unfold SeqAt.shaped
  simp [PyData.canLay0, PyData.depth]
theorem shaped_none : SeqAt.shaped .none = true := by
  unfold SeqAt.shaped
  simp [PyData.canLay0, PyData.depth]
@[simp] theorem eqF_int {a b : Int} : eqF (.int a) (.int b) = .ok (.val (.bool (a == b))) := by
  unfold eqF
  rw [if_pos ⟨shaped_int a, shaped_int b⟩]
  rfl
@[simp] theorem neF_int {a b : Int} : neF (.int a) (.int b) = .ok (.val (.bool (!(a == b)))) := by
  unfold neF
  rw [if_pos ⟨shaped_int a, shaped_int b⟩]
  rfl
@[simp] theorem isF_bool {neg a b : Bool} : isF neg (.bool a) (.bool b) = .ok (.val (.bool (neg != decide (a = b)))) := (rfl)
/-- // and % by a positive number -/
theorem divF_pos {a b : Int} (hb : 0 < b) (h : b.natAbs.log2 < 9000) : divF (.int a) (.int b) = .ok (.val (.int (a / b))) := by
  have hc : CDivA a b := ⟨by omega, PyProof.noPylong_of_log2 h⟩
  show (if CDivA a b then okI (a.fdiv b) else .stuck) = _
  rw [if_pos hc, Int.fdiv_eq_ediv_of_nonneg a (by omega)]
  rfl
theorem modF_pos {a b : Int} (hb : 0 < b) : modF (.int a) (.int b) = .ok (.val (.int (a % b))) := by
  show (if b ≠ 0 then okI (a.fmod b) else .stuck) = _
  rw [if_pos (by omega), Int.fmod_eq_emod_of_nonneg a (by omega)]
  rfl
theorem mulF_ok' {a b : Int} (h : IntMulOk a b) : mulF (.int a) (.int b) = .ok (.val (.int (a * b))) := by
  show (if IntMulOk a b then okI (a * b) else .stuck) = _
  rw [if_pos h]
  rfl
theorem log2_lt {n k : Nat} (hk : 0 < k) (h : n < 2 ^ k) : n.log2 < k := by
  by_cases h0 : n = 0
  · subst h0; simpa using hk
  · exact (Nat.log2_lt h0).mpr h
/-- products of numbers below 2 ^ (2 ^ 26) in all -/
theorem mulOk_pow {a b : Int} {k l : Nat} (hk : 0 < k) (hl : 0 < l) (ha : a.natAbs < 2 ^ k) (hb : b.natAbs < 2 ^ l) (h : k + l ≤ 134217000) : IntMulOk a b := by
  have w : ∀ x : Int, Builtin.Int.intBits x ≤ x.natAbs.log2 + 1 := fun x => by
    unfold Builtin.Int.intBits
    split <;> omega
  have h1 := w a
  have h2 := w b
  have h3 := log2_lt hk ha
  have h4 := log2_lt hl hb
  have e : bitsLine = 134217728 := by decide
  unfold IntMulOk
  intro z
  rw [Bool.and_eq_true] at z
  have z2 := z.2
  unfold Builtin.Int.intTooBig at z2
  have z3 := of_decide_eq_true z2
  rw [e] at z3
  omega
/-- one factor below 2 ^ 64 -/
theorem mulOk_small {a b : Int} (h : (-(2 ^ 64) < a ∧ a < 2 ^ 64) ∨ (-(2 ^ 64) < b ∧ b < 2 ^ 64)) : IntMulOk a b := by
  rcases h with h | h
  · exact .of_left (intBits_le_64 h.1 h.2)
  · exact .of_right (intBits_le_64 h.1 h.2)
@[simp] theorem divF_lit {a b : Int} (hb : 0 < b) (h : b < 18446744073709551616) : divF (.int a) (.int b) = .ok (.val (.int (a / b))) := divF_pos hb (Nat.lt_trans (log2_lt (k := 64) (by decide) (by omega)) (by decide))
@[simp] theorem modF_lit {a b : Int} (hb : 0 < b) : modF (.int a) (.int b) = .ok (.val (.int (a % b))) := modF_pos hb
@[simp] theorem mulF_litr {a b : Int} (h1 : -18446744073709551616 < b) (h2 : b < 18446744073709551616) : mulF (.int a) (.int b) = .ok (.val (.int (a * b))) := mulF_ok' (mulOk_small (.inr ⟨by omega, by omega⟩))
@[simp] theorem mulF_litl {a b : Int} (h1 : -18446744073709551616 < a) (h2 : a < 18446744073709551616) : mulF (.int a) (.int b) = .ok (.val (.int (a * b))) := mulF_ok' (mulOk_small (.inl ⟨by omega, by omega⟩))
@[simp] theorem powF_lit {a b : Int} (h0 : 0 ≤ b) (h1 : b ≤ 1000000) (h2 : a.natAbs < 18446744073709551616) : powF (.int a) (.int b) = .ok (.val (.int (a ^ b.toNat))) := by
  show (if CPow a b then okI (a ^ b.toNat) else .stuck) = _
  rw [if_pos ⟨h0, h1, by omega⟩]
  rfl
@[simp] theorem ixF_list {ds : List PyData} {j : Int} : ixF (.list ds) (.int j) = (match atI ds j with | some d => .ok (.val d) | none => .stuck) := (rfl)
@[simp] theorem ixF_tup {ds : List PyData} {j : Int} : ixF (.tuple ds) (.int j) = (match atI ds j with | some d => .ok (.val d) | none => .stuck) := (rfl)
@[simp] theorem atI_0 {α : Type} {x : α} {xs : List α} : atI (x :: xs) 0 = some x := by simp [atI, ixN]
@[simp] theorem atI_1 {α : Type} {x y : α} {xs : List α} : atI (x :: y :: xs) 1 = some y := by
  have h : (1 : Int) < (xs.length : Int) + 1 + 1 := by omega
  simp [atI, ixN, h]
theorem atI_of {α : Type} {xs : List α} {j : Nat} (h : j < xs.length) : atI xs (j : Int) = some xs[j] := L2.atI_nat (List.getElem?_eq_getElem h)
theorem atI_mem {α : Type} {xs : List α} {j : Int} (h0 : 0 ≤ j) (h : j < xs.length) : ∃ x ∈ xs, atI xs j = some x := by
  obtain ⟨n, rfl⟩ : ∃ n : Nat, j = (n : Int) := ⟨j.toNat, by omega⟩
  exact ⟨xs[n], List.getElem_mem (by omega), atI_of (by omega)⟩
@[simp] theorem fits_nil : fits ([] : List PyData) = true := by decide
theorem fits_of {α : Type} {xs : List α} (h : xs.length ≤ 10000) : fits xs = true := decide_eq_true (Nat.le_trans h (by decide))
@[simp] theorem lenF_list {ds : List PyData} : lenF [.list ds] = .ok (.val (.int (ds.length : Int))) := (rfl)
@[simp] theorem lenF_tup {ds : List PyData} : lenF [.tuple ds] = .ok (.val (.int (ds.length : Int))) := (rfl)
@[simp] theorem absF_int {a : Int} : absF [.int a] = .ok (.val (.int (if a < 0 then -a else a))) := (rfl)
@[simp] theorem isiF_eq {T : String} {d : PyData} : isiF T d = (match kitB (tyD d) T with | some b => .ok (.val (.bool b)) | none => .stuck) := (rfl)
@[simp] theorem ty_none : tyD .none = "NoneType" := (rfl)
@[simp] theorem ty_bool {b : Bool} : tyD (.bool b) = "bool" := (rfl)
@[simp] theorem ty_int {b : Int} : tyD (.int b) = "int" := (rfl)
@[simp] theorem ty_str {b : Str} : tyD (.str b) = "str" := (rfl)
@[simp] theorem ty_list {b : List PyData} : tyD (.list b) = "list" := (rfl)
@[simp] theorem ty_tup {b : List PyData} : tyD (.tuple b) = "tuple" := (rfl)
@[simp] theorem ty_dict {b : List (PyData × PyData)} : tyD (.dict b) = "dict" := (rfl)
@[simp] theorem kit_int_int : kitB "int" "int" = some true := by decide +kernel
@[simp] theorem kit_bool_int : kitB "bool" "int" = some true := by decide +kernel
@[simp] theorem kit_none_int : kitB "NoneType" "int" = some false := by decide +kernel
@[simp] theorem kit_str_int : kitB "str" "int" = some false := by decide +kernel
@[simp] theorem kit_list_int : kitB "list" "int" = some false := by decide +kernel
@[simp] theorem kit_tup_int : kitB "tuple" "int" = some false := by decide +kernel
@[simp] theorem kit_dict_int : kitB "dict" "int" = some false := by decide +kernel
@[simp] theorem kit_int_bool : kitB "int" "bool" = some false := by decide +kernel
@[simp] theorem kit_bool_bool : kitB "bool" "bool" = some true := by decide +kernel
@[simp] theorem kit_none_bool : kitB "NoneType" "bool" = some false := by decide +kernel
@[simp] theorem kit_tup_bool : kitB "tuple" "bool" = some false := by decide +kernel
@[simp] theorem kit_str_bool : kitB "str" "bool" = some false := by decide +kernel
@[simp] theorem kit_list_bool : kitB "list" "bool" = some false := by decide +kernel
@[simp] theorem kit_dict_bool : kitB "dict" "bool" = some false := by decide +kernel
@[simp] theorem kit_tup_tup : kitB "tuple" "tuple" = some true := by decide +kernel
@[simp] theorem kit_int_tup : kitB "int" "tuple" = some false := by decide +kernel
@[simp] theorem kit_bool_tup : kitB "bool" "tuple" = some false := by decide +kernel
@[simp] theorem kit_none_tup : kitB "NoneType" "tuple" = some false := by decide +kernel
@[simp] theorem kit_str_tup : kitB "str" "tuple" = some false := by decide +kernel
@[simp] theorem kit_list_tup : kitB "list" "tuple" = some false := by decide +kernel
@[simp] theorem kit_dict_tup : kitB "dict" "tuple" = some false := by decide +kernel
@[simp] theorem kit_str_str : kitB "str" "str" = some true := by decide +kernel
@[simp] theorem kit_int_str : kitB "int" "str" = some false := by decide +kernel
@[simp] theorem kit_bool_str : kitB "bool" "str" = some false := by decide +kernel
@[simp] theorem kit_none_str : kitB "NoneType" "str" = some false := by decide +kernel
@[simp] theorem kit_tup_str : kitB "tuple" "str" = some false := by decide +kernel
@[simp] theorem kit_list_str : kitB "list" "str" = some false := by decide +kernel
@[simp] theorem kit_dict_str : kitB "dict" "str" = some false := by decide +kernel
@[simp] theorem kit_dict_dict : kitB "dict" "dict" = some true := by decide +kernel
@[simp] theorem kit_int_dict : kitB "int" "dict" = some false := by decide +kernel
@[simp] theorem kit_bool_dict : kitB "bool" "dict" = some false := by decide +kernel
@[simp] theorem kit_none_dict : kitB "NoneType" "dict" = some false := by decide +kernel
@[simp] theorem kit_tup_dict : kitB "tuple" "dict" = some false := by decide +kernel
@[simp] theorem kit_list_dict : kitB "list" "dict" = some false := by decide +kernel
@[simp] theorem kit_str_dict : kitB "str" "dict" = some false := by decide +kernel
@[simp] theorem kit_list_list : kitB "list" "list" = some true := by decide +kernel
@[simp] theorem kit_int_list : kitB "int" "list" = some false := by decide +kernel
@[simp] theorem kit_bool_list : kitB "bool" "list" = some false := by decide +kernel
@[simp] theorem kit_none_list : kitB "NoneType" "list" = some false := by decide +kernel
@[simp] theorem kit_tup_list : kitB "tuple" "list" = some false := by decide +kernel
@[simp] theorem kit_dict_list : kitB "dict" "list" = some false := by decide +kernel
@[simp] theorem kit_str_list : kitB "str" "list" = some false := by decide +kernel
end
section
variable {δ : DEnv} {i : Nat} {c : EC}
@[simp] theorem isSub_DuelError : isSub c .DuelError = true := by cases c <;> rfl
@[simp] theorem isSub_NoNumber : isSub c .NoNumber = decide (c = .NoNumber) := (rfl)
@[simp] theorem isSub_NoText : isSub c .NoText = decide (c = .NoText) := (rfl)
@[simp] theorem isSub_TooGreat : isSub c .TooGreat = decide (c = .TooGreat) := (rfl)
@[simp] theorem isSub_NoPlan : isSub c .NoPlan = decide (c = .NoPlan) := (rfl)
@[simp] theorem isSub_NoWord : isSub c .NoWord = decide (c = .NoWord) := (rfl)
@[simp] theorem isSub_NoPlace : isSub c .NoPlace = decide (c = .NoPlace) := (rfl)
@[simp] theorem isSub_NoName : isSub c .NoName = decide (c = .NoName) := (rfl)
@[simp] theorem isSub_NoRow : isSub c .NoRow = decide (c = .NoRow) := (rfl)
@[simp] theorem isSub_NoShares : isSub c .NoShares = decide (c = .NoShares) := (rfl)
@[simp] theorem isSub_Unlike : isSub c .Unlike = decide (c = .Unlike) := (rfl)
@[simp] theorem isSub_Forgets : isSub c .Forgets = decide (c = .Forgets) := (rfl)
@[simp] theorem mIsE_ap : mIsE i c δ = (match δ[i]? with | some (some (.exn x)) => .ok (.val (.bool (isSub x.c c))) | _ => .stuck) := (rfl)
@[simp] theorem mIsEV_ap : mIsEV i δ = (match δ[i]? with | some (some (.exn _)) => .ok (.val (.bool true)) | _ => .stuck) := (rfl)
@[simp] theorem fits_simp {α : Type} {xs : List α} (h : xs.length ≤ 10000) : fits xs = true := fits_of h
@[simp] theorem addF_list {x y : List PyData} (h : x.length + y.length ≤ 10000) : addF (.list x) (.list y) = .ok (.own (.list (x ++ y))) := if_pos (Nat.le_trans h (by decide))
@[simp] theorem addF_tup {x y : List PyData} (h : x.length + y.length ≤ 10000) : addF (.tuple x) (.tuple y) = .ok (.val (.tuple (x ++ y))) := if_pos (Nat.le_trans h (by decide))
@[simp] theorem addF_str {x y : Str} (h : x.length + y.length ≤ 10000) : addF (.str x) (.str y) = .ok (.val (.str (x ++ y))) := if_pos (Nat.le_trans h (by decide))
@[simp] theorem slF_list {ds : List PyData} {lo hi : Option Int} : slF (.list ds) lo hi = .ok (.own (.list (cutD ds lo hi))) := (rfl)
@[simp] theorem slF_tup {ds : List PyData} {lo hi : Option Int} : slF (.tuple ds) lo hi = .ok (.val (.tuple (cutD ds lo hi))) := (rfl)
@[simp] theorem dropX_nx : dropX i (.nx δ) = .nx ((clearX δ).set i none) := (rfl)
@[simp] theorem clearX_nil : clearX [] = [] := (rfl)
@[simp] theorem clearX_cons {o : Option Slot} : clearX (o :: δ) = Slot.noX o :: clearX δ := (rfl)
@[simp] theorem noX_none : Slot.noX none = none := (rfl)
@[simp] theorem noX_val {d : PyData} : Slot.noX (some (.val d)) = some (.val d) := (rfl)
@[simp] theorem noX_own {d : PyData} : Slot.noX (some (.own d)) = some (.own d) := (rfl)
@[simp] theorem noX_bor {d : PyData} : Slot.noX (some (.bor d)) = some (.bor d) := (rfl)
@[simp] theorem noX_tr {t : T} : Slot.noX (some (.tr t)) = some (.tr t) := (rfl)
@[simp] theorem noX_bt {t : T} : Slot.noX (some (.bt t)) = some (.bt t) := (rfl)
@[simp] theorem dropX_rt {s : Slot} : dropX i (.rt s δ) = .rt s (clearX δ) := (rfl)
@[simp] theorem noX_exn {x : Exn} : Slot.noX (some (.exn x)) = none := (rfl)
end
/-! ### loops -/
/-- a for that goes through -/
theorem loop_all {g : MG} {b : MS} (Inv : DEnv → Prop) : ∀ {ds : List PyData} {δ : DEnv}, (∀ d ∈ ds, ∀ δ, Inv δ → ∃ δ1 δ2, g d δ = some δ1 ∧ b δ1 = .nx δ2 ∧ Inv δ2) → Inv δ → ∃ δ', loopO g b ds δ = .nx δ' ∧ Inv δ'
  | [], δ, _, h0 => ⟨δ, rfl, h0⟩
  | d :: ds, δ, h, h0 => by
    obtain ⟨δ1, δ2, e1, e2, h2⟩ := h d List.mem_cons_self δ h0
    obtain ⟨δ', e3, h3⟩ := loop_all Inv (ds := ds) (δ := δ2) (fun d hd => h d (List.mem_cons_of_mem _ hd)) h2
    exact ⟨δ', by unfold loopO; rw [e1]; simp only; rw [e2]; exact e3, h3⟩
theorem seq_nx {m n : MS} {δ δ' : DEnv} (h : m δ = .nx δ') : mSeq m n δ = n δ' := by
  show (match m δ with | .nx δ' => n δ' | o => o) = _
  rw [h]
theorem seq_rt {m n : MS} {δ δ' : DEnv} {s : Slot} (h : m δ = .rt s δ') : mSeq m n δ = .rt s δ' := by
  show (match m δ with | .nx δ' => n δ' | o => o) = _
  rw [h]
theorem seq_ex {m n : MS} {δ δ' : DEnv} {x : Exn} (h : m δ = .ex x δ') : mSeq m n δ = .ex x δ' := by
  show (match m δ with | .nx δ' => n δ' | o => o) = _
  rw [h]
theorem for_nx {g : MG} {it : ML} {b : MS} (Inv : DEnv → Prop) {ds : List PyData} {δ : DEnv} (hit : it δ = .ok ds) (h : ∀ d ∈ ds, ∀ δ, Inv δ → ∃ δ1 δ2, g d δ = some δ1 ∧ b δ1 = .nx δ2 ∧ Inv δ2) (h0 : Inv δ) : ∃ δ', mFor g it b δ = .nx δ' ∧ Inv δ' := by
  obtain ⟨δ', e, h'⟩ := loop_all Inv h h0
  refine ⟨δ', ?_, h'⟩
  show (it δ).out δ _ = _
  rw [hit]
  exact e
theorem seq_for {g : MG} {it : ML} {b n : MS} (Inv : DEnv → Prop) {ds : List PyData} {δ : DEnv} {o : Out} (hit : it δ = .ok ds) (h : ∀ d ∈ ds, ∀ δ, Inv δ → ∃ δ1 δ2, g d δ = some δ1 ∧ b δ1 = .nx δ2 ∧ Inv δ2) (h0 : Inv δ) (k : ∀ δ', Inv δ' → n δ' = o) : mSeq (mFor g it b) n δ = o := by
  obtain ⟨δ', e, h'⟩ := for_nx Inv hit h h0
  rw [seq_nx e]
  exact k δ' h'
theorem mem_rng {lo : Int} {n : Nat} {d : PyData} (h : d ∈ rng lo n) : ∃ i : Nat, i < n ∧ d = .int (lo + (i : Int)) := by
  simp only [rng, List.mem_map, List.mem_range] at h
  obtain ⟨i, hi, e⟩ := h
  exact ⟨i, hi, e.symm⟩
theorem rng1_of {n : Int} (h : small62 n = true) : rng1 [.int n] = .ok (rng 0 n.toNat) := if_pos h
theorem small_of {n : Int} (h0 : -1000000 ≤ n) (h : n ≤ 1000000) : small62 n = true := small62_iff.2 ⟨by omega, by omega⟩
@[simp] theorem rng1_simp {n : Nat} (h : n ≤ 1000000) : rng1 [.int (n : Int)] = .ok (rng 0 n) := by
  rw [rng1_of (small_of (by omega) (by omega))]
  simp
theorem cutD_to {ds : List PyData} {n : Int} (h : 0 ≤ n) : cutD ds none (some n) = ds.take n.toNat := by
  have e : HT.sIx ds.length ds.length (some n) = min n.toNat ds.length := by
    unfold HT.sIx
    simp only
    rw [if_neg (by omega)]
  unfold cutD
  rw [e, HT.sIx_none, Nat.sub_zero, List.drop_zero]
  rcases Nat.le_total n.toNat ds.length with q | q
  · rw [Nat.min_eq_left q]
  · rw [Nat.min_eq_right q, List.take_length, List.take_of_length_le q]
theorem cutD_from {ds : List PyData} {n : Int} (h : 0 ≤ n) : cutD ds (some n) none = ds.drop n.toNat := by
  have e : HT.sIx ds.length 0 (some n) = min n.toNat ds.length := by
    unfold HT.sIx
    simp only
    rw [if_neg (by omega)]
  unfold cutD
  rw [e, HT.sIx_none]
  rcases Nat.le_total n.toNat ds.length with q | q
  · rw [Nat.min_eq_left q, ← List.length_drop, List.take_length]
  · rw [Nat.min_eq_right q, List.drop_length, List.drop_of_length_le q, List.take_nil]
theorem seq_seq {m n k : MS} {δ : DEnv} : mSeq m (mSeq n k) δ = mSeq (mSeq m n) k δ := by
  show (match m δ with | .nx δ' => mSeq n k δ' | o => o) = (match (match m δ with | .nx δ' => n δ' | o => o) with | .nx δ' => k δ' | o => o)
  cases m δ <;> rfl
theorem seq_st {m n : MS} {δ δ' : DEnv} {o : Out} (h : m δ = .nx δ') (k : n δ' = o) : mSeq m n δ = o := (seq_nx h).trans k
@[simp] theorem miQ_ap {ma : MD} {δ : DEnv} : miQ ma δ = (ma δ).bind seqOf := (rfl)
@[simp] theorem seqOf_list {ds : List PyData} : seqOf (.list ds) = .ok ds := (rfl)
@[simp] theorem seqOf_tup {ds : List PyData} : seqOf (.tuple ds) = .ok ds := (rfl)
@[simp] theorem loopO_nil {g : MG} {b : MS} {δ : DEnv} : loopO g b [] δ = .nx δ := (rfl)
@[simp] theorem loopO_cons {g : MG} {b : MS} {d : PyData} {ds : List PyData} {δ : DEnv} : loopO g b (d :: ds) δ = (match g d δ with
    | none => .stuck
    | some δ1 => match b δ1 with
      | .nx δ2 => loopO g b ds δ2
      | .ct δ2 => loopO g b ds δ2
      | .bk δ2 => .nx δ2
      | o => o) := (rfl)
@[simp] theorem mgN_ap {i : Nat} {d : PyData} {δ : DEnv} : mgN i d δ = some (δ.set i (some (.val d))) := (rfl)
@[simp] theorem miV_ap {i : Nat} {δ : DEnv} : miV i δ = (match δ[i]? with
  | some (some (.val d)) => seqOf d
  | some (some (.bor (.list ds))) => .ok ds
  | _ => .stuck) := (rfl)
@[simp] theorem mApp_ap {i : Nat} {m : MD} {δ : DEnv} : mApp i m δ = (match δ[i]? with
  | some (some (.own (.list ds))) => if ds.length < sizeLine then (m δ).out δ fun d => .nx (δ.set i (some (.own (.list (ds ++ [d]))))) else .stuck
  | _ => .stuck) := (rfl)
@[simp] theorem revF_list {ds : List PyData} : revF (.list ds) = .ok (.own (.list ds.reverse)) := (rfl)
@[simp] theorem listF_list {ds : List PyData} : listF [.list ds] = .ok (.own (.list ds)) := (rfl)
@[simp] theorem listF_tup {ds : List PyData} : listF [.tuple ds] = .ok (.own (.list ds)) := (rfl)
theorem lt_sizeLine {n : Nat} (h : n ≤ 10000) : n < sizeLine := Nat.lt_of_le_of_lt h (by decide)
@[simp] theorem mYes_ap {δ : DEnv} : mYes δ = .ok true := (rfl)
@[simp] theorem mComp_ap {vs : List Nat} {g : MG} {it : ML} {c : MT} {m : MD} {δ : DEnv} : mComp vs g it c m δ = (it δ).bind fun ds => if fits ds = true then (compR g c m (wipeD δ vs) ds).bind fun ys => .ok (.own (.list ys)) else .stuck := (rfl)
theorem compR_map {α : Type} {g : MG} {c : MT} {m : MD} {δ : DEnv} {f h : α → PyData} : ∀ {xs : List α}, (∀ x ∈ xs, ∃ δ1, g (f x) δ = some δ1 ∧ c δ1 = .ok true ∧ m δ1 = .ok (h x)) → compR g c m δ (xs.map f) = .ok (xs.map h)
  | [], _ => rfl
  | x :: xs, H => by
    obtain ⟨δ1, e1, e2, e3⟩ := H x List.mem_cons_self
    rw [List.map_cons, compR, e1]
    simp only [e2, e3]
    rw [compR_map (xs := xs) fun y hy => H y (List.mem_cons_of_mem _ hy)]
    rfl
@[simp] theorem wipeD_nil {δ : DEnv} : wipeD δ [] = δ := (rfl)
@[simp] theorem wipeD_cons {δ : DEnv} {v : Nat} {vs : List Nat} : wipeD δ (v :: vs) = (wipeD δ vs).set v none := (rfl)
theorem shaped_str {x : Str} (h : PyData.strOk x = true) : SeqAt.shaped (.str x) = true := by
  unfold SeqAt.shaped
  simp [PyData.canLay0, PyData.depth, h]
@[simp] theorem eqF_bool {a b : Bool} : eqF (.bool a) (.bool b) = .ok (.val (.bool (a == b))) := by
  unfold eqF
  rw [if_pos ⟨shaped_bool a, shaped_bool b⟩]
  rfl
@[simp] theorem neF_bool {a b : Bool} : neF (.bool a) (.bool b) = .ok (.val (.bool (!(a == b)))) := by
  unfold neF
  rw [if_pos ⟨shaped_bool a, shaped_bool b⟩]
  rfl
@[simp] theorem eqF_str {a b : Str} (ha : PyData.strOk a = true) (hb : PyData.strOk b = true) : eqF (.str a) (.str b) = .ok (.val (.bool (a == b))) := by
  unfold eqF
  rw [if_pos ⟨shaped_str ha, shaped_str hb⟩]
  rfl
@[simp] theorem neF_str {a b : Str} (ha : PyData.strOk a = true) (hb : PyData.strOk b = true) : neF (.str a) (.str b) = .ok (.val (.bool (!(a == b)))) := by
  unfold neF
  rw [if_pos ⟨shaped_str ha, shaped_str hb⟩]
  rfl
theorem eqF_of {d e : PyData} (h : SeqAt.shaped d = true) (h' : SeqAt.shaped e = true) : eqF d e = .ok (.val (.bool (PyData.eqv d e))) := if_pos ⟨h, h'⟩
theorem neF_of {d e : PyData} (h : SeqAt.shaped d = true) (h' : SeqAt.shaped e = true) : neF d e = .ok (.val (.bool (!PyData.eqv d e))) := if_pos ⟨h, h'⟩
theorem eqF_self {d : PyData} (h : SeqAt.shaped d = true) : eqF d d = .ok (.val (.bool true)) := by
  rw [eqF_of h h, SeqAt.eqv_refl d (by simp only [SeqAt.shaped, Bool.and_eq_true] at h; exact h.1)]
theorem neF_self {d : PyData} (h : SeqAt.shaped d = true) : neF d d = .ok (.val (.bool false)) := by
  rw [neF_of h h, SeqAt.eqv_refl d (by simp only [SeqAt.shaped, Bool.and_eq_true] at h; exact h.1)]
  rfl
theorem for_in {g g0 : MG} {it : ML} {b : MS} {P : DEnv → Prop} (Inv : DEnv → Prop) {ds : List PyData} {d : PyData} {δ0 δ1 : DEnv} (eg : g0 d δ0 = some δ1) (hit : it δ1 = .ok ds) (h : ∀ d ∈ ds, ∀ δ, Inv δ → ∃ δ1 δ2, g d δ = some δ1 ∧ b δ1 = .nx δ2 ∧ Inv δ2) (h0 : Inv δ1) (hP : ∀ δ', Inv δ' → P δ') : ∃ δ1 δ2, g0 d δ0 = some δ1 ∧ mFor g it b δ1 = .nx δ2 ∧ P δ2 := by
  obtain ⟨δ', e, h'⟩ := for_nx Inv hit h h0
  exact ⟨δ1, δ', eg, e, hP δ' h'⟩
end DL
/-! DLt: texts -/
namespace DL
open PySem L2
section
variable {X : Cx} {a : Ax} {W : WX} {e o : Expr} {es : List Expr} {pos apos : Pos}
/-- o.name(e) of a text -/
def mM1 (f : PyData → PyData → Res Slot) (mo me : MD) : ME := fun δ => (mo δ).bind fun d => match d with
  | .str z => (me δ).bind fun e => f (.str z) e
  | _ => .stuck
theorem snd_m1 {C : Cn} {r : V → List V → Hp → VK → Prop} {f : PyData → PyData → Res Slot} (hf : OpS C.K (fun x y H Q => r x [y] H Q) f) (hn : NoExc f) {ta tb : TE} {ma mb : MD} (ha : Snd C W (relD C.K) ta ma) (hb : Snd C W (relD C.K) tb mb) : Snd C W (relE C.K) (tM1 r ta tb) (mM1 f ma mb) := by
  refine snd_bind (rel1 := relD C.K) (rel2 := relE C.K) downE ha (t2 := fun x σ H Q => (∃ a, x = .str a) ∧ tb σ H fun y H2 => r x [y] H2 Q) (m2 := fun d δ => match d with
    | .str z => (mb δ).bind fun e => f (.str z) e
    | _ => .stuck) ?_
  intro d x B G0 G H σ δ H0 S rd Q hq
  cases d with
  | str z =>
    cases rdr_str rd
    refine ⟨⟨_, rfl⟩, hb B G0 G H σ δ S _ ?_⟩
    have hq' : ROk C W σ G H (relE C.K H) ((mb δ).bind fun e => f (.str z) e) Q := hq
    generalize mb δ = rb at hq'
    cases rb with
    | stuck => exact hq'.elim
    | exc z => exact hq'
    | ok e =>
      intro y G' H' st ry
      have hq2 : ROk C W σ G H (relE C.K H) (f (.str z) e) Q := hq'
      cases ef : f (.str z) e with
      | stuck => rw [ef] at hq2; exact hq2.elim
      | exc z => exact (hn _ e z ef).elim
      | ok s =>
        rw [ef] at hq2
        exact hf G' H' _ y _ e s Q st.gh (rd.mono st.g st.h) ry ef fun v G2 H2 s2 rv => hq2 v G2 H2 (st.trans s2) (rv.mono0 st.h)
  | none => exact (show False from hq).elim
  | bool _ => exact (show False from hq).elim
  | int _ => exact (show False from hq).elim
  | list _ => exact (show False from hq).elim
  | tuple _ => exact (show False from hq).elim
  | dict _ => exact (show False from hq).elim
/-- startswith -/
def startsF : PyData → PyData → Res Slot
  | .str a, .str b => okB (Txt.startswith a b)
  | _, _ => .stuck
theorem startsF_ne : NoExc startsF := fun d e x => by unfold startsF; split <;> (intro h; cases h)
theorem startsF_ok {K : Kw} : OpS K (fun x y H Q => ∃ a b, x = .str a ∧ [y] = [.str b] ∧ Q (.bl (Txt.startswith a b)) H) startsF := by
  intro G H x y d e s Q g rx ry ef q
  unfold startsF at ef
  split at ef
  · cases ef
    cases rdr_str rx; cases rdr_str ry
    exact ⟨_, _, rfl, rfl, q _ G H (Stp.refl g) (Rep.bl _)⟩
  · cases ef
theorem de_starts {ma mb : MD} (ha : DR X a W o ma) (hb : DR X a W e mb) (hs : starEach [e] X.env = [(false, eval e X.env)] := by rfl) (hbase : attributeBase o "startswith" X.env (eval o X.env) = eval o X.env := by rfl) (hline : (apos.endLine == pos.line) = true := by rfl) :
    DE X a W (.Call (.Attribute o "startswith" apos) [e] [] pos) (mM1 startsF ma mb) :=
  let ⟨_, pa, sa⟩ := ha; let ⟨_, pb, sb⟩ := hb; ⟨_, pe_m1 F.slot_str_startswith F.type_str_startswith mt_startswith pa pb hs hbase hline, snd_m1 (C := cn X a) startsF_ok startsF_ne sa sb⟩
/-- split -/
def splitF : PyData → PyData → Res Slot
  | .str a, .str b => if (b.length == 0) = false ∧ a.length ≤ 10000 then .ok (.own (.list ((Txt.split a b).map PyData.str))) else .stuck
  | _, _ => .stuck
theorem splitF_ne : NoExc splitF := fun d e x => by unfold splitF; split <;> (try split) <;> (intro h; cases h)
theorem repL_strs {K : Kw} {G : Hp} : ∀ ys : List Str, RepL K G (ys.map V.str) (ys.map PyData.str)
  | [] => .nil
  | y :: ys => .cons (.str _) (repL_strs ys)
theorem splitF_ok {K : Kw} : OpS K (fun x y H Q => ∃ a b, x = .str a ∧ [y] = [.str b] ∧ (b.length == 0) = false ∧ a.length + 2 ≤ sizeLine ∧ rNewStrs (Txt.split a b) H Q) splitF := by
  intro G H x y d e s Q g rx ry ef q
  unfold splitF at ef
  split at ef
  · split at ef
    · rename_i hz
      cases ef
      cases rdr_str rx; cases rdr_str ry
      exact ⟨_, _, rfl, rfl, hz.1, Nat.le_trans (by omega : _ ≤ 10002) (by decide), new_list g (repL_strs _) q⟩
    · cases ef
  · cases ef
theorem de_split {ma mb : MD} (ha : DR X a W o ma) (hb : DR X a W e mb) (hs : starEach [e] X.env = [(false, eval e X.env)] := by rfl) (hbase : attributeBase o "split" X.env (eval o X.env) = eval o X.env := by rfl) (hline : (apos.endLine == pos.line) = true := by rfl) :
    DE X a W (.Call (.Attribute o "split" apos) [e] [] pos) (mM1 splitF ma mb) :=
  let ⟨_, pa, sa⟩ := ha; let ⟨_, pb, sb⟩ := hb; ⟨_, pe_split pa pb hs hbase hline, snd_m1 (C := cn X a) splitF_ok splitF_ne sa sb⟩
/-- int, of a text too -/
def intSF : List PyData → Res Slot
  | [.int i] => okI i
  | [.bool b] => okI (if b then 1 else 0)
  | [.str z] => match PySem.intText? z with
    | some n => if z.length ≤ 640 then okI n else .stuck
    | none => .stuck
  | _ => .stuck
theorem intSF_ok {K : Kw} : CallS K (fun xs H Q => ((∃ i, xs = [.int i] ∧ Q (.int i) H) ∨ ∃ k, xs = [.bl k] ∧ Q (.int (if k then 1 else 0)) H) ∨ ∃ a n, xs = [.str a] ∧ PySem.intText? a = some n ∧ a.length ≤ 640 ∧ Q (.int n) H) intSF := by
  refine ⟨fun G H vs ds s Q g rd ef q => ?_, fun ds x => ?_⟩
  · unfold intSF at ef
    split at ef
    · cases ef
      obtain ⟨v, ev, r⟩ := rdl1 rd
      cases rdr_int r
      exact .inl (.inl ⟨_, ev, q _ G H (Stp.refl g) (Rep.int _)⟩)
    · cases ef
      obtain ⟨v, ev, r⟩ := rdl1 rd
      cases rdr_bool r
      exact .inl (.inr ⟨_, ev, q _ G H (Stp.refl g) (Rep.int _)⟩)
    · split at ef
      · rename_i n hn
        split at ef
        · rename_i hz
          cases ef
          obtain ⟨v, ev, r⟩ := rdl1 rd
          cases rdr_str r
          exact .inr ⟨_, _, ev, hn, hz, q _ G H (Stp.refl g) (Rep.int _)⟩
        · cases ef
      · cases ef
    · cases ef
  · unfold intSF
    split <;> (try split) <;> (try split) <;> (intro h; cases h)
/-! for simp -/
@[simp] theorem mM1_ap {f : PyData → PyData → Res Slot} {mo me : MD} {δ : DEnv} : mM1 f mo me δ = (mo δ).bind fun d => match d with
  | .str z => (me δ).bind fun e => f (.str z) e
  | _ => .stuck := (rfl)
@[simp] theorem startsF_str {a b : Str} : startsF (.str a) (.str b) = .ok (.val (.bool (Txt.startswith a b))) := (rfl)
theorem splitF_str {a b : Str} (hb : (b.length == 0) = false) (ha : a.length ≤ 10000) : splitF (.str a) (.str b) = .ok (.own (.list ((Txt.split a b).map PyData.str))) := if_pos ⟨hb, ha⟩
@[simp] theorem intSF_int {i : Int} : intSF [.int i] = .ok (.val (.int i)) := (rfl)
theorem intSF_str {z : Str} {n : Int} (h : PySem.intText? z = some n) (hl : z.length ≤ 640) : intSF [.str z] = .ok (.val (.int n)) := by
  unfold intSF
  simp only [h]
  exact if_pos hl
theorem lenF_str {z : Str} (h : z.length ≤ 10000) : lenF [.str z] = .ok (.val (.int (z.length : Int))) := if_pos (Nat.le_trans h (by decide))
theorem strF_int {i : Int} (h : i.natAbs.log2 < 1920) : strF [.int i] = .ok (.val (.str (toString i))) := if_pos h
theorem slF_str {z : Str} {lo hi : Option Int} (h : z.length ≤ 10000) : slF (.str z) lo hi = .ok (.val (.str (cutS z lo hi))) := if_pos (Nat.le_trans h (by decide))
@[simp] theorem seqOf_str {z : Str} : seqOf (.str z) = .ok (signs z) := (rfl)
theorem inF_str {n : Bool} {x z : Str} : inF n (.str x) (.str z) = .ok (.val (.bool (n != strIn x z))) := rfl
end
end DL
namespace DL
open PySem L2
section
variable {X : Cx} {a : Ax} {W : WX} {pos : Pos}
/-- a module's constant, whatever its marks -/
theorem de_gl {x : Str} {v : V} {d : PyData} (hg : Gl X x) (hm : ∃ u, X.mg x = some u ∧ RelV v u) (h : ∀ G, Rep X.kw G v d) (hd : (x == ("__debug__" : Str)) = false := by decide) : DE X a W (.Name x pos) (mC d) :=
  let ⟨_, e, r⟩ := hm; de_glob hg e r h hd
end
end DL
namespace DL
open PySem L2
section
variable {X : Cx} {a : Ax} {W : WX} {e o : Expr} {es : List Expr} {pos apos : Pos}
def strsOf : List PyData → Option (List Str)
  | [] => some []
  | .str x :: r => (strsOf r).map (x :: ·)
  | _ => none
theorem strsOf_map : ∀ ys : List Str, strsOf (ys.map PyData.str) = some ys
  | [] => rfl
  | y :: ys => by
    show (strsOf (ys.map PyData.str)).map (y :: ·) = _
    rw [strsOf_map ys]
    rfl
theorem strsOf_eq : ∀ {ds : List PyData} {ys : List Str}, strsOf ds = some ys → ds = ys.map PyData.str
  | [], ys, e => by cases e; rfl
  | .str x :: r, ys, e => by
    have e' : (strsOf r).map (x :: ·) = some ys := e
    cases h : strsOf r with
    | none => rw [h] at e'; cases e'
    | some zs => rw [h] at e'; cases e'; rw [strsOf_eq h]; rfl
  | .none :: r, ys, e => by cases e
  | .bool _ :: r, ys, e => by cases e
  | .int _ :: r, ys, e => by cases e
  | .list _ :: r, ys, e => by cases e
  | .tuple _ :: r, ys, e => by cases e
  | .dict _ :: r, ys, e => by cases e
theorem repL_strs_eq {K : Kw} {G : Hp} : ∀ {ys : List Str} {xs : List V}, RepL K G xs (ys.map PyData.str) → xs = ys.map V.str
  | [], _, .nil => rfl
  | y :: ys, _, .cons r rs => by
    cases r
    rw [repL_strs_eq (ys := ys) rs]
    rfl
def joinF : PyData → PyData → Res Slot
  | .str a, .list ds => match strsOf ds with
    | some ys => if (ys.map (·.length)).sum + ys.length * a.length ≤ 16777216 then okV (.str (Txt.join a ys)) else .stuck
    | none => .stuck
  | .str a, .tuple ds => match strsOf ds with
    | some ys => if (ys.map (·.length)).sum + ys.length * a.length ≤ 16777216 then okV (.str (Txt.join a ys)) else .stuck
    | none => .stuck
  | _, _ => .stuck
theorem joinF_ne : NoExc joinF := fun d e x => by unfold joinF; split <;> (try split) <;> (try split) <;> (intro h; cases h)
theorem joinF_ok {K : Kw} : OpS K (fun x y H Q => ∃ a p, ∃ ys : List Str, x = .str a ∧ [y] = [.ref p] ∧ (SqL K H p (ys.map V.str) ∨ SqT K H p (ys.map V.str)) ∧ (ys.map (·.length)).sum + ys.length * a.length ≤ 16777216 ∧ Q (.str (Txt.join a ys)) H) joinF := by
  intro G H x y d e s Q g rx ry ef q
  unfold joinF at ef
  split at ef
  · split at ef
    · rename_i ys hy
      split at ef
      · rename_i hz
        cases ef
        cases rdr_str rx
        obtain ⟨b, xs, e1, q1, r1⟩ := rdr_list g ry
        subst e1
        rw [strsOf_eq hy] at r1
        rw [repL_strs_eq r1] at q1
        exact ⟨_, b, ys, rfl, rfl, .inl q1, hz, q _ G H (Stp.refl g) (Rep.str _)⟩
      · cases ef
    · cases ef
  · split at ef
    · rename_i ys hy
      split at ef
      · rename_i hz
        cases ef
        cases rdr_str rx
        obtain ⟨b, xs, e1, q1, r1⟩ := rdr_tup g ry
        subst e1
        rw [strsOf_eq hy] at r1
        rw [repL_strs_eq r1] at q1
        exact ⟨_, b, ys, rfl, rfl, .inr q1, hz, q _ G H (Stp.refl g) (Rep.str _)⟩
      · cases ef
    · cases ef
  · cases ef
theorem de_join {ma mb : MD} (ha : DR X a W o ma) (hb : DR X a W e mb) (hs : starEach [e] X.env = [(false, eval e X.env)] := by rfl) (hbase : attributeBase o "join" X.env (eval o X.env) = eval o X.env := by rfl) (hline : (apos.endLine == pos.line) = true := by rfl) :
    DE X a W (.Call (.Attribute o "join" apos) [e] [] pos) (mM1 joinF ma mb) :=
  let ⟨_, pa, sa⟩ := ha; let ⟨_, pb, sb⟩ := hb; ⟨_, pe_join pa pb hs hbase hline, snd_m1 (C := cn X a) joinF_ok joinF_ne sa sb⟩
end
end DL
/-! DLm: what changes one's own things while an expression is reckoned; defs that change what they are lent -/
namespace DL
open PySem L2
/-! ### 1. a cell set aside -/
section
variable {C : Cn} {B G0 G H G' H' : Hp} {σ : St} {δ : DEnv}
/-- a fresh cell is set aside among what stays -/
theorem StR.aside (S : StR C B G0 G H σ δ) {D : Addr} {o : HO} (n : H D = none) : StR C (upd B D o) G0 G (upd H D o) σ δ := by
  have st := Stp.newH (o := o) S.gh n
  have T := S.step st
  have gD : G D = none := S.gh.free n
  obtain ⟨fps, E⟩ := S.en
  obtain E2 := E.step S.bh st
  have offD : ∀ i, D ∉ fps i := fun i z => E.there z n
  refine ⟨fun b u q => ?_, T.g0, T.gh, fun x e z => ?_, T.len, T.rt, fps, fun j s e => ?_, E.no, E.nd, E.dj, fun i a ha => ?_⟩
  · by_cases hb : b = D
    · subst hb; rw [upd_same] at q ⊢; exact q
    · rw [upd_ne hb] at q ⊢; exact S.bh _ _ q
  · by_cases hx : x = D
    · rw [hx]; exact gD
    · rw [upd_ne hx] at z; exact S.fr x e z
  · obtain ⟨v, q, z⟩ := E2.sl j s e
    refine ⟨v, q, ?_⟩
    have up : ∀ b, B b ≠ none → upd B D o b ≠ none := fun b hb => by
      by_cases hD : b = D
      · rw [hD, upd_same]; exact fun z => nomatch z
      · rw [upd_ne hD]; exact hb
    cases s with
    | val d => exact z
    | own d => exact z
    | bor d => obtain ⟨b, eb, ef, nb, t⟩ := z; exact ⟨b, eb, ef, up b nb, t⟩
    | tr t => exact z
    | bt t => obtain ⟨ef, fq, w, q⟩ := z; exact ⟨ef, fq, w, fun a ha => up a (q a ha)⟩
    | exn x => exact z
  · have hD : a ≠ D := fun w => offD i (by rw [← w]; exact ha)
    rw [upd_ne hD]; exact E.off i a ha
end
/-! ### 2. expressions that change what one owns or was lent -/
inductive MRes where
  | ok (s : Slot) (δ : DEnv) | exc (x : Exn) (δ : DEnv) | stuck
abbrev MM := DEnv → MRes
def MRes.bind (r : MRes) (f : Slot → DEnv → MRes) : MRes := match r with
  | .ok s δ => f s δ
  | .exc x δ => .exc x δ
  | .stuck => .stuck
def MOk (C : Cn) (W : WX) (B G0 : Hp) (σ : St) (G : Hp) (r : MRes) (Q : VK) : Prop := match r with
  | .ok s δ' => ∀ v G' H', RetR C B G0 G' H' σ δ' s v → Same G G' → Q v H'
  | .exc x δ' => ∀ cls d G' H', StR C B G0 G' H' σ δ' → ExR C G' H' x cls d → W cls d σ H'
  | .stuck => False
def SndM (C : Cn) (W : WX) (t : TE) (m : MM) : Prop := ∀ B G0 G H σ δ, StR C B G0 G H σ δ → ∀ Q, MOk C W B G0 σ G (m δ) Q → t σ H Q
/-- but for the contents of what is one's own, the slots stay -/
def isO : Option (Option Slot) → Bool
  | some (some (.own _)) => true
  | some (some (.tr _)) => true
  | _ => false
def Keep (δ δ' : DEnv) : Prop := ∀ i : Nat, δ'[i]? = δ[i]? ∨ (isO δ[i]? = true ∧ isO δ'[i]? = true)
theorem Keep.refl (δ : DEnv) : Keep δ δ := fun _ => .inl rfl
theorem Keep.trans {δ δ1 δ2 : DEnv} (h : Keep δ δ1) (k : Keep δ1 δ2) : Keep δ δ2 := fun i => by
  rcases h i with h | ⟨h1, h2⟩
  · rcases k i with k | ⟨k1, k2⟩
    · exact .inl (k.trans h)
    · exact .inr ⟨by rw [← h]; exact k1, k2⟩
  · rcases k i with k | ⟨k1, k2⟩
    · exact .inr ⟨h1, by rw [k]; exact h2⟩
    · exact .inr ⟨h1, k2⟩
theorem Keep.set {δ : DEnv} {i : Nat} {s : Slot} (h : isO δ[i]? = true) (k : isO (some (some s)) = true) : Keep δ (δ.set i (some s)) := fun j => by
  by_cases hj : i = j
  · subst hj
    have hl : i < δ.length := by
      rcases Nat.lt_or_ge i δ.length with q | q
      · exact q
      · rw [List.getElem?_eq_none q] at h; cases h
    exact .inr ⟨h, by rw [List.getElem?_set_self hl]; exact k⟩
  · exact .inl (by rw [List.getElem?_set_ne hj])
theorem Keep.len {δ δ' : DEnv} (h : Keep δ δ') {i : Nat} (e : δ[i]? = some none) : δ'[i]? = some none := by
  rcases h i with h | ⟨h, _⟩
  · rw [h]; exact e
  · rw [e] at h; cases h
theorem Keep.bor {δ δ' : DEnv} (h : Keep δ δ') {i : Nat} {s : Slot} (e : δ'[i]? = some (some s)) (n : isO (some (some s)) = false) : δ[i]? = some (some s) := by
  rcases h i with h | ⟨_, h⟩
  · rw [← h]; exact e
  · rw [e, n] at h; cases h
def KpR (δ : DEnv) : MRes → Prop
  | .ok _ δ' => Keep δ δ'
  | .exc _ δ' => Keep δ δ'
  | .stuck => True
def Kp (m : MM) : Prop := ∀ δ, KpR δ (m δ)
def EDE (X : Cx) (a : Ax) (W : WX) (e : Expr) (m : MM) : Prop := ∃ t, PE X e t ∧ SndM (cn X a) W t m ∧ Kp m
/-- several, as values that last -/
inductive MLRes where
  | ok (ds : List PyData) (δ : DEnv) | exc (x : Exn) (δ : DEnv) | stuck
abbrev MML := DEnv → MLRes
def MLOk (C : Cn) (W : WX) (B G0 : Hp) (σ : St) (G : Hp) (r : MLRes) (Q : List V → Hp → Prop) : Prop := match r with
  | .ok ds δ' => ∀ vs G' H', StR C B G0 G' H' σ δ' → Same G G' → RepL C.K G' vs ds → Q vs H'
  | .exc x δ' => ∀ cls d G' H', StR C B G0 G' H' σ δ' → ExR C G' H' x cls d → W cls d σ H'
  | .stuck => False
def SndML (C : Cn) (W : WX) (t : TA) (m : MML) : Prop := ∀ B G0 G H σ δ, StR C B G0 G H σ δ → ∀ Q, MLOk C W B G0 σ G (m δ) Q → t σ H Q
def KpL (δ : DEnv) : MLRes → Prop
  | .ok _ δ' => Keep δ δ'
  | .exc _ δ' => Keep δ δ'
  | .stuck => True
def KpA (m : MML) : Prop := ∀ δ, KpL δ (m δ)
def EDA (X : Cx) (a : Ax) (W : WX) (es : List Expr) (m : MML) : Prop := ∃ t, PA X es t ∧ SndML (cn X a) W t m ∧ KpA m
section
variable {C : Cn} {W : WX} {B G0 G H G1 : Hp} {σ : St} {δ : DEnv}
/-- what is one's own becomes lasting -/
theorem RetR.vl {s : Slot} {d : PyData} {v : V} {P : Hp → Prop} (r : RetR C B G0 G H σ δ s v) (e : s.vl = .ok d) (k : ∀ G' H', StR C B G0 G' H' σ δ → Same G G' → Rep C.K G' v d → P H') : Frz H v P := by
  cases s with
  | val d' =>
    cases e
    obtain ⟨fps, fp, E, z, _⟩ := r.en
    exact .inl (k G H r.st (Same.refl _) z.2)
  | own d' =>
    cases e
    obtain ⟨fps, fp, E, ⟨b, rfl, rfl, t⟩, nd, q⟩ := r.en
    have hb := q b List.mem_cons_self
    refine t.freeze hb.1.2 r.st.gh fun G' H' s1 s2 rp gne hne hn => k G' H' ⟨fun x o e => ?_, r.st.g0.trans s1, s2, fun a e n => ?_, r.st.len, r.st.rt, fps, fun i s e => ?_, E.no, E.nd, E.dj, fun i a ha => ?_⟩ s1 rp
    · have : x ≠ b := fun z => by rw [z, hb.1.1] at e; cases e
      rw [hne x this]; exact r.st.bh x o e
    · have : a ≠ b := fun z => n (by rw [z]; exact hb.1.1)
      rw [gne a this]; exact r.st.fr a e n
    · obtain ⟨v, q, z⟩ := E.sl i s e
      exact ⟨v, q, z.keep s1 (fun c hc => hne c fun w => hb.2 i (by rw [← w]; exact hc)) fun c hc => hne c fun w => hc (by rw [w]; exact hb.1.1)⟩
    · have : a ≠ b := fun z => hb.2 i (by rw [← z]; exact ha)
      rw [gne a this]; exact E.off i a ha
  | bor d => cases e
  | tr d => cases e
  | bt d => cases e
  | exn d => cases e
theorem MOk.up {r : MRes} {Q : VK} (g : Same G G1) (h : MOk C W B G0 σ G r Q) : MOk C W B G0 σ G1 r Q := by
  cases r with
  | ok s δ => exact fun v G' H' r g' => h v G' H' r (g.trans g')
  | exc x δ => exact h
  | stuck => exact h
theorem MLOk.up {r : MLRes} {Q : List V → Hp → Prop} (g : Same G G1) (h : MLOk C W B G0 σ G r Q) : MLOk C W B G0 σ G1 r Q := by
  cases r with
  | ok s δ => exact fun v G' H' S g' => h v G' H' S (g.trans g')
  | exc x δ => exact h
  | stuck => exact h
end
section
variable {X : Cx} {a : Ax} {W : WX} {e e2 e3 o : Expr} {es : List Expr} {pos : Pos}
/-- a pure one -/
def emP (m : ME) : MM := fun δ => match m δ with
  | .ok (.val d) => .ok (.val d) δ
  | .ok (.own d) => .ok (.own d) δ
  | .ok (.tr t) => .ok (.tr t) δ
  | .exc x => .exc x δ
  | _ => .stuck
theorem kp_pure {m : ME} : Kp (emP m) := fun δ => by
  unfold emP
  split <;> first | exact Keep.refl δ | exact True.intro
theorem em_pure {m : ME} (h : DE X a W e m) : EDE X a W e (emP m) := by
  obtain ⟨t, p, s⟩ := h
  refine ⟨t, p, fun B G0 G H σ δ S Q q => ?_, kp_pure⟩
  refine s B G0 G H σ δ S Q ?_
  unfold emP at q
  cases r : m δ with
  | stuck => rw [r] at q; exact q.elim
  | exc x => rw [r] at q; exact fun cls d G' H' st ex => q cls d G' H' (S.step st) ex
  | ok sl =>
    rw [r] at q
    cases sl with
    | val d => exact fun v G' H' st r => q v G' H' (ret_new S st r (.inl ⟨d, rfl⟩)) st.g
    | own d => exact fun v G' H' st r => q v G' H' (ret_new S st r (.inr (.inl ⟨d, rfl⟩))) st.g
    | tr t => exact fun v G' H' st r => q v G' H' (ret_new S st r (.inr (.inr ⟨t, rfl⟩))) st.g
    | bor d => exact q.elim
    | bt d => exact q.elim
    | exn d => exact q.elim
/-- a value that lasts of it -/
def emD (m : MM) (δ : DEnv) (k : PyData → DEnv → MLRes) : MLRes := match m δ with
  | .ok s δ' => match s.vl with
    | .ok d => k d δ'
    | _ => .stuck
  | .exc x δ' => .exc x δ'
  | .stuck => .stuck
def emNil : MML := fun δ => .ok [] δ
def emCons (m : MM) (n : MML) : MML := fun δ => emD m δ fun d δ1 => match n δ1 with
  | .ok ds δ2 => .ok (d :: ds) δ2
  | r => r
theorem kp_nil : KpA emNil := fun δ => Keep.refl δ
theorem kp_cons {m : MM} {n : MML} (h : Kp m) (k : KpA n) : KpA (emCons m n) := fun δ => by
  unfold emCons emD
  have h1 := h δ
  cases r : m δ with
  | stuck => exact True.intro
  | exc x δ1 => rw [r] at h1; exact h1
  | ok sl δ1 =>
    rw [r] at h1
    have h1 : Keep δ δ1 := h1
    cases ev : sl.vl with
    | stuck => simp only [ev]; exact True.intro
    | exc x => simp only [ev]; exact True.intro
    | ok d =>
      simp only [ev]
      have k1 := k δ1
      cases r2 : n δ1 with
      | stuck => exact True.intro
      | exc x δ2 => rw [r2] at k1; exact h1.trans k1
      | ok ds δ2 => rw [r2] at k1; exact h1.trans k1
theorem ea_nil : EDA X a W [] emNil := ⟨_, pa_nil, fun B G0 G H σ δ S Q q => q [] G H S (Same.refl _) .nil, kp_nil⟩
theorem ea_cons {m : MM} {n : MML} (h : EDE X a W e m) (k : EDA X a W es n) (hs : starEach (e :: es) X.env = (false, eval e X.env) :: starEach es X.env := by rfl) : EDA X a W (e :: es) (emCons m n) := by
  obtain ⟨t, p, s, k1⟩ := h
  obtain ⟨u, q, z, k2⟩ := k
  refine ⟨_, pa_cons (pe_lk p) q hs, fun B G0 G H σ δ S Q hq => ?_, kp_cons k1 k2⟩
  refine s B G0 G H σ δ S _ ?_
  unfold emCons emD at hq
  cases r : m δ with
  | stuck => rw [r] at hq; exact hq.elim
  | exc x δ1 => rw [r] at hq; exact hq
  | ok sl δ1 =>
    rw [r] at hq
    intro v G1 H1 rv g1
    cases ev : sl.vl with
    | stuck => simp only [ev] at hq; exact hq.elim
    | exc x => exact (vl_noexc ev).elim
    | ok d =>
      simp only [ev] at hq
      refine rv.vl ev fun G2 H2 S2 g2 rp => z B G0 G2 H2 σ δ1 S2 _ ?_
      cases r2 : n δ1 with
      | stuck => rw [r2] at hq; exact hq.elim
      | exc x δ2 => rw [r2] at hq; exact hq
      | ok ds δ2 =>
        rw [r2] at hq
        exact fun vs G3 H3 S3 g3 rs => hq (v :: vs) G3 H3 S3 ((g1.trans g2).trans g3) (.cons (rp.mono g3) rs)
def emTup (m : MML) : MM := fun δ => match m δ with
  | .ok ds δ' => if fits ds = true then .ok (.val (.tuple ds)) δ' else .stuck
  | .exc x δ' => .exc x δ'
  | .stuck => .stuck
theorem kp_tup {m : MML} (h : KpA m) : Kp (emTup m) := fun δ => by
  unfold emTup
  have h1 := h δ
  cases r : m δ with
  | stuck => exact True.intro
  | exc x δ1 => rw [r] at h1; exact h1
  | ok sl δ1 =>
    rw [r] at h1
    simp only
    split
    · exact h1
    · exact True.intro
theorem em_tup {m : MML} {k} (h : EDA X a W es m) : EDE X a W (.Tuple es k pos) (emTup m) := by
  obtain ⟨t, p, s, kp⟩ := h
  refine ⟨_, pe_tup p, fun B G0 G H σ δ S Q hq => ?_, kp_tup kp⟩
  refine s B G0 G H σ δ S _ ?_
  unfold emTup at hq
  cases r : m δ with
  | stuck => rw [r] at hq; exact hq.elim
  | exc x δ1 => rw [r] at hq; exact hq
  | ok ds δ1 =>
    rw [r] at hq
    intro vs G1 H1 S1 g1 rv
    by_cases hz : fits ds = true
    · simp only [hz, if_true] at hq
      refine ⟨by rw [rv.length]; exact of_decide_eq_true hz, fun p hp => ?_⟩
      have st := Stp.new (o := .tup vs) S1.gh hp
      exact hq _ _ _ (ret_new S1 st (s := .val (.tuple ds)) (Rep.tup (.inl (.inl upd_same)) (rv.mono st.g)) (.inl ⟨_, rfl⟩)) (g1.trans st.g)
    · simp only [hz] at hq; exact hq.elim
def emLst (m : MML) : MM := fun δ => match m δ with
  | .ok ds δ' => if fits ds = true then .ok (.own (.list ds)) δ' else .stuck
  | .exc x δ' => .exc x δ'
  | .stuck => .stuck
theorem kp_lst {m : MML} (h : KpA m) : Kp (emLst m) := fun δ => by
  unfold emLst
  have h1 := h δ
  cases r : m δ with
  | stuck => exact True.intro
  | exc x δ1 => rw [r] at h1; exact h1
  | ok sl δ1 =>
    rw [r] at h1
    simp only
    split
    · exact h1
    · exact True.intro
theorem em_lst {m : MML} (h : EDA X a W es m) : EDE X a W (.List es pos) (emLst m) := by
  obtain ⟨t, p, s, kp⟩ := h
  refine ⟨_, pe_lst p, fun B G0 G H σ δ S Q hq => ?_, kp_lst kp⟩
  refine s B G0 G H σ δ S _ ?_
  unfold emLst at hq
  cases r : m δ with
  | stuck => rw [r] at hq; exact hq.elim
  | exc x δ1 => rw [r] at hq; exact hq
  | ok ds δ1 =>
    rw [r] at hq
    intro vs G1 H1 S1 g1 rv
    by_cases hz : fits ds = true
    · simp only [hz, if_true] at hq
      refine ⟨by rw [rv.length]; exact of_decide_eq_true hz, fun p hp => ?_⟩
      have st := Stp.newH (o := .lst vs) S1.gh hp
      exact hq _ _ _ (ret_new S1 st (s := .own (.list ds)) ⟨p, rfl, S1.gh.free hp, hp, vs, upd_same, rv⟩ (.inr (.inl ⟨_, rfl⟩))) (g1.trans st.g)
    · simp only [hz] at hq; exact hq.elim
/-- a built-in of what was so reckoned -/
def emBi (f : List PyData → Res Slot) (m : MML) : MM := fun δ => match m δ with
  | .ok ds δ' => emP (fun _ => f ds) δ'
  | .exc x δ' => .exc x δ'
  | .stuck => .stuck
theorem RepL.toRd {K : Kw} {G H : Hp} : ∀ {vs : List V} {ds : List PyData}, RepL K G vs ds → RdL K G H ds vs
  | _, _, .nil => .nil
  | _, _, .cons r rs => .cons (.inl r) (RepL.toRd rs)
theorem em_bi {C : Cn} {r : List V → Hp → VK → Prop} {f : List PyData → Res Slot} (hf : CallS C.K r f) {t : TA} {m : MML} (s : SndML C W t m) : SndM C W (tCB r t) (emBi f m) := by
  intro B G0 G H σ δ S Q hq
  refine s B G0 G H σ δ S _ ?_
  unfold emBi at hq
  cases r1 : m δ with
  | stuck => rw [r1] at hq; exact hq.elim
  | exc x δ1 => rw [r1] at hq; exact hq
  | ok ds δ1 =>
    rw [r1] at hq
    intro vs G1 H1 S1 g1 rv
    unfold emP at hq
    cases ef : f ds with
    | stuck => simp only [ef] at hq; exact hq.elim
    | exc x => exact (hf.2 ds x ef).elim
    | ok sl =>
      simp only [ef] at hq
      refine hf.1 G1 H1 vs ds sl _ S1.gh rv.toRd ef fun v G2 H2 st rr => ?_
      cases sl with
      | val d => exact hq v G2 H2 (ret_new S1 st rr (.inl ⟨d, rfl⟩)) (g1.trans st.g)
      | own d => exact hq v G2 H2 (ret_new S1 st rr (.inr (.inl ⟨d, rfl⟩))) (g1.trans st.g)
      | tr t => exact hq v G2 H2 (ret_new S1 st rr (.inr (.inr ⟨t, rfl⟩))) (g1.trans st.g)
      | bor d => exact hq.elim
      | bt d => exact hq.elim
      | exn d => exact hq.elim
theorem kp_emP {m : ME} {δ δ' : DEnv} (h : Keep δ δ') : KpR δ (emP m δ') := by
  have := kp_pure (m := m) δ'
  cases r : emP m δ' with
  | stuck => exact True.intro
  | exc x δ1 => rw [r] at this; exact h.trans this
  | ok sl δ1 => rw [r] at this; exact h.trans this
theorem kp_bi {f : List PyData → Res Slot} {m : MML} (h : KpA m) : Kp (emBi f m) := fun δ => by
  unfold emBi
  have h1 := h δ
  cases r : m δ with
  | stuck => exact True.intro
  | exc x δ1 => rw [r] at h1; exact h1
  | ok ds δ1 => rw [r] at h1; exact kp_emP h1
theorem em_callT {x : Str} {T : String} {r : List V → Hp → VK → Prop} {f : List PyData → Res Slot} {p : Pos} {m : MML} (hf : CallS X.kw r f) (hc : CallR X (.type T) r) (hg : Gl X x) (hm : X.mg x = none) (hv : bootBuiltins x = some (.type T)) (h : EDA X a W (e :: es) m)
    (hn : x ≠ "__name__" := by decide) (hdb : (x == ("__debug__" : Str)) = false := by decide) (he : starEach (e :: es) X.env = (false, eval e X.env) :: starEach es X.env := by rfl) (hpl : (backTo pos (starEach es X.env)).any (·.1) = false := by rfl) : EDE X a W (.Call (.Name x p) (e :: es) [] pos) (emBi f m) :=
  let ⟨_, pa, sa, k⟩ := h; ⟨_, pe_callTy hc hg hm hv pa hn hdb he hpl, em_bi (C := cn X a) hf sa, kp_bi k⟩
theorem em_callB {x : Str} {idb : String} {r : List V → Hp → VK → Prop} {f : List PyData → Res Slot} {p : Pos} {m : MML} (hf : CallS X.kw r f) (hc : CallR X (.builtin idb) r) (hg : Gl X x) (hm : X.mg x = none) (hv : bootBuiltins x = some (.builtin idb)) (h : EDA X a W (e :: es) m)
    (hn : x ≠ "__name__" := by decide) (hdb : (x == ("__debug__" : Str)) = false := by decide) (he : starEach (e :: es) X.env = (false, eval e X.env) :: starEach es X.env := by rfl) (hpl : (backTo pos (starEach es X.env)).any (·.1) = false := by rfl) : EDE X a W (.Call (.Name x p) (e :: es) [] pos) (emBi f m) :=
  let ⟨_, pa, sa, k⟩ := h; ⟨_, pe_callB hc hg hm hv pa hn hdb he hpl, em_bi (C := cn X a) hf sa, kp_bi k⟩
/-- a op b: the right side changes nothing, or the left side lasts -/
def emB (f : PyData → PyData → Res Slot) (m n : MM) : MM := fun δ => match emCons m (emCons n emNil) δ with
  | .ok [d, e] δ' => emP (fun _ => f d e) δ'
  | .exc x δ' => .exc x δ'
  | _ => .stuck
theorem kp_B {f : PyData → PyData → Res Slot} {m n : MM} (h : Kp m) (k : Kp n) : Kp (emB f m n) := fun δ => by
  unfold emB
  have h1 := kp_cons h (kp_cons k kp_nil) δ
  split
  · rename_i e; rw [e] at h1; exact kp_emP h1
  · rename_i e; rw [e] at h1; exact h1
  · exact True.intro
theorem em_op {op : Operator} {r : R2} {f : PyData → PyData → Res Slot} (hf : OpS X.kw r f) (hn : NoExc f) (ho : OpR X (binaryOp op) r) {m n : MM} (ha : EDE X a W e m) (hb : EDE X a W e2 n) : EDE X a W (.BinOp e op e2 pos) (emB f m n) := by
  obtain ⟨t, p, s, k1⟩ := ha
  obtain ⟨u, q, z, k2⟩ := hb
  refine ⟨_, pe_op ho (pe_lk p) (pe_lk q), fun B G0 G H σ δ S Q hq => ?_, kp_B k1 k2⟩
  refine s B G0 G H σ δ S _ ?_
  unfold emB emCons emD at hq
  cases r1 : m δ with
  | stuck => rw [r1] at hq; exact hq.elim
  | exc x δ1 => rw [r1] at hq; exact hq
  | ok sl δ1 =>
    rw [r1] at hq
    intro v G1 H1 rv g1
    cases ev : sl.vl with
    | stuck => simp only [ev] at hq; exact hq.elim
    | exc x => exact (vl_noexc ev).elim
    | ok d =>
      refine rv.vl ev fun G2 H2 S2 g2 rp => z B G0 G2 H2 σ δ1 S2 _ ?_
      cases r2 : n δ1 with
      | stuck => simp only [ev, r2] at hq; exact hq.elim
      | exc x δ2 => simp only [ev, r2] at hq; exact hq
      | ok sl2 δ2 =>
        intro v2 G3 H3 rv2 g3
        cases ev2 : sl2.vl with
        | stuck => simp only [ev, r2, ev2] at hq; exact hq.elim
        | exc x => exact (vl_noexc ev2).elim
        | ok d2 =>
          simp only [ev, r2, ev2, emNil] at hq
          unfold emP at hq
          refine rv2.vl ev2 fun G4 H4 S4 g4 rp2 => ?_
          cases ef : f d d2 with
          | stuck => simp only [ef] at hq; exact hq.elim
          | exc x => exact (hn d d2 x ef).elim
          | ok sl3 =>
            simp only [ef] at hq
            have gg : Same G G4 := ((g1.trans g2).trans g3).trans g4
            refine hf G4 H4 v v2 d d2 sl3 _ S4.gh (.inl (rp.mono (g3.trans g4))) (.inl rp2) ef fun v G5 H5 st rr => ?_
            cases sl3 with
            | val d => exact hq v G5 H5 (ret_new S4 st rr (.inl ⟨d, rfl⟩)) (gg.trans st.g)
            | own d => exact hq v G5 H5 (ret_new S4 st rr (.inr (.inl ⟨d, rfl⟩))) (gg.trans st.g)
            | tr t => exact hq v G5 H5 (ret_new S4 st rr (.inr (.inr ⟨t, rfl⟩))) (gg.trans st.g)
            | bor d => exact hq.elim
            | bt d => exact hq.elim
            | exn d => exact hq.elim
end
/-! ### 3. calls that change what they are lent -/
/-- a thing lent: its root, its cells -/
def LnR (K : Kw) (G H : Hp) (fp : List Addr) : Slot → V → Prop
  | .own d, v => ∃ a, v = .ref a ∧ fp = [a] ∧ Top K G H a d
  | .tr t, v => Own K G H v t fp
  | _, _ => False
structure ArgsM (K : Kw) (G H : Hp) (ss : List Slot) (vs : List V) (k : Nat) (r : V) (fp : List Addr) : Prop where
  len : ss.length = vs.length
  vals : ∀ i s, ss[i]? = some s → i ≠ k → ∃ d v, s = .val d ∧ vs[i]? = some v ∧ Rep K G v d
  ln : ∃ s, ss[k]? = some s ∧ vs[k]? = some r ∧ LnR K G H fp s r
  nd : fp.Nodup
  off : ∀ a ∈ fp, G a = none
structure StpF (fp : List Addr) (G H G' H' : Hp) : Prop where
  g : Same G G'
  h : ∀ a o, H a = some o → a ∉ fp → H' a = some o
  gh : Same G' H'
  fr : ∀ a, G a = none → H a ≠ none → a ∉ fp → G' a = none
/-- what was lent is given back -/
def BackM (K : Kw) (fp : List Addr) (H G' H' : Hp) (r : V) (l : Slot) (fpv : List Addr) : Prop := ∃ fp', LnR K G' H' fp' l r ∧ fp'.Nodup ∧ ∀ a ∈ fp', (a ∈ fp ∨ H a = none) ∧ G' a = none ∧ a ∉ fpv
inductive FRes where
  | ok (s : Slot) (l : Slot) | exc (x : Exn) (l : Slot) | stuck
abbrev FM := List Slot → FRes
def spM (C : Cn) (k : Nat) (f : FM) : Sp := fun vs H Q E => ∃ G ss r fp, Same G H ∧ ArgsM C.K G H ss vs k r fp ∧ match f ss with
  | .ok s l => ∀ v G' H' fpv, StpF fp G H G' H' → RvR C G' H' fpv s v → fpv.Nodup → (∀ a ∈ fpv, (a ∈ fp ∨ H a = none) ∧ G' a = none) → BackM C.K fp H G' H' r l fpv → Q v H'
  | .exc x l => ∀ cls d G' H', StpF fp G H G' H' → BackM C.K fp H G' H' r l [] → ExR C G' H' x cls d → E cls d H'
  | .stuck => False
def backAt (k : Nat) (δ : DEnv) (f : Slot → FRes) : FRes := match δ[k]? with
  | some (some (.own d)) => f (.own d)
  | some (some (.tr t)) => f (.tr t)
  | _ => .stuck
theorem backAt_is (k : Nat) (δ : DEnv) (f : Slot → FRes) : (∃ sl, δ[k]? = some (some sl) ∧ ((∃ d, sl = .own d) ∨ ∃ t, sl = .tr t) ∧ backAt k δ f = f sl) ∨ backAt k δ f = .stuck := by
  unfold backAt
  split
  · rename_i d e; exact .inl ⟨_, e, .inl ⟨_, rfl⟩, rfl⟩
  · rename_i t e; exact .inl ⟨_, e, .inr ⟨_, rfl⟩, rfl⟩
  · exact .inr rfl
def Out.resM (k : Nat) : Out → FRes
  | .rt s δ => backAt k δ fun l => .ok s l
  | .nx δ => backAt k δ fun l => .ok (.val .none) l
  | .ex x δ => backAt k δ fun l => .exc x l
  | _ => .stuck
/-- a def of n slots and p parameters, the k-th lent -/
def mDefM (n p k : Nat) (b : MS) : FM := fun ss => if ss.length = p then (b (start0 n ss)).resM k else .stuck
def butAll (H : Hp) (fp : List Addr) : Hp := fun x => if x ∈ fp then none else H x
theorem butAll_in {H : Hp} {fp : List Addr} {a : Addr} (h : a ∈ fp) : butAll H fp a = none := if_pos h
theorem butAll_off {H : Hp} {fp : List Addr} {a : Addr} (h : a ∉ fp) : butAll H fp a = H a := if_neg h
theorem butAll_none {H : Hp} {fp : List Addr} {a : Addr} (h : butAll H fp a = none) : a ∈ fp ∨ H a = none := by
  by_cases ha : a ∈ fp
  · exact .inl ha
  · rw [butAll_off ha] at h; exact .inr h
theorem start_okM {C : Cn} {k : Nat} {r : V} {fp : List Addr} (hR : C.R = [(k, r)]) {G H : Hp} {N : List Str} {ss : List Slot} {vs : List V} (gh : Same G H) (A : ArgsM C.K G H ss vs k r fp) : StR C (butAll H fp) G G H (L2.start N vs) (start0 N.length ss) := by
  obtain ⟨s0, e0, v0, l0⟩ := A.ln
  have there : ∀ a ∈ fp, H a ≠ none := by
    cases s0 with
    | own d => obtain ⟨b, _, ef, t⟩ := l0; subst ef; intro a ha; rw [List.mem_singleton] at ha; subst ha; exact t.ne
    | tr t => exact Own.there l0
    | val d => exact l0.elim
    | bor d => exact l0.elim
    | bt d => exact l0.elim
    | exn d => exact l0.elim
  refine ⟨fun b u q => ?_, Same.refl _, gh, fun _ e _ => e, ?_, fun p hp => ?_, fun i => if i = k then fp else [], fun i s e => ?_, fun i e => ?_, fun i => ?_, fun i j c hij h => ?_, fun i c h => ?_⟩
  · by_cases hb : b ∈ fp
    · rw [butAll_in hb] at q; cases q
    · rw [butAll_off hb] at q; exact q
  · unfold L2.start start0
    simp [A.len]
  · rw [hR, List.mem_singleton] at hp
    subst hp
    exact start_v v0
  · have e' := start_at e
    by_cases hi : i = k
    · subst hi
      rw [e0] at e'; cases e'
      refine ⟨r, start_v v0, ?_⟩
      rw [if_pos rfl]
      cases s0 with
      | own d => exact l0
      | tr t => exact l0
      | val d => exact l0.elim
      | bor d => exact l0.elim
      | bt d => exact l0.elim
      | exn d => exact l0.elim
    · obtain ⟨d, v, rfl, q, rp⟩ := A.vals i s e' hi
      exact ⟨v, start_v q, by rw [if_neg hi]; exact ⟨rfl, rp⟩⟩
  · by_cases hi : i = k
    · subst hi
      have hl : i < ss.length := (List.getElem?_eq_some_iff.mp e0).1
      refine absurd ?_ (e s0)
      unfold start0
      rw [List.getElem?_append_left (by simpa using hl), List.getElem?_map, e0]; rfl
    · exact if_neg hi
  · by_cases hi : i = k
    · simp only [hi, if_true]; exact A.nd
    · simp only [hi, if_false]; exact List.nodup_nil
  · by_cases hi : i = k
    · simp only [hi, if_true] at h
      have hj : ¬ j = k := fun z => hij (hi.trans z.symm)
      simp only [hj, if_false]
      exact fun z => nomatch z
    · simp only [hi, if_false] at h; cases h
  · by_cases hi : i = k
    · simp only [hi, if_true] at h
      exact ⟨butAll_in h, A.off c h⟩
    · simp only [hi, if_false] at h; cases h
section
variable {P : Program} {w : World} {K : PySem.W.Frag} {mg : Str → Option Value} {base : Heap} {ec : EC → Addr}
/-- THE RULE for a def that changes what it is lent -/
theorem fn_m {x qual : Str} {st : Stmt} {f : Addr} {fd : FuncData} {N ps : List Str} {k l : Nat} {b : MS} (F0 : Fun K x qual st f fd) (S : FnScope N ps (defScope st))
    (hbody : ∀ (r : V) (cdv : Value) (A : Around) (outer : List Env) (s : Shared) (H : Hp) (E : XK), Room k (A.deeper (PyProof.Rows.envOfC qual (defScope st) s.heap.objs.size f cdv)) →
      DSs (cxOf (L2.CX P w) P w K mg base N qual (defScope st) f cdv A outer s H E) ⟨ec, fun _ _ => False, [(l, r)]⟩ (fun cls d _ H' => E cls d H') (defBody st) b) :
    FnOk P w K mg base (L2.CX P w) (k + 1) f fd ps (spM ⟨⟨K, w⟩, ec, fun _ _ => False, []⟩ l (mDefM N.length ps.length l b)) := by
  refine F0.okX S (fun vs H Q E h => ?_) (fun cdv A outer s H vs Q E hr h => ?_)
  · obtain ⟨G, ss, r, fp, gh, A, q⟩ := h
    unfold mDefM at q
    by_cases z : ss.length = ps.length
    · rw [← A.len]; exact z
    · rw [if_neg z] at q; exact q.elim
  · obtain ⟨G, ss, r, fp, gh, Ar, q⟩ := h
    obtain ⟨t, p, snd⟩ := hbody r cdv A outer s H E hr
    refine ⟨t, p, ?_⟩
    unfold mDefM at q
    by_cases z : ss.length = ps.length
    · rw [if_pos z] at q
      have S0 := start_okM (C := cn (cxOf (L2.CX P w) P w K mg base N qual (defScope st) f cdv A outer s H E) ⟨ec, fun _ _ => False, [(l, r)]⟩) (N := N) rfl gh Ar
      refine snd (butAll H fp) G G H _ (start0 N.length ss) _ S0 ?_
      have stp : ∀ {δ' : DEnv} {σ' : St} {G' H' : Hp}, StR (cn (cxOf (L2.CX P w) P w K mg base N qual (defScope st) f cdv A outer s H E) ⟨ec, fun _ _ => False, [(l, r)]⟩) (butAll H fp) G G' H' σ' δ' → StpF fp G H G' H' := fun T =>
        ⟨T.g0, fun a o e hn => T.bh a o (by rw [butAll_off hn]; exact e), T.gh, fun a e hh hn => T.fr a e (by rw [butAll_off hn]; exact hh)⟩
      have bck : ∀ {δ' : DEnv} {σ' : St} {G' H' : Hp} {fps : Nat → List Addr} {sl : Slot} {fpv : List Addr}, StR (cn (cxOf (L2.CX P w) P w K mg base N qual (defScope st) f cdv A outer s H E) ⟨ec, fun _ _ => False, [(l, r)]⟩) (butAll H fp) G G' H' σ' δ' →
          EnR (cn (cxOf (L2.CX P w) P w K mg base N qual (defScope st) f cdv A outer s H E) ⟨ec, fun _ _ => False, [(l, r)]⟩) (butAll H fp) G' H' σ' δ' fps → δ'[l]? = some (some sl) → ((∃ d, sl = .own d) ∨ ∃ t, sl = .tr t) → (∀ a ∈ fpv, ∀ i, a ∉ fps i) → BackM ⟨K, w⟩ fp H G' H' r sl fpv := by
        intro δ' σ' G' H' fps sl fpv T E e hs hv
        obtain ⟨v, q1, z⟩ := E.sl l sl e
        have hrt := T.rt (l, r) List.mem_cons_self
        rw [q1] at hrt
        cases hrt
        refine ⟨fps l, ?_, E.nd l, fun a ha => ⟨butAll_none (E.off l a ha).1, (E.off l a ha).2, fun w => hv a w l ha⟩⟩
        rcases hs with ⟨d, rfl⟩ | ⟨t, rfl⟩
        · exact z
        · exact z
      generalize b (start0 N.length ss) = o at q
      cases o with
      | bk δ' => exact q.elim
      | ct δ' => exact q.elim
      | stuck => exact q.elim
      | nx δ' =>
        intro σ' G' H' T
        obtain ⟨fps, E⟩ := T.en
        rcases backAt_is l δ' (fun l => .ok (.val .none) l) with ⟨sl, ed, hs, eb⟩ | eb
        · simp only [Out.resM, eb] at q
          exact q .non G' H' [] (stp T) ⟨rfl, Rep.non⟩ List.nodup_nil (fun a ha => nomatch ha) (bck T E ed hs fun a ha => nomatch ha)
        · simp only [Out.resM, eb] at q
      | rt s1 δ' =>
        intro v σ' G' H' R
        obtain ⟨fps, fpv, E, rv, nd, qv⟩ := R.en
        have hv : ∀ a ∈ fpv, (a ∈ fp ∨ H a = none) ∧ G' a = none := fun a ha => ⟨butAll_none (qv a ha).1.1, (qv a ha).1.2⟩
        rcases backAt_is l δ' (fun l => .ok s1 l) with ⟨sl, ed, hs, eb⟩ | eb
        · simp only [Out.resM, eb] at q
          exact q v G' H' fpv (stp R.st) rv nd hv (bck R.st E ed hs fun a ha => (qv a ha).2)
        · simp only [Out.resM, eb] at q
      | ex x δ' =>
        intro cls d σ' G' H' T rr
        obtain ⟨fps, E⟩ := T.en
        rcases backAt_is l δ' (fun l => .exc x l) with ⟨sl, ed, hs, eb⟩ | eb
        · simp only [Out.resM, eb] at q
          exact q cls d G' H' (stp T) (bck T E ed hs fun a ha => nomatch ha) rr
        · simp only [Out.resM, eb] at q
    · rw [if_neg z] at q; exact q.elim
/-- the def x keeps the promise f about what it is lent as its l-th parameter -/
def FdM (P : Program) (w : World) (K : PySem.W.Frag) (mg : Str → Option Value) (base : Heap) (ec : EC → Addr) (x : Str) (ps : List Str) (k l : Nat) (f : FM) : Prop :=
  ∃ fa fd, FnOk P w K mg base (L2.CX P w) k fa fd ps (spM ⟨⟨K, w⟩, ec, fun _ _ => False, []⟩ l f) ∧ mg x = some (.ref fa) ∧ PySem.W.keepIn K (.ref fa) = true ∧ Binds K fd ps []
theorem fdM_of {x : Str} {st : Stmt} {N ps : List Str} {k l : Nat} {b : MS} (S : FnScope N ps (defScope st)) (L : Ln K mg x st ps)
    (hbody : ∀ {f : Addr} (Lt : V) (cdv : Value) (A : Around) (outer : List Env) (s : Shared) (H : Hp) (E : XK), Room k (A.deeper (PyProof.Rows.envOfC x (defScope st) s.heap.objs.size f cdv)) →
      DSs (cxOf (L2.CX P w) P w K mg base N x (defScope st) f cdv A outer s H E) ⟨ec, fun _ _ => False, [(l, Lt)]⟩ (fun cls d _ H' => E cls d H') (defBody st) b) :
    FdM P w K mg base ec x ps (k + 1) l (mDefM N.length ps.length l b) := by
  obtain ⟨fa, fd, F0, hm, hb⟩ := L
  exact ⟨fa, fd, fn_m F0 S (fun Lt cdv A outer s H E hr => hbody Lt cdv A outer s H E hr), hm, F0.kp, hb⟩
/-- nothing promised: the bottom of a def that calls itself -/
theorem fdM_bot {x : Str} {st : Stmt} {N ps : List Str} {k l : Nat} (S : FnScope N ps (defScope st)) (L : Ln K mg x st ps) : FdM P w K mg base ec x ps (k + 1) l (fun _ => .stuck) := by
  obtain ⟨fa, fd, F0, hm, hb⟩ := L
  exact ⟨fa, fd, F0.okX (N := N) S (fun vs H Q E h => by obtain ⟨_, _, _, _, _, _, q⟩ := h; exact q.elim) (fun cdv A outer s H vs Q E hr h => by obtain ⟨_, _, _, _, _, _, q⟩ := h; exact q.elim), hm, F0.kp, hb⟩
theorem fd_bot {x : Str} {st : Stmt} {N ps : List Str} {k : Nat} (S : FnScope N ps (defScope st)) (L : Ln K mg x st ps) : Fd P w K mg base ec x ps (k + 1) (fun _ => .stuck) := by
  obtain ⟨fa, fd, F0, hm, hb⟩ := L
  exact ⟨fa, fd, F0.okX (N := N) S (fun vs H Q E h => by obtain ⟨_, _, _, _, q⟩ := h; exact q.elim) (fun cdv A outer s H vs Q E hr h => by obtain ⟨_, _, _, _, q⟩ := h; exact q.elim), hm, F0.kp, hb⟩
theorem fdM_mono {x : Str} {ps : List Str} {j k l : Nat} {f : FM} (h : j ≤ k) (L : FdM P w K mg base ec x ps j l f) : FdM P w K mg base ec x ps k l f := by
  obtain ⟨fa, fd, F0, r⟩ := L
  exact ⟨fa, fd, F0.mono h, r⟩
end
end DL
/-! DLn: calls that change what they are lent; comprehensions, tests and statements with effects -/
namespace DL
open PySem L2
section
variable {X : Cx} {a : Ax} {W : WX} {e e2 e3 o : Expr} {es : List Expr} {pos : Pos}
/-! ### 1. arguments, one of them lent -/
def AMR (K : Kw) (G : Hp) (i : Nat) (σ : St) (δ : DEnv) (s : Slot) (v : V) : Prop := (∃ d, s = .val d ∧ Rep K G v d) ∨ (δ[i]? = some (some s) ∧ isO (some (some s)) = true ∧ σ[i]? = some (some v))
def DAM (X : Cx) (a : Ax) (W : WX) (i : Nat) (es : List Expr) (m : DEnv → Res (List Slot)) : Prop :=
  ∃ t, PA X es t ∧ ∀ B G0 G H σ δ, StR (cn X a) B G0 G H σ δ → ∀ Q, ROk (cn X a) W σ G H (fun G' H' ss vs => Paired (AMR X.kw G' i σ δ) ss vs) (m δ) Q → t σ H Q
def amVal (m : MD) (n : DEnv → Res (List Slot)) : DEnv → Res (List Slot) := fun δ => (m δ).bind fun d => (n δ).bind fun ss => .ok (.val d :: ss)
def amLent (i : Nat) (n : DEnv → Res (List Slot)) : DEnv → Res (List Slot) := fun δ => match δ[i]? with
  | some (some (.own d)) => (n δ).bind fun ss => .ok (.own d :: ss)
  | some (some (.tr t)) => (n δ).bind fun ss => .ok (.tr t :: ss)
  | _ => .stuck
theorem AMR.mono {K : Kw} {G G' : Hp} {i : Nat} {σ : St} {δ : DEnv} (g : Same G G') {s : Slot} {v : V} (h : AMR K G i σ δ s v) : AMR K G' i σ δ s v := by
  rcases h with ⟨d, e, r⟩ | h
  · exact .inl ⟨d, e, r.mono g⟩
  · exact .inr h
theorem dam_nil {i : Nat} : DAM X a W i [] mANil := ⟨_, pa_nil, fun B G0 G H σ δ S Q hq => hq [] G H (Stp.refl S.gh) .nil⟩
theorem dam_val {i : Nat} {m : MD} {n : DEnv → Res (List Slot)} (h : DV X a W e m) (k : DAM X a W i es n) (hs : starEach (e :: es) X.env = (false, eval e X.env) :: starEach es X.env := by rfl) : DAM X a W i (e :: es) (amVal m n) := by
  obtain ⟨t, p, s⟩ := h
  obtain ⟨u, q, z⟩ := k
  refine ⟨_, pa_cons p q hs, fun B G0 G H σ δ S Q hq => ?_⟩
  refine s B G0 G H σ δ S _ ?_
  have hq' : ROk (cn X a) W σ G H (fun G' H' ss vs => Paired (AMR X.kw G' i σ δ) ss vs) ((m δ).bind fun d => (n δ).bind fun ss => .ok (.val d :: ss)) Q := hq
  generalize m δ = r at hq'
  cases r with
  | stuck => exact hq'.elim
  | exc x => exact hq'
  | ok d =>
    intro v G1 H1 st1 r1
    refine z B G0 G1 H1 σ δ (S.step st1) _ ?_
    have hq2 : ROk (cn X a) W σ G H (fun G' H' ss vs => Paired (AMR X.kw G' i σ δ) ss vs) ((n δ).bind fun ss => .ok (.val d :: ss)) Q := hq'
    generalize n δ = rn at hq2
    cases rn with
    | stuck => exact hq2.elim
    | exc x => exact fun cls d G3 H3 s3 r => hq2 cls d G3 H3 (st1.trans s3) r
    | ok ss => exact fun vs G3 H3 st3 r3 => hq2 (v :: vs) G3 H3 (st1.trans st3) (.cons (.inl ⟨d, rfl, Rep.mono st3.g r1⟩) r3)
theorem dam_lent {i : Nat} {x : Str} {p : Pos} {n : DEnv → Res (List Slot)} (k : DAM X a W i es n) (hN : X.N[i]? = some x := by rfl) (hv : Vis X.env.scope x := by first | exact Or.inl rfl | exact Or.inr (Or.inl rfl) | exact Or.inr (Or.inr rfl)) (hd : (x == ("__debug__" : Str)) = false := by decide)
    (hcd : (x == ("__classdict__" : Str)) = false := by decide) (hs : starEach (.Name x p :: es) X.env = (false, eval (.Name x p) X.env) :: starEach es X.env := by rfl) : DAM X a W i (.Name x p :: es) (amLent i n) := by
  obtain ⟨u, q, z⟩ := k
  refine ⟨_, pa_cons (pe_var (i := i) hN hv hd hcd) q hs, fun B G0 G H σ δ S Q hq => ?_⟩
  have go : ∀ s, δ[i]? = some (some s) → isO (some (some s)) = true → ROk (cn X a) W σ G H (fun G' H' ss vs => Paired (AMR X.kw G' i σ δ) ss vs) ((n δ).bind fun ss => .ok (s :: ss)) Q → ∃ v, σ[i]? = some (some v) ∧ u σ H fun vs H1 => Q (v :: vs) H1 := by
    intro s es ho hq2
    obtain ⟨v, fp, ev, _⟩ := S.sl es
    refine ⟨v, ev, z B G0 G H σ δ S _ ?_⟩
    generalize n δ = rn at hq2
    cases rn with
    | stuck => exact hq2.elim
    | exc x => exact hq2
    | ok ss => exact fun vs G3 H3 st3 r3 => hq2 (v :: vs) G3 H3 st3 (.cons (.inr ⟨es, ho, ev⟩) r3)
  unfold amLent at hq
  split at hq
  · rename_i d ei
    exact go _ ei rfl hq
  · rename_i d ei
    exact go _ ei rfl hq
  · exact hq.elim
def allVal : List Slot → Bool
  | [] => true
  | .val _ :: r => allVal r
  | _ => false
/-- all are values but the k-th -/
def okM : Nat → List Slot → Bool
  | 0, s :: r => isO (some (some s)) && allVal r
  | n + 1, .val _ :: r => okM n r
  | _, _ => false
theorem allVal_at : ∀ {ss : List Slot} {i : Nat} {s : Slot}, allVal ss = true → ss[i]? = some s → ∃ d, s = .val d
  | [], _, _, _, e => by simp at e
  | s :: r, i, u, h, e => by
    cases s with
    | val d => cases i with
      | zero => simp at e; exact ⟨d, e.symm⟩
      | succ i => exact allVal_at (ss := r) h (by simpa using e)
    | own d => cases h
    | bor d => cases h
    | tr d => cases h
    | bt d => cases h
    | exn d => cases h
theorem okM_at : ∀ {k : Nat} {ss : List Slot}, okM k ss = true → (∃ s, ss[k]? = some s ∧ isO (some (some s)) = true) ∧ ∀ i s, ss[i]? = some s → i ≠ k → ∃ d, s = .val d
  | 0, [], h => by cases h
  | k + 1, [], h => by cases h
  | 0, s :: r, h => by
    have h' : isO (some (some s)) = true ∧ allVal r = true := by simpa [okM] using h
    refine ⟨⟨s, rfl, h'.1⟩, fun i u e hi => ?_⟩
    cases i with
    | zero => exact absurd rfl hi
    | succ i => exact allVal_at h'.2 (by simpa using e)
  | k + 1, s :: r, h => by
    cases s with
    | val d =>
      obtain ⟨⟨s, h1, h2⟩, h3⟩ := okM_at (k := k) (ss := r) h
      refine ⟨⟨s, by simpa using h1, h2⟩, fun i u e hi => ?_⟩
      cases i with
      | zero => simp at e; exact ⟨d, e.symm⟩
      | succ i => exact h3 i u (by simpa using e) fun z => hi (by rw [z])
    | own d => cases h
    | bor d => cases h
    | tr d => cases h
    | bt d => cases h
    | exn d => cases h
theorem paired_at {α β : Type} {R : α → β → Prop} : ∀ {xs : List α} {ys : List β}, Paired R xs ys → ∀ {i : Nat} {x : α}, xs[i]? = some x → ∃ y, ys[i]? = some y ∧ R x y
  | _, _, .nil, i, _, e => by simp at e
  | _, _, .cons r t, 0, _, e => by simp at e; subst e; exact ⟨_, rfl, r⟩
  | _, _, .cons _ t, i + 1, _, e => by
    obtain ⟨y, h1, h2⟩ := paired_at t (i := i) (by simpa using e)
    exact ⟨y, by simpa using h1, h2⟩
def callR (i : Nat) (δ : DEnv) (r : FRes) : MRes := match r with
  | .ok s l => if isO (some (some l)) = true then .ok s (δ.set i (some l)) else .stuck
  | .exc x l => if isO (some (some l)) = true then .exc x (δ.set i (some l)) else .stuck
  | .stuck => .stuck
/-- a call: the variable i is lent as the k-th argument -/
def emCall (i k : Nat) (f : FM) (m : DEnv → Res (List Slot)) : MM := fun δ => match m δ with
  | .ok ss => if okM k ss = true ∧ isO δ[i]? = true then callR i δ (f ss) else .stuck
  | .exc x => .exc x δ
  | .stuck => .stuck
theorem kp_call {i k : Nat} {f : FM} {m : DEnv → Res (List Slot)} : Kp (emCall i k f m) := fun δ => by
  unfold emCall
  split
  · split
    · rename_i h
      unfold callR
      split
      · split
        · rename_i h2; exact Keep.set h.2 h2
        · exact True.intro
      · split
        · rename_i h2; exact Keep.set h.2 h2
        · exact True.intro
      · exact True.intro
    · exact True.intro
  · exact Keep.refl δ
  · exact True.intro
/-- from the callee's word to the frame -/
theorem back_ok {C : Cn} {B G0 G H G' H' : Hp} {σ : St} {δ : DEnv} {i : Nat} {r : V} {l : Slot} {fps : Nat → List Addr} {fpv : List Addr} (S : StR C B G0 G H σ δ) (E : EnR C B G H σ δ fps) (hi : i < δ.length) (hr : σ[i]? = some (some r)) (st : StpF (fps i) G H G' H') (b : BackM C.K (fps i) H G' H' r l fpv)
    (hv : ∀ a ∈ fpv, (a ∈ fps i ∨ H a = none) ∧ G' a = none) : ∃ fps', EnR C B G' H' σ (δ.set i (some l)) fps' ∧ StR C B G0 G' H' σ (δ.set i (some l)) ∧ ∀ a ∈ fpv, (B a = none ∧ G' a = none) ∧ ∀ j, a ∉ fps' j := by
  obtain ⟨fp', ln, nd, q⟩ := b
  have sl : SlR C B G' H' fp' l r := by
    cases l with
    | own d => exact ln
    | tr t => exact ln
    | val d => exact ln.elim
    | bor d => exact ln.elim
    | bt d => exact ln.elim
    | exn d => exact ln.elim
  have gn : ∀ a, G' a ≠ none → G a ≠ none ∨ H a = none ∨ a ∈ fps i := fun a ha => by
    by_cases h1 : G a = none
    · by_cases h2 : H a = none
      · exact .inr (.inl h2)
      · by_cases h3 : a ∈ fps i
        · exact .inr (.inr h3)
        · exact absurd (st.fr a h1 h2 h3) ha
    · exact .inl h1
  have nw : ∀ a ∈ fp', (a ∈ fps i ∨ H a = none) ∧ G' a = none := fun a ha => ⟨(q a ha).1, (q a ha).2.1⟩
  have E' := E.put S.bh S.len hi st.g st.h gn sl nd nw
  have S' := S.put E hi st.g st.gh st.h gn sl nd nw (fun p hp e => by have := S.rt p hp; rw [e, hr] at this; exact Option.some.inj (Option.some.inj this))
  rw [set_id hr] at E' S'
  refine ⟨_, E', S', fun a ha => ⟨⟨?_, (hv a ha).2⟩, fun j z => ?_⟩⟩
  · rcases (hv a ha).1 with w | w
    · exact (E.off i a w).1
    · exact S.bh.free w
  · by_cases hj : j = i
    · subst hj
      rw [fset_same] at z
      exact (q a z).2.2 ha
    · rw [fset_ne hj] at z
      rcases (hv a ha).1 with w | w
      · exact E.dj j i a hj z w
      · exact E.there z w
theorem em_call {x : Str} {f : FM} {k i l : Nat} {ps : List Str} {p : Pos} {m : DEnv → Res (List Slot)} (F0 : FdM X.prog X.w X.K X.mg X.base a.ec x ps k l f) (hr : Room k X.A) (hg : Gl X x) (tk : Takes X W) (h : DAM X a W i (e :: es) m)
    (hdb : (x == ("__debug__" : Str)) = false := by decide) (he : starEach (e :: es) X.env = (false, eval e X.env) :: starEach es X.env := by rfl) (hpl : (backTo pos (starEach es X.env)).any (·.1) = false := by rfl) : EDE X a W (.Call (.Name x p) (e :: es) [] pos) (emCall i l f m) := by
  obtain ⟨fa, fd, F1, hm, hk, hb⟩ := F0
  obtain ⟨t, pa, s⟩ := h
  refine ⟨_, pe_callS F1 hr hg hm hk hb (fun σ => passAt tk σ) pa hdb he hpl, fun B G0 G H σ δ S Q hq => ?_, kp_call⟩
  refine s B G0 G H σ δ S _ ?_
  unfold emCall at hq
  cases rm : m δ with
  | stuck => rw [rm] at hq; exact hq.elim
  | exc x => rw [rm] at hq; exact fun cls d G' H' st r => hq cls d G' H' (S.step st) r
  | ok ss =>
    rw [rm] at hq
    intro vs G1 H1 st1 pr
    simp only at hq
    by_cases hz : okM l ss = true ∧ isO δ[i]? = true
    · rw [if_pos hz] at hq
      have S1 := S.step st1
      obtain ⟨fps, E⟩ := S1.en
      obtain ⟨⟨s0, h0, ho⟩, hv⟩ := okM_at hz.1
      obtain ⟨r, q1, am⟩ := paired_at pr h0
      have am' : δ[i]? = some (some s0) ∧ σ[i]? = some (some r) := by
        rcases am with ⟨d, e, _⟩ | ⟨e, _, e2⟩
        · rw [e] at ho; cases ho
        · exact ⟨e, e2⟩
      obtain ⟨v0, q0, sl⟩ := E.sl i s0 am'.1
      rw [am'.2] at q0; cases q0
      have ln : LnR X.kw G1 H1 (fps i) s0 r := by
        cases s0 with
        | own d => exact sl
        | tr t => exact sl
        | val d => cases ho
        | bor d => cases ho
        | bt d => cases ho
        | exn d => cases ho
      have hi : i < δ.length := (List.getElem?_eq_some_iff.mp am'.1).1
      refine ⟨G1, ss, r, fps i, S1.gh, ⟨Paired.length pr, fun j u e hj => ?_, ⟨s0, h0, q1, ln⟩, E.nd i, fun c hc => (E.off i c hc).2⟩, ?_⟩
      · obtain ⟨v, q2, am2⟩ := paired_at pr e
        obtain ⟨d, ed⟩ := hv j u e hj
        rcases am2 with ⟨d2, e2, rp⟩ | ⟨_, ho2, _⟩
        · exact ⟨d2, v, e2, q2, rp⟩
        · rw [ed] at ho2; cases ho2
      · cases rf : f ss with
        | stuck => rw [rf] at hq; exact hq.elim
        | ok s2 l2 =>
          rw [rf] at hq
          unfold callR at hq
          simp only at hq
          split at hq
          · intro v G2 H2 fpv sF rv nd hvv bk
            obtain ⟨fps', E', S', q⟩ := back_ok S1 E hi am'.2 sF bk hvv
            exact hq v G2 H2 ⟨S', fps', fpv, E', rv, nd, q⟩ (st1.g.trans sF.g)
          · exact hq.elim
        | exc x l2 =>
          rw [rf] at hq
          unfold callR at hq
          simp only at hq
          split at hq
          · intro cls d G2 H2 sF bk rr
            obtain ⟨fps', E', S', q⟩ := back_ok S1 E hi am'.2 sF bk (fun a ha => nomatch ha)
            exact hq cls d G2 H2 S' rr
          · exact hq.elim
    · rw [if_neg hz] at hq; exact hq.elim
/-- a new list of no name is lent: nothing of it is seen later -/
def mCallTmp (f : FM) (m : ME) (n : ML) : ME := fun δ => (m δ).bind fun s => match s with
  | .own d => (n δ).bind fun ds => match f (.own d :: ds.map Slot.val) with | .ok r _ => .ok r | .exc x _ => .exc x | .stuck => .stuck
  | _ => .stuck
theorem resF_of {C : Cn} {H0 G H : Hp} {fpv : List Addr} {s : Slot} {v : V} (r : RvR C G H fpv s v) (nd : fpv.Nodup) (h : ∀ a ∈ fpv, H0 a = none ∧ G a = none) : ResF C.K H0 G H s v := by
  cases s with
  | val d => exact r.2
  | own d => obtain ⟨b, e, ef, t⟩ := r; subst ef; exact ⟨b, e, (h b List.mem_cons_self).2, (h b List.mem_cons_self).1, t⟩
  | tr t => exact ⟨fpv, r, nd, fun a ha => ⟨(h a ha).2, (h a ha).1⟩⟩
  | bor d => exact r.elim
  | bt d => exact r.elim
  | exn d => exact r.elim
theorem vals_at {K : Kw} {G : Hp} : ∀ {vs : List V} {ds : List PyData} {i : Nat} {s : Slot}, RepL K G vs ds → (ds.map Slot.val)[i]? = some s → ∃ d v, s = .val d ∧ vs[i]? = some v ∧ Rep K G v d
  | _, _, _, _, .nil, e => by simp at e
  | _, _, 0, _, .cons r rs, e => by simp at e; exact ⟨_, _, e.symm, rfl, r⟩
  | _, _, i + 1, _, .cons r rs, e => by
    obtain ⟨d, v, h1, h2, h3⟩ := vals_at (i := i) rs (by simpa using e)
    exact ⟨d, v, h1, by simpa using h2, h3⟩
theorem de_callTmp {x : Str} {f : FM} {k : Nat} {ps : List Str} {p : Pos} {m : ME} {n : ML} (F0 : FdM X.prog X.w X.K X.mg X.base a.ec x ps k 0 f) (hr : Room k X.A) (hg : Gl X x) (tk : Takes X W) (h : DE X a W e m) (kk : DA X a W es n) (hs : starEach (e :: es) X.env = (false, eval e X.env) :: starEach es X.env := by rfl)
    (hdb : (x == ("__debug__" : Str)) = false := by decide) (hpl : (backTo pos (starEach es X.env)).any (·.1) = false := by rfl) : DE X a W (.Call (.Name x p) (e :: es) [] pos) (mCallTmp f m n) := by
  obtain ⟨fa, fd, F1, hm, hk, hb⟩ := F0
  obtain ⟨t, pt, s⟩ := h
  obtain ⟨u, pu, z⟩ := kk
  refine ⟨_, pe_callS F1 hr hg hm hk hb (fun σ => passAt tk σ) (pa_cons pt pu hs) hdb hs hpl, fun B G0 G H σ δ S Q hq => ?_⟩
  refine s B G0 G H σ δ S _ ?_
  have hq' : ROk (cn X a) W σ G H (relE X.kw H) ((m δ).bind fun s => match s with
    | .own d => (n δ).bind fun ds => match f (.own d :: ds.map Slot.val) with | .ok r _ => .ok r | .exc x _ => .exc x | .stuck => .stuck
    | _ => .stuck) Q := hq
  generalize m δ = r at hq'
  cases r with
  | stuck => exact hq'.elim
  | exc x => exact hq'
  | ok sl =>
    cases sl with
    | val d => exact hq'.elim
    | bor d => exact hq'.elim
    | tr d => exact hq'.elim
    | bt d => exact hq'.elim
    | exn d => exact hq'.elim
    | own d =>
      intro v G1 H1 st1 ⟨ad, ev, na, n0, tp⟩
      subst ev
      refine z B G0 G1 H1 σ δ (S.step st1) _ ?_
      have hq2 : ROk (cn X a) W σ G H (relE X.kw H) ((n δ).bind fun ds => match f (.own d :: ds.map Slot.val) with | .ok r _ => .ok r | .exc x _ => .exc x | .stuck => .stuck) Q := hq'
      generalize n δ = rn at hq2
      cases rn with
      | stuck => exact hq2.elim
      | exc x => exact fun cls d G3 H3 s3 r => hq2 cls d G3 H3 (st1.trans s3) r
      | ok ds =>
        intro vs G2 H2 st2 rv
        have st := st1.trans st2
        have na2 : G2 ad = none := st2.fr ad na tp.ne
        have fin : ∀ {G3 H3 : Hp}, StpF [ad] G2 H2 G3 H3 → (G3 ad = none ∨ True) → Same G G3 ∧ Same H H3 ∧ Same G3 H3 ∧ ∀ b, G b = none → H b ≠ none → G3 b = none := fun {G3 H3} sF _ => by
          have hne : ∀ b, H b ≠ none → b ∉ [ad] := fun b hb => by
            rw [List.mem_singleton]; intro w; subst w; exact hb n0
          exact ⟨st.g.trans sF.g, fun b o e => sF.h b o (st.h b o e) (hne b (by rw [e]; exact fun z => nomatch z)), sF.gh, fun b e hb' => sF.fr b (st.fr b e hb') (Same.ne st.h hb') (hne b hb')⟩
        refine ⟨G2, .own d :: ds.map Slot.val, .ref ad, [ad], st2.gh, ⟨by simp [rv.length], fun i s e hi => ?_, ⟨.own d, rfl, rfl, ad, rfl, rfl, tp.mono st2.g st2.h⟩, by simp, fun b hb => by rw [List.mem_singleton] at hb; subst hb; exact na2⟩, ?_⟩
        · cases i with
          | zero => exact absurd rfl hi
          | succ i =>
            obtain ⟨d, v, h1, h2, h3⟩ := vals_at rv (by simpa using e)
            exact ⟨d, v, h1, by simpa using h2, h3⟩
        · have hq3 : ROk (cn X a) W σ G H (relE X.kw H) (match f (.own d :: ds.map Slot.val) with | .ok r _ => .ok r | .exc x _ => .exc x | .stuck => .stuck) Q := hq2
          cases rf : f (.own d :: ds.map Slot.val) with
          | stuck => rw [rf] at hq3; exact hq3.elim
          | exc x l2 =>
            rw [rf] at hq3
            intro cls dd G3 H3 sF bk rr
            obtain ⟨g1, g2, g3, g4⟩ := fin sF (.inr trivial)
            exact hq3 cls dd G3 H3 ⟨g1, g2, g3, g4⟩ rr
          | ok s2 l2 =>
            rw [rf] at hq3
            intro v G3 H3 fpv sF rr nd hv bk
            obtain ⟨g1, g2, g3, g4⟩ := fin sF (.inr trivial)
            refine hq3 v G3 H3 ⟨g1, g2, g3, g4⟩ (resF_of (C := cn X a) rr nd fun b hb => ⟨?_, (hv b hb).2⟩)
            rcases (hv b hb).1 with w | w
            · rw [List.mem_singleton] at w; subst w; exact n0
            · exact st.h.free w
/-! ### 2. tests with effects -/
def emTest (m : MM) (δ : DEnv) (y n : DEnv → Out) : Out := match m δ with
  | .ok s δ' => match s.bl with
    | .ok b => if b = true then y δ' else n δ'
    | _ => .stuck
  | .exc x δ' => .ex x δ'
  | .stuck => .stuck
def mIfM (c : MM) (m n : MS) : MS := fun δ => emTest c δ m n
theorem ds_ifM {c : MM} {m n : MS} {s1 s2 : List Stmt} (hc : EDE X a W e c) (h : DSs X a W s1 m) (k : DSs X a W s2 n) (he : ∀ whole, isTrue e X.env whole = (do let v ← whole; standAt e.pos; holding [v] (truthy v)) := by intro _; rfl) : DS X a W (.If e s1 s2 pos) (mIfM c m n) := by
  obtain ⟨tc, pc, sc, _⟩ := hc
  obtain ⟨t, p, s⟩ := h
  obtain ⟨u, r, z⟩ := k
  refine ⟨_, ps_if (pt_val pc he) p r, fun B G0 G H σ δ D S q => ?_⟩
  refine sc B G0 G H σ δ S _ ?_
  have q' : OOk (cn X a) W B G0 D (emTest c δ m n) := q
  unfold emTest at q'
  cases rc : c δ with
  | stuck => rw [rc] at q'; exact q'.elim
  | exc x δ' => rw [rc] at q'; exact fun cls d G' H' T ex => q' cls d σ G' H' T ex
  | ok sl δ' =>
    rw [rc] at q'
    intro v G' H' R g'
    simp only at q'
    cases eb : sl.bl with
    | stuck => rw [eb] at q'; exact q'.elim
    | exc x => rw [eb] at q'; exact q'.elim
    | ok b =>
      rw [eb] at q'
      simp only at q'
      unfold Slot.bl at eb
      split at eb
      · cases eb
        obtain ⟨fps, fp, E, rv, _⟩ := R.en
        obtain ⟨_, rv⟩ := rv
        cases rv
        refine ⟨_, rfl, ?_⟩
        cases b with
        | true =>
          simp only [if_true] at q' ⊢
          exact s B G0 G' H' σ δ' D R.st q'
        | false =>
          have q2 : OOk (cn X a) W B G0 D (n δ') := q'
          exact z B G0 G' H' σ δ' D R.st q2
      · cases eb
/-- not, and, or: as values -/
def emNot (m : MM) : MM := fun δ => match m δ with
  | .ok s δ' => match s.bl with
    | .ok b => .ok (.val (.bool (!b))) δ'
    | _ => .stuck
  | r => r
theorem bl_val {s : Slot} {b : Bool} (h : s.bl = .ok b) : s = .val (.bool b) := by
  unfold Slot.bl at h
  split at h
  · cases h; rfl
  · cases h
theorem bl_ne {s : Slot} {x : Exn} : s.bl ≠ .exc x := by
  unfold Slot.bl
  split <;> (intro h; cases h)
theorem em_not {m : MM} (h : EDE X a W e m) : EDE X a W (.UnaryOp .Not e pos) (emNot m) := by
  obtain ⟨t, p, s, kp⟩ := h
  refine ⟨_, pe_not p, fun B G0 G H σ δ S Q q => ?_, fun δ => ?_⟩
  · refine s B G0 G H σ δ S _ ?_
    unfold emNot at q
    cases rc : m δ with
    | stuck => rw [rc] at q; exact q.elim
    | exc x δ' => rw [rc] at q; exact q
    | ok sl δ' =>
      rw [rc] at q
      intro v G' H' R g'
      simp only at q
      cases eb : sl.bl with
      | stuck => rw [eb] at q; exact q.elim
      | exc x => exact (bl_ne eb).elim
      | ok b =>
        rw [eb] at q
        have := bl_val eb
        subst this
        obtain ⟨fps, fp, E, rv, nd, qv⟩ := R.en
        obtain ⟨ef, rv⟩ := rv
        cases rv
        exact ⟨_, rfl, q (.bl (!b)) G' H' ⟨R.st, fps, [], E, ⟨rfl, Rep.bl _⟩, List.nodup_nil, fun a ha => nomatch ha⟩ g'⟩
  · unfold emNot
    have h1 := kp δ
    cases rc : m δ with
    | stuck => exact True.intro
    | exc x δ' => rw [rc] at h1; exact h1
    | ok sl δ' =>
      rw [rc] at h1
      simp only
      cases eb : sl.bl <;> first | exact h1 | exact True.intro
/-! ### 3. statements -/
def mAsgM (i : Nat) (m : MM) : MS := fun δ => match m δ with
  | .ok s δ' => asgS i δ' s
  | .exc x δ' => .ex x δ'
  | .stuck => .stuck
theorem RetR.asg {C : Cn} {B G0 G H : Hp} {σ : St} {δ : DEnv} {s : Slot} {v : V} {i : Nat} (hf : C.free i) (R : RetR C B G0 G H σ δ s v) : StR C B G0 G H (σ.set i (some v)) (δ.set i (some s)) := by
  obtain ⟨fps, fp, E, rv, nd, q⟩ := R.en
  by_cases hi : i < δ.length
  · have S := R.st
    have E1 : EnR C B G H (σ.set i (some v)) (δ.set i (some s)) (fset fps i fp) := by
      refine ⟨fun j u e => ?_, fun j e => ?_, fun j => ?_, fun j k c hjk hc => ?_, fun j c hc => ?_⟩
      · by_cases hj : i = j
        · subst hj
          rw [List.getElem?_set_self hi] at e
          cases e
          refine ⟨v, by rw [List.getElem?_set_self (by rw [S.len]; exact hi)], ?_⟩
          rw [fset_same]
          cases s with
          | val d => exact rv
          | own d => exact rv
          | tr t => exact rv
          | bor d => exact rv.elim
          | bt d => exact rv.elim
          | exn d => exact rv.elim
        · rw [List.getElem?_set_ne hj] at e ⊢
          rw [fset_ne (Ne.symm hj)]
          exact E.sl j u e
      · by_cases hj : i = j
        · subst hj; exact absurd (List.getElem?_set_self hi) (e s)
        · rw [fset_ne (Ne.symm hj)]
          exact E.no j fun u z => e u (by rw [List.getElem?_set_ne hj]; exact z)
      · by_cases hj : j = i
        · subst hj; rw [fset_same]; exact nd
        · rw [fset_ne hj]; exact E.nd j
      · by_cases hj : j = i
        · subst hj
          rw [fset_same] at hc
          rw [fset_ne (Ne.symm hjk)]
          exact (q c hc).2 k
        · rw [fset_ne hj] at hc
          by_cases hk : k = i
          · subst hk; rw [fset_same]; exact fun w => (q c w).2 j hc
          · rw [fset_ne hk]; exact E.dj j k c hjk hc
      · by_cases hj : j = i
        · subst hj; rw [fset_same] at hc; exact (q c hc).1
        · rw [fset_ne hj] at hc; exact E.off j c hc
    exact ⟨S.bh, S.g0, S.gh, S.fr, by simp [S.len], fun p hp => by rw [List.getElem?_set_ne (Ne.symm (hf p hp))]; exact S.rt p hp, _, E1⟩
  · rw [set_out hi, set_out (by rw [R.st.len]; exact hi)]; exact R.st
theorem asgM_ok {C : Cn} {W : WX} {B G0 G H : Hp} {σ : St} {δ : DEnv} {D : Ends} {s : Slot} {v : V} {i : Nat} (hf : C.free i) (R : RetR C B G0 G H σ δ s v) (k : OOk C W B G0 D (asgS i δ s)) : D.nx (σ.set i (some v)) H := by
  cases s with
  | val d => exact k _ G H (R.asg hf)
  | own d => exact k _ G H (R.asg hf)
  | tr d => exact k _ G H (R.asg hf)
  | bor d => exact k.elim
  | bt d => exact k.elim
  | exn d => exact k.elim
theorem ds_asgM {i : Nat} {x : Str} {m : MM} {pos' : Pos} (hfr : a.free i) (hN : X.N.Nodup) (hi : X.N[i]? = some x) (hx : Loc X.env.scope x) (h : EDE X a W e m) (hs : swapsWith e (some (.Name x pos')) pos.line X.env = pure false := by rfl)
    (hf : X.fn x = true ∨ X.env.scope.names.lookup x = some .local := by first | exact .inl rfl | exact .inr rfl | assumption) : DS X a W (.Assign [.Name x pos'] e pos) (mAsgM i m) := by
  obtain ⟨t, p, s, _⟩ := h
  refine ⟨_, ps_set hN hi hx p hs hf, fun B G0 G H σ δ D S q => ?_⟩
  refine s B G0 G H σ δ S _ ?_
  have q' : OOk (cn X a) W B G0 D (mAsgM i m δ) := q
  unfold mAsgM at q'
  cases r : m δ with
  | stuck => rw [r] at q'; exact q'.elim
  | exc x δ' => rw [r] at q'; exact fun cls d G' H' T ex => q' cls d σ G' H' T ex
  | ok sl δ' =>
    rw [r] at q'
    exact fun v G' H' R g' => asgM_ok (C := cn X a) hfr R q'
def mAsgGM (g : MG) (m : MM) : MS := fun δ => match m δ with
  | .ok s δ' => match s.vl with
    | .ok d => tgtO g δ' d
    | _ => .stuck
  | .exc x δ' => .ex x δ'
  | .stuck => .stuck
theorem ds_asgGM {tg : Expr} {g : MG} {m : MM} (h : EDE X a W e m) {vs : List Nat} (hg : DG X a tg g vs) (hs : swapsWithSole [tg] e pos.line X.env = pure false := by rfl) (hw : swappedStores [tg] e X.env = pure none := by rfl)
    (h1 : (assignEach [tg] X.env).map (·.2) = [assign tg X.env] := by rfl) : DS X a W (.Assign [tg] e pos) (mAsgGM g m) := by
  obtain ⟨t, p, s, _⟩ := h
  obtain ⟨u, q, z⟩ := hg
  refine ⟨_, ps_asg (pe_lk p) q hs hw h1, fun B G0 G H σ δ D S k => ?_⟩
  refine s B G0 G H σ δ S _ ?_
  have k' : OOk (cn X a) W B G0 D (mAsgGM g m δ) := k
  unfold mAsgGM at k'
  cases r : m δ with
  | stuck => rw [r] at k'; exact k'.elim
  | exc x δ' => rw [r] at k'; exact fun cls d G' H' T ex => k' cls d σ G' H' T ex
  | ok sl δ' =>
    rw [r] at k'
    intro v G' H' R g'
    cases ev : sl.vl with
    | stuck => simp only [ev] at k'; exact k'.elim
    | exc x => exact (vl_noexc ev).elim
    | ok d =>
      simp only [ev] at k'
      unfold tgtO at k'
      refine R.vl ev fun G2 H2 S2 g2 rp => ?_
      cases e : g d δ' with
      | none => rw [e] at k'; exact k'.elim
      | some δ2 => rw [e] at k'; exact z B G0 G2 H2 σ δ' v d δ2 D.nx S2 rp e fun σ' T _ => k' σ' G2 H2 T
def mRetM (m : MM) : MS := fun δ => match m δ with
  | .ok s δ' => retS δ' s
  | .exc x δ' => .ex x δ'
  | .stuck => .stuck
theorem ds_retM {m : MM} (h : EDE X a W e m) : DS X a W (.Return (some e) pos) (mRetM m) := by
  obtain ⟨t, p, s, _⟩ := h
  refine ⟨_, ps_ret p, fun B G0 G H σ δ D S q => ?_⟩
  refine s B G0 G H σ δ S _ ?_
  have q' : OOk (cn X a) W B G0 D (mRetM m δ) := q
  unfold mRetM at q'
  cases r : m δ with
  | stuck => rw [r] at q'; exact q'.elim
  | exc x δ' => rw [r] at q'; exact fun cls d G' H' T ex => q' cls d σ G' H' T ex
  | ok sl δ' =>
    rw [r] at q'
    intro v G' H' R g'
    cases sl with
    | val d => exact q' v σ G' H' R
    | own d => exact q' v σ G' H' R
    | tr d => exact q' v σ G' H' R
    | bor d => exact q'.elim
    | bt d => exact q'.elim
    | exn d => exact q'.elim
def mDropM (m : MM) : MS := fun δ => match m δ with
  | .ok _ δ' => .nx δ'
  | .exc x δ' => .ex x δ'
  | .stuck => .stuck
theorem ds_exprM {m : MM} (h : EDE X a W e m) (hs : swapsWith e none pos.line X.env = pure false := by rfl) : DS X a W (.Expr e pos) (mDropM m) := by
  obtain ⟨t, p, s, _⟩ := h
  refine ⟨_, ps_expr p hs, fun B G0 G H σ δ D S q => ?_⟩
  refine s B G0 G H σ δ S _ ?_
  have q' : OOk (cn X a) W B G0 D (mDropM m δ) := q
  unfold mDropM at q'
  cases r : m δ with
  | stuck => rw [r] at q'; exact q'.elim
  | exc x δ' => rw [r] at q'; exact fun cls d G' H' T ex => q' cls d σ G' H' T ex
  | ok sl δ' => rw [r] at q'; exact fun v G' H' R g' => q' σ G' H' R.st
/-- l.append(e), e changes what is lent -/
def isL : Option (Option Slot) → Bool
  | some (some (.own (.list _))) => true
  | _ => false
def mAppM (i : Nat) (m : MM) : MS := fun δ => if isL δ[i]? = true then (match m δ with
  | .ok s δ' => match s.vl with
    | .ok d => match δ'[i]? with
      | some (some (.own (.list ds))) => if ds.length < sizeLine then .nx (δ'.set i (some (.own (.list (ds ++ [d]))))) else .stuck
      | _ => .stuck
    | _ => .stuck
  | .exc x δ' => .ex x δ'
  | .stuck => .stuck) else .stuck
theorem ds_appendM {i : Nat} {x : Str} {m : MM} {p1 p2 pos2 : Pos} (h : EDE X a W e m) (hst : starEach (e :: []) X.env = (false, eval e X.env) :: starEach [] X.env := by rfl)
    (hp : ∀ t, PA X [e] t → PE X (.Call (.Attribute (.Name x p1) "append" p2) [e] [] pos) (tBM X.K "list" rAppend (tVar i) t) := by exact fun _ ht => pe_bm PySem.F.plainAttrs_list PySem.F.slot_list_append PySem.F.type_list_append mt_append (pv _) ht)
    (hs : swapsWith (.Call (.Attribute (.Name x p1) "append" p2) [e] [] pos) none pos2.line X.env = pure false := by rfl) :
    DS X a W (.Expr (.Call (.Attribute (.Name x p1) "append" p2) [e] [] pos) pos2) (mAppM i m) := by
  obtain ⟨t, p, s, _⟩ := h
  refine ⟨_, ps_expr (hp _ (pa_cons (pe_lk p) pa_nil hst)) hs, ?_⟩
  intro B G0 G H σ δ D S q
  have q' : OOk (cn X a) W B G0 D (mAppM i m δ) := q
  unfold mAppM at q'
  split at q'
  · rename_i hL
    unfold isL at hL
    split at hL
    · rename_i ds0 ei
      obtain ⟨v, fp, ev, ⟨b, eb, ef, xs, hx, rx⟩, _⟩ := S.sl ei
      subst eb
      refine ⟨_, ev, .inl ⟨rfl, xs, .inl (.inl hx)⟩, ?_⟩
      refine s B G0 G H σ δ S _ ?_
      cases r : m δ with
      | stuck => rw [r] at q'; exact q'.elim
      | exc x δ' => rw [r] at q'; exact fun cls d G' H' T ex => q' cls d σ G' H' T ex
      | ok sl δ' =>
        rw [r] at q'
        intro y G' H' R g'
        cases el : sl.vl with
        | stuck => simp only [el] at q'; exact q'.elim
        | exc x => exact (vl_noexc el).elim
        | ok d =>
          simp only [el] at q'
          split at q'
          · rename_i ds ei2
            split at q'
            · rename_i hz
              refine R.vl el fun G2 H2 S2 g2 rp => ?_
              obtain ⟨v2, fp2, ev2, ⟨b2, eb2, ef2, xs2, hx2, rx2⟩, _⟩ := S2.sl ei2
              rw [ev] at ev2; cases ev2; cases eb2
              refine ⟨b, xs2, y, rfl, rfl, hx2, by rw [rx2.length]; exact hz, ?_⟩
              exact q' σ G2 _ (S2.write (d' := .list (ds ++ [d])) ei2 ev ⟨xs2 ++ [y], upd_same, rx2.snoc rp⟩)
            · exact q'.elim
          · exact q'.elim
    · cases hL
  · exact q'.elim
end
end DL
/-! DLo: comprehensions with effects -/
namespace DL
open PySem L2
section
variable {C : Cn} {B G0 G H : Hp} {σ : St} {δ δ' : DEnv}
/-- the same frame over another base -/
theorem EnR.reB {B1 B2 G1 H1 H2 : Hp} {fps : Nat → List Addr} (S0 : StR C B G0 G H σ δ) (k : Keep δ δ') (g : Same G G1) (E : EnR C B1 G1 H1 σ δ' fps) (b2 : Same B H2) (hB : ∀ b, B b ≠ none → B2 b ≠ none) (h2 : ∀ i a, a ∈ fps i → H2 a = H1 a ∧ B2 a = none) : EnR C B2 G1 H2 σ δ' fps := by
  have bb : ∀ b, B b ≠ none → H2 b = H b := fun b hb => by rw [same_at b2 hb, same_at S0.bh hb]
  refine ⟨fun j s e => ?_, E.no, E.nd, E.dj, fun i a ha => ⟨(h2 i a ha).2, (E.off i a ha).2⟩⟩
  obtain ⟨v, q, z⟩ := E.sl j s e
  refine ⟨v, q, ?_⟩
  cases s with
  | val d => exact z
  | own d =>
    obtain ⟨b, eb, ef, t⟩ := z
    exact ⟨b, eb, ef, t.mono' (Same.refl _) (h2 j b (by rw [ef]; exact List.mem_cons_self)).1⟩
  | tr t => exact Own.keep (Same.refl _) z fun b hb => (h2 j b hb).1
  | bor d =>
    obtain ⟨v0, fp0, q0, ⟨b, eb, ef, nb, t⟩, _⟩ := S0.sl (k.bor e rfl)
    rw [q] at q0; cases q0
    obtain ⟨_, _, ef1, _, _⟩ := z
    exact ⟨b, eb, ef1, hB b nb, t.mono' g (bb b nb)⟩
  | bt t =>
    obtain ⟨v0, fp0, q0, ⟨_, fq, o, hq⟩, _⟩ := S0.sl (k.bor e rfl)
    rw [q] at q0; cases q0
    exact ⟨z.1, fq, o.keep g fun b hb => bb b (hq b hb), fun a ha => hB a (hq a ha)⟩
  | exn x => exact z
/-- the cell set aside gets other contents -/
theorem StR.asideSet {D : Addr} {o o' : HO} {G1 H1 : Hp} (S0 : StR C B G0 G H σ δ) (k : Keep δ δ') (g : Same G G1) (nB : B D = none) (S : StR C (upd B D o) G0 G1 H1 σ δ') (nG : G1 D = none) : StR C (upd B D o') G0 G1 (upd H1 D o') σ δ' := by
  obtain ⟨fps, E⟩ := S.en
  have nD : ∀ i a, a ∈ fps i → a ≠ D := fun i a ha w => by
    have := (E.off i a ha).1
    rw [w, upd_same] at this
    cases this
  refine ⟨fun b u q => ?_, S.g0, fun b u q => ?_, fun x e z => ?_, S.len, S.rt, fps, E.reB S0 k g (fun b u q => ?_) (fun b hb => ?_) fun i a ha => ⟨upd_ne (nD i a ha), ?_⟩⟩
  · by_cases hb : b = D
    · subst hb; rw [upd_same] at q ⊢; exact q
    · rw [upd_ne hb] at q ⊢; exact S.bh b u (by rw [upd_ne hb]; exact q)
  · rw [upd_ne (ne_of_none q nG)]; exact S.gh _ _ q
  · by_cases hx : x = D
    · rw [hx]; exact nG
    · exact S.fr x e (by rw [upd_ne hx] at z ⊢; exact z)
  · have hb : b ≠ D := ne_of_none q nB
    rw [upd_ne hb]
    exact S.bh b u (by rw [upd_ne hb]; exact q)
  · by_cases hD : b = D
    · rw [hD, upd_same]; exact fun z => nomatch z
    · rw [upd_ne hD]; exact hb
  · have := (E.off i a ha).1
    rw [upd_ne (nD i a ha)] at this ⊢
    exact this
def clearAt (vs : List Nat) (δ : DEnv) : Prop := ∀ v ∈ vs, ∀ s, δ[v]? ≠ some (some s)
theorem EnR.unwipe {vs : List Nat} {fps : Nat → List Addr} (E : EnR C B G H (L2.wipe σ vs) δ fps) (hc : clearAt vs δ) : EnR C B G H σ δ fps := by
  refine ⟨fun j s e => ?_, E.no, E.nd, E.dj, E.off⟩
  obtain ⟨v, q, z⟩ := E.sl j s e
  exact ⟨v, by rw [← wipe_off (σ := σ) (vs := vs) fun hm => hc j hm s e]; exact q, z⟩
def allOff (vs : List Nat) (δ : DEnv) : Bool := vs.all fun v => match δ[v]? with
  | some none => true
  | _ => false
theorem allOff_at {vs : List Nat} {δ : DEnv} (h : allOff vs δ = true) {v : Nat} (hv : v ∈ vs) : δ[v]? = some none := by
  have := List.all_eq_true.mp h v hv
  split at this
  · assumption
  · cases this
theorem allOff_of {vs : List Nat} {δ : DEnv} (h : ∀ v ∈ vs, δ[v]? = some none) : allOff vs δ = true := by
  unfold allOff
  rw [List.all_eq_true]
  intro v hv
  rw [h v hv]
theorem wipeD_get {δ : DEnv} {j : Nat} : ∀ {vs : List Nat}, j ∉ vs → (wipeD δ vs)[j]? = δ[j]?
  | [], _ => rfl
  | v :: vs, h => by
    rw [List.mem_cons, not_or] at h
    show ((wipeD δ vs).set v none)[j]? = _
    rw [List.getElem?_set_ne (Ne.symm h.1)]
    exact wipeD_get h.2
theorem wipeD_len {δ : DEnv} : ∀ {vs : List Nat}, (wipeD δ vs).length = δ.length
  | [] => rfl
  | v :: vs => by
    show ((wipeD δ vs).set v none).length = _
    rw [List.length_set]
    exact wipeD_len
theorem wipeD_in {δ : DEnv} {j : Nat} : ∀ {vs : List Nat}, j ∈ vs → j < δ.length → (wipeD δ vs)[j]? = some none
  | v :: vs, h, hl => by
    show ((wipeD δ vs).set v none)[j]? = _
    by_cases hj : v = j
    · subst hj
      exact List.getElem?_set_self (by rw [wipeD_len]; exact hl)
    · rw [List.getElem?_set_ne hj]
      exact wipeD_in ((List.mem_cons.mp h).resolve_left (Ne.symm hj)) hl
theorem wipeD_id {δ : DEnv} {vs : List Nat} (h : allOff vs δ = true) : wipeD δ vs = δ := by
  refine List.ext_getElem? fun j => ?_
  by_cases hj : j ∈ vs
  · rw [wipeD_in hj (List.getElem?_eq_some_iff.mp (allOff_at h hj)).1, allOff_at h hj]
  · exact wipeD_get hj
theorem clear_of {δ : DEnv} {vs : List Nat} (h : allOff vs δ = true) : clearAt vs δ := fun v hv s e => by rw [allOff_at h hv] at e; cases e
def MGOff (g : MG) (us : List Nat) : Prop := ∀ d δ δ', g d δ = some δ' → δ'.length = δ.length ∧ ∀ j : Nat, j ∉ us → δ'[j]? = δ[j]?
theorem Keep.lt {δ δ' : DEnv} (h : Keep δ δ') {i : Nat} (hi : i < δ.length) : i < δ'.length := by
  rcases Nat.lt_or_ge i δ'.length with q | q
  · exact q
  · rcases h i with h | ⟨_, h⟩
    · rw [List.getElem?_eq_none q] at h
      have := List.getElem?_eq_none_iff.mp h.symm
      omega
    · rw [List.getElem?_eq_none q] at h; cases h
/-- what a turn leaves -/
theorem keep_turn {δ δ1 δ2 : DEnv} {vs us : List Nat} (ho : ∀ j : Nat, j ∉ us → δ1[j]? = δ[j]?) (hu : ∀ j ∈ us, j ∈ vs) (hv : allOff vs δ = true) (hlen : δ1.length = δ.length) (c : Keep δ1 δ2) : Keep δ (wipeD δ2 vs) ∧ allOff vs (wipeD δ2 vs) = true := by
  have lin : ∀ v ∈ vs, v < δ2.length := fun v hv' => c.lt (by rw [hlen]; exact (List.getElem?_eq_some_iff.mp (allOff_at hv hv')).1)
  refine ⟨fun j => ?_, allOff_of fun v hv' => wipeD_in hv' (lin v hv')⟩
  by_cases hj : j ∈ vs
  · exact .inl (by rw [allOff_at hv hj, wipeD_in hj (lin j hj)])
  · rw [wipeD_get hj, ← ho j fun z => hj (hu j z)]
    exact c j
def compM (g : MG) (m : MM) (vs : List Nat) : List PyData → DEnv → MLRes
  | [], δ => .ok [] δ
  | d :: ds, δ => match g d δ with
    | none => .stuck
    | some δ1 => match m δ1 with
      | .ok s δ2 => match s.vl with
        | .ok y => match compM g m vs ds (wipeD δ2 vs) with
          | .ok ys δ3 => .ok (y :: ys) δ3
          | _ => .stuck
        | _ => .stuck
      | _ => .stuck
def emComp (vs : List Nat) (g : MG) (it : ML) (m : MM) : MM := fun δ => match it δ with
  | .ok ds => if fits ds = true ∧ allOff vs δ = true then (match compM g m vs ds δ with | .ok ys δ' => .ok (.own (.list ys)) δ' | _ => .stuck) else .stuck
  | .exc x => .exc x δ
  | .stuck => .stuck
/-- one turn of it -/
theorem compM_cons {g : MG} {m : MM} {vs : List Nat} {d : PyData} {ds : List PyData} {δ δ' : DEnv} {ys : List PyData} (e : compM g m vs (d :: ds) δ = .ok ys δ') : ∃ δ1 s δ2 y zs, g d δ = some δ1 ∧ m δ1 = .ok s δ2 ∧ s.vl = .ok y ∧ compM g m vs ds (wipeD δ2 vs) = .ok zs δ' ∧ ys = y :: zs := by
  unfold compM at e
  cases eg : g d δ with
  | none => simp only [eg] at e; cases e
  | some δ1 =>
    simp only [eg] at e
    cases em : m δ1 with
    | stuck => simp only [em] at e; cases e
    | exc x δ2 => simp only [em] at e; cases e
    | ok s δ2 =>
      simp only [em] at e
      cases ev : s.vl with
      | stuck => simp only [ev] at e; cases e
      | exc x => simp only [ev] at e; cases e
      | ok y =>
        simp only [ev] at e
        cases ec : compM g m vs ds (wipeD δ2 vs) with
        | stuck => simp only [ec] at e; cases e
        | exc x δ3 => simp only [ec] at e; cases e
        | ok zs δ3 => simp only [ec] at e; cases e; exact ⟨δ1, s, δ2, y, zs, rfl, em, ev, ec, rfl⟩
theorem compM_keep {g : MG} {m : MM} {vs us : List Nat} (ho : MGOff g us) (hs : ∀ j ∈ us, j ∈ vs) (hm : Kp m) : ∀ {ds : List PyData} {δ δ' : DEnv} {ys : List PyData}, allOff vs δ = true → compM g m vs ds δ = .ok ys δ' → Keep δ δ' ∧ allOff vs δ' = true
  | [], δ, δ', ys, hv, e => by cases e; exact ⟨Keep.refl δ, hv⟩
  | d :: ds, δ, δ', ys, hv, e => by
    obtain ⟨δ1, s, δ2, y, zs, eg, em, ev, ec, _⟩ := compM_cons e
    have h1 := hm δ1
    rw [em] at h1
    obtain ⟨c1, a1⟩ := keep_turn (ho d δ δ1 eg).2 hs hv (ho d δ δ1 eg).1 h1
    obtain ⟨c2, a2⟩ := compM_keep ho hs hm a1 ec
    exact ⟨c1.trans c2, a2⟩
theorem kp_comp {g : MG} {it : ML} {m : MM} {vs us : List Nat} (ho : MGOff g us) (hs : ∀ j ∈ us, j ∈ vs) (hm : Kp m) : Kp (emComp vs g it m) := fun δ => by
  unfold emComp
  cases ri : it δ with
  | stuck => exact True.intro
  | exc x => exact Keep.refl δ
  | ok ds =>
    simp only
    split
    · rename_i hz
      cases rc : compM g m vs ds δ with
      | stuck => exact True.intro
      | exc x δ' => exact True.intro
      | ok ys δ' => exact (compM_keep ho hs hm hz.2 rc).1
    · exact True.intro
theorem snd_compM {C : Cn} {W : WX} {wi : TI} {g : TG} {tt : TT} {te : TE} {mg : MG} {it : ML} {m : MM} {vs us : List Nat} (hf : C.frees vs) (hi : SndI C W wi it) (hg : SndG C g mg us) (ho : MGOff mg us) (hs : ∀ j ∈ us, j ∈ vs) (ht : Snd C W0 relB tt mYes) (he : SndM C W0 te m) (hk : Kp m) :
    SndM C W (tLc wi g tt (tLk te) vs) (emComp vs mg it m) := by
  intro B G0 G H σ δ S Q hq
  refine hi B G0 G H σ δ S _ ?_
  unfold emComp at hq
  cases ri : it δ with
  | stuck => rw [ri] at hq; exact hq.elim
  | exc x => rw [ri] at hq; exact fun cls d G' H' st r => hq cls d G' H' (S.step st) r
  | ok ds =>
    rw [ri] at hq
    by_cases hz : fits ds = true ∧ allOff vs δ = true
    · simp only [if_pos hz] at hq
      intro J G1 H1 st1 gv D hD
      cases rc : compM mg m vs ds δ with
      | stuck => rw [rc] at hq; exact hq.elim
      | exc x δ' => rw [rc] at hq; exact hq.elim
      | ok ys δ' =>
        rw [rc] at hq
        have S1 := S.step st1
        have bD : B D = none := S1.bh.free hD
        have gD : G1 D = none := S1.gh.free hD
        have g0D : G0 D = none := S1.g0.free gD
        have hz' : ds.length ≤ sizeLine := of_decide_eq_true hz.1
        have Sw : StR C B G0 G1 H1 (L2.wipe σ vs) δ := by
          have := S1.wipe vs hf
          rw [wipeD_id hz.2] at this
          exact this
        have sB : ∀ o, Same B (upd B D o) := fun o b u q => by rw [upd_ne (ne_of_none q bD)]; exact q
        refine ⟨fun i k H' => k + i = ds.length ∧ ∃ G' δi acc accd rest, StR C (upd B D (.lst acc)) G0 G' H' (L2.wipe σ vs) δi ∧ Same G1 G' ∧ RepL C.K G' acc accd ∧ acc.length ≤ i ∧ allOff vs δi = true ∧ Keep δ δi ∧ compM mg m vs (ds.drop i) δi = .ok rest δ' ∧ accd ++ rest = ys,
          ⟨ds.length, by omega, G1, δ, [], [], ys, Sw.aside (o := .lst []) hD, Same.refl _, .nil, Nat.le_refl _, hz.2, Keep.refl δ, by simpa using rc, rfl⟩, ?_⟩
        rintro i k H' ⟨hkk, G', δi, acc, accd, rest, Si, g1, ra, hl, hv, hc, hr, hy⟩
        have nD : G' D = none := Si.fr D g0D (by rw [upd_same]; exact fun z => nomatch z)
        obtain ⟨go, stop⟩ := gv i G' H' g1 Si.gh ((sB _).trans Si.bh)
        by_cases hi : i < ds.length
        · have ed : ds[i]? = some ds[i] := List.getElem?_eq_getElem hi
          obtain ⟨go, yl⟩ := go _ ed
          rw [List.drop_eq_getElem_cons hi] at hr
          obtain ⟨δ1, s, δ2, y, zs, eg, em, ev, ec, er⟩ := compM_cons hr
          subst er
          have k1 := hk δ1
          rw [em] at k1
          obtain ⟨c1, a1⟩ := keep_turn (ho _ _ _ eg).2 hs hv (ho _ _ _ eg).1 k1
          refine .inr ⟨go, fun H' => ∃ G' δi acc accd rest, StR C (upd B D (.lst acc)) G0 G' H' (L2.wipe σ vs) δi ∧ Same G1 G' ∧ RepL C.K G' acc accd ∧ acc.length ≤ i + 1 ∧ allOff vs δi = true ∧ Keep δ δi ∧ compM mg m vs (ds.drop (i + 1)) δi = .ok rest δ' ∧ accd ++ rest = ys,
            fun H' n => ⟨k - 1, by omega, by omega, n⟩, fun x H2 yy => ?_⟩
          obtain ⟨G2, st3, r⟩ := yl x H2 yy
          refine hg _ G0 G2 H2 _ _ x ds[i] δ1 _ (Si.step st3) r eg fun σ3 S3 o3 => ⟨wipe_eq o3 hs, ?_⟩
          refine ht _ G0 G2 H2 σ3 δ1 S3 _ ?_
          intro b G3 H3 st4 eb
          cases eb
          show tLk te σ3 H3 _
          refine he _ G0 G3 H3 σ3 δ1 (S3.step st4) _ ?_
          rw [em]
          intro v G4 H4 R4 g4
          refine R4.vl ev fun G5 H5 S5 g5 rv => ?_
          have e4 : H5 D = some (.lst acc) := S5.bh D _ upd_same
          have n4 : G5 D = none := S5.fr D g0D (by rw [upd_same]; exact fun z => nomatch z)
          have gg : Same G' G5 := ((st3.g.trans st4.g).trans g4).trans g5
          refine ⟨acc, e4, by omega, G5, wipeD δ2 vs, acc ++ [v], accd ++ [y], zs, ?_, g1.trans gg, (RepL.mono gg ra).snoc rv, by simp; omega, a1, hc.trans c1, ec, by rw [← hy, List.append_assoc]; rfl⟩
          have S6 := S5.wipe vs hf
          rw [wipe_eq o3 hs] at S6
          exact StR.asideSet Sw (hc.trans c1) (g1.trans gg) bD S6 n4
        · have e : i = ds.length := by omega
          refine .inl ⟨stop (by omega) (by omega), ?_⟩
          rw [List.drop_of_length_le (by omega)] at hr
          cases hr
          rw [List.append_nil] at hy
          subst hy
          obtain ⟨fps, E⟩ := Si.en
          have hne : ∀ i a, a ∈ fps i → a ≠ D := fun i a ha w => by
            have := (E.off i a ha).1
            rw [w, upd_same] at this
            cases this
          have E2 := E.reB (B2 := B) (H2 := H') Sw hc g1 ((sB _).trans Si.bh) (fun b hb => hb) fun i a ha => ⟨rfl, (sB _).free (E.off i a ha).1⟩
          have E3 := E2.unwipe (clear_of hv)
          refine hq (.ref D) G' H' ⟨⟨(sB _).trans Si.bh, Si.g0, Si.gh, fun a e n => Si.fr a e (Same.ne (sB _) n), by rw [← Si.len, wipe_length], S.rt, fps, E3⟩, fps, [D], E3, ⟨D, rfl, rfl, acc, Si.bh D _ upd_same, ra⟩, by simp, fun a ha => ?_⟩ (st1.g.trans g1)
          rw [List.mem_singleton] at ha
          subst ha
          exact ⟨⟨bD, nD⟩, fun i w => hne i _ w rfl⟩
    · simp only [if_neg hz] at hq
      exact hq.elim
end
section
variable {X : Cx} {a : Ax} {W : WX} {e : Expr} {pos : Pos}
/-- a comprehension whose things change what is lent -/
theorem em_comp {elt tg iter : Expr} {ifs : List Expr} {scope : Scope} {own : List (Str × Nat)} {g : MG} {it : ML} {m : MM} {us : List Nat} (hfr : a.frees (own.map (·.2))) (hc : X.calm = true) (hN : X.N.Nodup) (hi : DI X a W tg iter it) (ok : BlkOk X.N X.env.scope scope own) (hu : ∀ j ∈ us, j ∈ own.map (·.2)) (ho : MGOff g us)
    (hg : ∀ (s : Shared) (H : Hp) (C : Addr) (cl : List (Str × Addr)) (fp : List Addr), DG (X.blk s H scope (compEnvC scope cl C X.env) fp) a tg g us) (ht : ∀ (s : Shared) (H : Hp) (C : Addr) (cl : List (Str × Addr)) (fp : List Addr), ∃ t, PTs (X.blk s H scope (compEnvC scope cl C X.env) fp) ifs t ∧ Snd (cn X a) W0 relB t mYes)
    (he : ∀ (s : Shared) (H : Hp) (C : Addr) (cl : List (Str × Addr)) (fp : List Addr), EDE (X.blk s H scope (compEnvC scope cl C X.env) fp) a W0 elt m) (hs : ∀ x, foldedSetIterable iter X.env x = pure x := by intro _; rfl) :
    EDE X a W (.ListComp elt [⟨tg, iter, ifs, 0⟩] scope pos) (emComp (own.map (·.2)) g it m) := by
  obtain ⟨wi, pi, si⟩ := hi
  have hm : Kp m := by
    obtain ⟨t, p, s, c⟩ := he ({} : Shared) (fun _ => none) 0 [] []
    exact c
  let tg' : TG := fun v σ H Q => ∀ s H₀ C cl fp, Classical.choose (hg s H₀ C cl fp) v σ H Q
  let tt' : TT := fun σ H Q => ∀ s H₀ C cl fp, Classical.choose (ht s H₀ C cl fp) σ H Q
  let te' : TE := fun σ H Q => ∀ s H₀ C cl fp, Classical.choose (he s H₀ C cl fp) σ H Q
  refine ⟨_, pe_lc (g := tg') (tt := tt') (te := tLk te') hc hN pi ok (fun s H C cl fp => ⟨fun pins s1 σ H1 v u Q I r q => (Classical.choose_spec (hg s H C cl fp)).1.run pins s1 σ H1 v u Q I r (q s H C cl fp)⟩)
    (fun s H C cl fp => ⟨fun pins s1 σ H1 Q I q => (Classical.choose_spec (ht s H C cl fp)).1.run pins s1 σ H1 Q I (q s H C cl fp)⟩) (fun s H C cl fp => pe_lk ⟨fun pins s1 σ H1 Q I q => (Classical.choose_spec (he s H C cl fp)).1.run pins s1 σ H1 Q I (q s H C cl fp)⟩) hs, ?_, kp_comp ho hu hm⟩
  exact snd_compM (C := cn X a) (us := us) hfr si (fun B G0 G H σ δ v d δ' Q S r e k s H₀ C cl fp => (Classical.choose_spec (hg s H₀ C cl fp)).2 B G0 G H σ δ v d δ' Q S r e k) ho hu
    (fun B G0 G H σ δ S Q q s H₀ C cl fp => (Classical.choose_spec (ht s H₀ C cl fp)).2 B G0 G H σ δ S Q q) (fun B G0 G H σ δ S Q q s H₀ C cl fp => (Classical.choose_spec (he s H₀ C cl fp)).2.1 B G0 G H σ δ S Q q) hm
theorem off_name {i : Nat} : MGOff (mgN i) [i] := fun d δ δ' e => by
  cases e
  refine ⟨by simp, fun j hj => ?_⟩
  rw [List.mem_singleton] at hj
  rw [List.getElem?_set_ne (Ne.symm hj)]
end
end DL
/-! DLr: more to walk: reversed(range(n)) -/
namespace DL
open PySem L2
/-- n - 1, .., 0 -/
def down (n : Nat) : List PyData := (List.range n).map fun (i : Nat) => PyData.int ((n : Int) - 1 - (i : Int))
theorem gives_down {C : Cn} {B G : Hp} {n : Nat} : Gives C B (Itc ((n : Int) - 1) (-1) n) G (down n) := by
  intro i G1 H1 g s _
  have hl : (down n).length = n := by simp [down]
  refine ⟨fun d e => ?_, fun h1 _ => by rw [hl] at h1; exact h1⟩
  have hi : i < n := by
    have := (List.getElem?_eq_some_iff.mp e).1
    rw [hl] at this; exact this
  refine ⟨hi, fun x H' y => ?_⟩
  obtain ⟨e1, e2⟩ := y
  subst e1 e2
  have ed : d = .int ((n : Int) - 1 + (i : Int) * (-1)) := by
    have h3 : (down n)[i]? = some (.int ((n : Int) - 1 - (i : Int))) := by simp [down, hi]
    rw [h3] at e; cases e
    congr 1
    omega
  subst ed
  exact ⟨G1, Stp.refl s, .int _⟩
noncomputable def dwn : PyData → Res (List PyData)
  | .int n => if small62 n = true then .ok (down n.toNat) else .stuck
  | _ => .stuck
noncomputable def mDwn (m : MD) : ML := fun δ => (m δ).bind dwn
section
variable {X : Cx} {a : Ax} {W : WX} {e tg : Expr} {pos pos2 p p2 : Pos}
theorem di_down {m : MD} (hg : Gl X "reversed") (hm : X.mg "reversed" = none) (hg2 : Gl X "range") (hm2 : X.mg "range" = none) (h : DV X a W e m) (na : starEach [e] X.env = (false, eval e X.env) :: starEach [] X.env := by rfl)
    (hs : starEach [.Call (.Name "range" p2) [e] [] pos2] X.env = (false, eval (.Call (.Name "range" p2) [e] [] pos2) X.env) :: starEach [] X.env := by rfl) : DI X a W tg (.Call (.Name "reversed" p) [.Call (.Name "range" p2) [e] [] pos2] [] pos) (mDwn m) := by
  obtain ⟨t, pt, s⟩ := h
  refine ⟨_, pi_revR hg hm (prg_1 hg2 hm2 pt na) hs, fun B G0 G H σ δ S R q => ?_⟩
  refine s B G0 G H σ δ S _ ?_
  have q' : ROk (cn X a) W σ G H (fun G' _ ds J => Gives (cn X a) B J G' ds) ((m δ).bind dwn) R := q
  generalize m δ = r at q'
  cases r with
  | stuck => exact q'.elim
  | exc x => exact q'
  | ok d =>
    intro v G' H' st rp
    cases d with
    | int n =>
      have q2 : ROk (cn X a) W σ G H (fun G' _ ds J => Gives (cn X a) B J G' ds) (if small62 n = true then .ok (down n.toNat) else .stuck) R := q'
      by_cases hz : small62 n = true
      · rw [if_pos hz] at q2
        have hb : -(2 ^ 62) ≤ n ∧ n < 2 ^ 62 := small62_iff.1 hz
        cases rp
        refine ⟨n, rfl, by decide, by decide, hb.1, hb.2, ?_⟩
        have e1 : (0 : Int) + (((n - 0).toNat : Nat) : Int) - 1 = ((n.toNat : Nat) : Int) - 1 := by rw [Int.sub_zero, Int.zero_add]
        have e2 : (n - 0).toNat = n.toNat := by rw [Int.sub_zero]
        rw [e1, e2]
        exact q2 _ G' H' st gives_down
      · rw [if_neg hz] at q2; exact q2.elim
    | none => exact q'.elim
    | bool _ => exact q'.elim
    | str _ => exact q'.elim
    | list _ => exact q'.elim
    | tuple _ => exact q'.elim
    | dict _ => exact q'.elim
end
@[simp] theorem mDwn_ap {m : MD} {δ : DEnv} : mDwn m δ = (m δ).bind dwn := (rfl)
theorem dwn_int {n : Int} (h : small62 n = true) : dwn (.int n) = .ok (down n.toNat) := if_pos h
theorem dwn_of {n : Nat} (h : n ≤ 1000000) : dwn (.int (n : Int)) = .ok (down n) := by
  rw [dwn_int (small_of (by omega) (by omega))]
  simp
/-! all, any, sum of a list -/
def boolsOf : List PyData → Option (List Bool)
  | [] => some []
  | .bool x :: r => (boolsOf r).map (x :: ·)
  | _ => none
theorem boolsOf_map : ∀ ys : List Bool, boolsOf (ys.map PyData.bool) = some ys
  | [] => rfl
  | y :: ys => by
    show (boolsOf (ys.map PyData.bool)).map (y :: ·) = _
    rw [boolsOf_map ys]
    rfl
theorem boolsOf_eq : ∀ {ds : List PyData} {ys : List Bool}, boolsOf ds = some ys → ds = ys.map PyData.bool
  | [], ys, e => by cases e; rfl
  | .bool x :: r, ys, e => by
    have e' : (boolsOf r).map (x :: ·) = some ys := e
    cases h : boolsOf r with
    | none => rw [h] at e'; cases e'
    | some zs => rw [h] at e'; cases e'; rw [boolsOf_eq h]; rfl
  | .none :: r, ys, e => by cases e
  | .str _ :: r, ys, e => by cases e
  | .int _ :: r, ys, e => by cases e
  | .list _ :: r, ys, e => by cases e
  | .tuple _ :: r, ys, e => by cases e
  | .dict _ :: r, ys, e => by cases e
theorem repL_bools {K : Kw} {G : Hp} : ∀ {ys : List Bool} {xs : List V}, RepL K G xs (ys.map PyData.bool) → xs = ys.map V.bl
  | [], _, .nil => rfl
  | y :: ys, _, .cons r rs => by
    cases r
    rw [repL_bools (ys := ys) rs]
    rfl
def intsOf : List PyData → Option (List Int)
  | [] => some []
  | .int x :: r => (intsOf r).map (x :: ·)
  | _ => none
theorem intsOf_map : ∀ ys : List Int, intsOf (ys.map PyData.int) = some ys
  | [] => rfl
  | y :: ys => by
    show (intsOf (ys.map PyData.int)).map (y :: ·) = _
    rw [intsOf_map ys]
    rfl
theorem intsOf_eq : ∀ {ds : List PyData} {ys : List Int}, intsOf ds = some ys → ds = ys.map PyData.int
  | [], ys, e => by cases e; rfl
  | .int x :: r, ys, e => by
    have e' : (intsOf r).map (x :: ·) = some ys := e
    cases h : intsOf r with
    | none => rw [h] at e'; cases e'
    | some zs => rw [h] at e'; cases e'; rw [intsOf_eq h]; rfl
  | .none :: r, ys, e => by cases e
  | .str _ :: r, ys, e => by cases e
  | .bool _ :: r, ys, e => by cases e
  | .list _ :: r, ys, e => by cases e
  | .tuple _ :: r, ys, e => by cases e
  | .dict _ :: r, ys, e => by cases e
theorem repL_ints {K : Kw} {G : Hp} : ∀ {ys : List Int} {xs : List V}, RepL K G xs (ys.map PyData.int) → xs = ys.map V.int
  | [], _, .nil => rfl
  | y :: ys, _, .cons r rs => by
    cases r
    rw [repL_ints (ys := ys) rs]
    rfl
def allF : List PyData → Res Slot
  | [.list ds] => match boolsOf ds with
    | some bs => okB (bs.all id)
    | none => .stuck
  | _ => .stuck
def anyF : List PyData → Res Slot
  | [.list ds] => match boolsOf ds with
    | some bs => okB (bs.any id)
    | none => .stuck
  | _ => .stuck
def sumF : List PyData → Res Slot
  | [.list ds] => match intsOf ds with
    | some ns => okI ns.sum
    | none => .stuck
  | _ => .stuck
theorem allF_ok {K : Kw} : CallS K (fun vs H Q => ∃ (a : Addr) (bs : List Bool), vs = [V.ref a] ∧ SqL K H a (bs.map V.bl) ∧ Q (.bl (bs.all id)) H) allF := by
  refine ⟨fun G H vs ds s Q g rd ef q => ?_, fun ds x => ?_⟩
  · unfold allF at ef
    split at ef
    · split at ef
      · rename_i bs hb
        cases ef
        obtain ⟨v, ev, r⟩ := rdl1 rd
        obtain ⟨b, xs, e1, q1, r1⟩ := rdr_list g r
        subst e1
        rw [boolsOf_eq hb] at r1
        rw [repL_bools r1] at q1
        exact ⟨b, bs, ev, q1, q _ G H (Stp.refl g) (Rep.bl _)⟩
      · cases ef
    · cases ef
  · unfold allF
    split <;> (try split) <;> (intro h; cases h)
theorem anyF_ok {K : Kw} : CallS K (fun vs H Q => ∃ (a : Addr) (bs : List Bool), vs = [V.ref a] ∧ SqL K H a (bs.map V.bl) ∧ Q (.bl (bs.any id)) H) anyF := by
  refine ⟨fun G H vs ds s Q g rd ef q => ?_, fun ds x => ?_⟩
  · unfold anyF at ef
    split at ef
    · split at ef
      · rename_i bs hb
        cases ef
        obtain ⟨v, ev, r⟩ := rdl1 rd
        obtain ⟨b, xs, e1, q1, r1⟩ := rdr_list g r
        subst e1
        rw [boolsOf_eq hb] at r1
        rw [repL_bools r1] at q1
        exact ⟨b, bs, ev, q1, q _ G H (Stp.refl g) (Rep.bl _)⟩
      · cases ef
    · cases ef
  · unfold anyF
    split <;> (try split) <;> (intro h; cases h)
theorem sumF_ok {K : Kw} : CallS K (fun vs H Q => ∃ (a : Addr) (ns : List Int), vs = [V.ref a] ∧ SqL K H a (ns.map V.int) ∧ Q (.int ns.sum) H) sumF := by
  refine ⟨fun G H vs ds s Q g rd ef q => ?_, fun ds x => ?_⟩
  · unfold sumF at ef
    split at ef
    · split at ef
      · rename_i ns hb
        cases ef
        obtain ⟨v, ev, r⟩ := rdl1 rd
        obtain ⟨b, xs, e1, q1, r1⟩ := rdr_list g r
        subst e1
        rw [intsOf_eq hb] at r1
        rw [repL_ints r1] at q1
        exact ⟨b, ns, ev, q1, q _ G H (Stp.refl g) (Rep.int _)⟩
      · cases ef
    · cases ef
  · unfold sumF
    split <;> (try split) <;> (intro h; cases h)
theorem allF_map (ys : List Bool) : allF [.list (ys.map PyData.bool)] = .ok (.val (.bool (ys.all id))) := by
  show (match boolsOf (ys.map PyData.bool) with
    | some bs => okB (bs.all id)
    | none => .stuck) = _
  rw [boolsOf_map]
  rfl
theorem anyF_map (ys : List Bool) : anyF [.list (ys.map PyData.bool)] = .ok (.val (.bool (ys.any id))) := by
  show (match boolsOf (ys.map PyData.bool) with
    | some bs => okB (bs.any id)
    | none => .stuck) = _
  rw [boolsOf_map]
  rfl
theorem sumF_map (ys : List Int) : sumF [.list (ys.map PyData.int)] = .ok (.val (.int ys.sum)) := by
  show (match intsOf (ys.map PyData.int) with
    | some ns => okI ns.sum
    | none => .stuck) = _
  rw [intsOf_map]
  rfl
/-! for simp -/
@[simp] theorem emP_ap {m : ME} {δ : DEnv} : emP m δ = (match m δ with
  | .ok (.val d) => .ok (.val d) δ
  | .ok (.own d) => .ok (.own d) δ
  | .ok (.tr t) => .ok (.tr t) δ
  | .exc x => .exc x δ
  | _ => .stuck) := (rfl)
@[simp] theorem emNil_ap {δ : DEnv} : emNil δ = .ok [] δ := (rfl)
@[simp] theorem emD_ap {m : MM} {δ : DEnv} {k : PyData → DEnv → MLRes} : emD m δ k = (match m δ with
  | .ok s δ' => (match s.vl with
    | .ok d => k d δ'
    | _ => .stuck)
  | .exc x δ' => .exc x δ'
  | .stuck => .stuck) := (rfl)
@[simp] theorem emCons_ap {m : MM} {n : MML} {δ : DEnv} : emCons m n δ = emD m δ fun d δ1 => (match n δ1 with
  | .ok ds δ2 => .ok (d :: ds) δ2
  | r => r) := (rfl)
@[simp] theorem emTup_ap {m : MML} {δ : DEnv} : emTup m δ = (match m δ with
  | .ok ds δ' => if fits ds = true then .ok (.val (.tuple ds)) δ' else .stuck
  | .exc x δ' => .exc x δ'
  | .stuck => .stuck) := (rfl)
@[simp] theorem emLst_ap {m : MML} {δ : DEnv} : emLst m δ = (match m δ with
  | .ok ds δ' => if fits ds = true then .ok (.own (.list ds)) δ' else .stuck
  | .exc x δ' => .exc x δ'
  | .stuck => .stuck) := (rfl)
@[simp] theorem emBi_ap {f : List PyData → Res Slot} {m : MML} {δ : DEnv} : emBi f m δ = (match m δ with
  | .ok ds δ' => emP (fun _ => f ds) δ'
  | .exc x δ' => .exc x δ'
  | .stuck => .stuck) := (rfl)
@[simp] theorem emB_ap {f : PyData → PyData → Res Slot} {m n : MM} {δ : DEnv} : emB f m n δ = (match emCons m (emCons n emNil) δ with
  | .ok [d, e] δ' => emP (fun _ => f d e) δ'
  | .exc x δ' => .exc x δ'
  | _ => .stuck) := (rfl)
@[simp] theorem emNot_ap {m : MM} {δ : DEnv} : emNot m δ = (match m δ with
  | .ok s δ' => (match s.bl with
    | .ok b => .ok (.val (.bool (!b))) δ'
    | _ => .stuck)
  | r => r) := (rfl)
@[simp] theorem emTest_ap {m : MM} {δ : DEnv} {y n : DEnv → Out} : emTest m δ y n = (match m δ with
  | .ok s δ' => (match s.bl with
    | .ok b => if b = true then y δ' else n δ'
    | _ => .stuck)
  | .exc x δ' => .ex x δ'
  | .stuck => .stuck) := (rfl)
@[simp] theorem mIfM_ap {c : MM} {m n : MS} {δ : DEnv} : mIfM c m n δ = emTest c δ m n := (rfl)
@[simp] theorem mRetM_ap {m : MM} {δ : DEnv} : mRetM m δ = (match m δ with
  | .ok s δ' => retS δ' s
  | .exc x δ' => .ex x δ'
  | .stuck => .stuck) := (rfl)
@[simp] theorem mAsgM_ap {i : Nat} {m : MM} {δ : DEnv} : mAsgM i m δ = (match m δ with
  | .ok s δ' => asgS i δ' s
  | .exc x δ' => .ex x δ'
  | .stuck => .stuck) := (rfl)
@[simp] theorem mAsgGM_ap {g : MG} {m : MM} {δ : DEnv} : mAsgGM g m δ = (match m δ with
  | .ok s δ' => (match s.vl with
    | .ok d => tgtO g δ' d
    | _ => .stuck)
  | .exc x δ' => .ex x δ'
  | .stuck => .stuck) := (rfl)
@[simp] theorem mDropM_ap {m : MM} {δ : DEnv} : mDropM m δ = (match m δ with
  | .ok _ δ' => .nx δ'
  | .exc x δ' => .ex x δ'
  | .stuck => .stuck) := (rfl)
@[simp] theorem isL_list {ds : List PyData} : isL (some (some (.own (.list ds)))) = true := (rfl)
@[simp] theorem mAppM_ap {i : Nat} {m : MM} {δ : DEnv} : mAppM i m δ = if isL δ[i]? = true then (match m δ with
  | .ok s δ' => (match s.vl with
    | .ok d => (match δ'[i]? with
      | some (some (.own (.list ds))) => if ds.length < sizeLine then .nx (δ'.set i (some (.own (.list (ds ++ [d]))))) else .stuck
      | _ => .stuck)
    | _ => .stuck)
  | .exc x δ' => .ex x δ'
  | .stuck => .stuck) else .stuck := (rfl)
@[simp] theorem amVal_ap {m : MD} {n : DEnv → Res (List Slot)} {δ : DEnv} : amVal m n δ = (m δ).bind fun d => (n δ).bind fun ss => .ok (.val d :: ss) := (rfl)
@[simp] theorem amLent_ap {i : Nat} {n : DEnv → Res (List Slot)} {δ : DEnv} : amLent i n δ = (match δ[i]? with
  | some (some (.own d)) => (n δ).bind fun ss => .ok (.own d :: ss)
  | some (some (.tr t)) => (n δ).bind fun ss => .ok (.tr t :: ss)
  | _ => .stuck) := (rfl)
@[simp] theorem isO_own {d : PyData} : isO (some (some (.own d))) = true := (rfl)
@[simp] theorem isO_tr {t : T} : isO (some (some (.tr t))) = true := (rfl)
@[simp] theorem okM_0o {d : PyData} {r : List Slot} : okM 0 (.own d :: r) = allVal r := (rfl)
@[simp] theorem okM_0t {t : T} {r : List Slot} : okM 0 (.tr t :: r) = allVal r := (rfl)
@[simp] theorem okM_s {n : Nat} {d : PyData} {r : List Slot} : okM (n + 1) (.val d :: r) = okM n r := (rfl)
@[simp] theorem allVal_nil : allVal [] = true := (rfl)
@[simp] theorem allVal_cons {d : PyData} {r : List Slot} : allVal (.val d :: r) = allVal r := (rfl)
@[simp] theorem callR_ok {i : Nat} {δ : DEnv} {s l : Slot} : callR i δ (.ok s l) = if isO (some (some l)) = true then .ok s (δ.set i (some l)) else .stuck := (rfl)
@[simp] theorem callR_exc {i : Nat} {δ : DEnv} {x : Exn} {l : Slot} : callR i δ (.exc x l) = if isO (some (some l)) = true then .exc x (δ.set i (some l)) else .stuck := (rfl)
@[simp] theorem emCall_ap {i k : Nat} {f : FM} {m : DEnv → Res (List Slot)} {δ : DEnv} : emCall i k f m δ = (match m δ with
  | .ok ss => if okM k ss = true ∧ isO δ[i]? = true then callR i δ (f ss) else .stuck
  | .exc x => .exc x δ
  | .stuck => .stuck) := (rfl)
theorem emComp_of {vs : List Nat} {g : MG} {it : ML} {m : MM} {δ δ' : DEnv} {ds ys : List PyData} (h1 : it δ = .ok ds) (h2 : fits ds = true) (h3 : allOff vs δ = true) (h4 : compM g m vs ds δ = .ok ys δ') : emComp vs g it m δ = .ok (.own (.list ys)) δ' := by
  unfold emComp
  rw [h1]
  simp only
  rw [if_pos ⟨h2, h3⟩, h4]
theorem compM_ok {g : MG} {m : MM} {vs : List Nat} {d y : PyData} {ds ys : List PyData} {δ δ1 δ2 δ3 : DEnv} {s : Slot} (h1 : g d δ = some δ1) (h2 : m δ1 = .ok s δ2) (h3 : s.vl = .ok y) (h4 : compM g m vs ds (wipeD δ2 vs) = .ok ys δ3) : compM g m vs (d :: ds) δ = .ok (y :: ys) δ3 := by
  unfold compM
  simp only [h1, h2, h3, h4]
@[simp] theorem backAt_ap {k : Nat} {δ : DEnv} {f : Slot → FRes} : backAt k δ f = (match δ[k]? with
  | some (some (.own d)) => f (.own d)
  | some (some (.tr t)) => f (.tr t)
  | _ => .stuck) := (rfl)
@[simp] theorem resM_rt {k : Nat} {s : Slot} {δ : DEnv} : (Out.rt s δ).resM k = backAt k δ fun l => .ok s l := (rfl)
@[simp] theorem resM_nx {k : Nat} {δ : DEnv} : (Out.nx δ).resM k = backAt k δ fun l => .ok (.val .none) l := (rfl)
@[simp] theorem resM_ex {k : Nat} {x : Exn} {δ : DEnv} : (Out.ex x δ).resM k = backAt k δ fun l => .exc x l := (rfl)
@[simp] theorem negF_int {i : Int} : negF (.int i) = .ok (.val (.int (-i))) := (rfl)
@[simp] theorem tupleF_list {ds : List PyData} : tupleF [.list ds] = .ok (.val (.tuple ds)) := (rfl)
@[simp] theorem tupleF_tup {ds : List PyData} : tupleF [.tuple ds] = .ok (.val (.tuple ds)) := (rfl)
@[simp] theorem at_2 {α : Type} {x y : α} : atI [x, y] (-1) = some y := rfl
@[simp] theorem at_3 {α : Type} {x y z : α} : atI [x, y, z] (-1) = some z := rfl
@[simp] theorem at_4 {α : Type} {x y z w : α} : atI [x, y, z, w] (-1) = some w := rfl
@[simp] theorem at_42 {α : Type} {x y z w : α} : atI [x, y, z, w] 2 = some z := rfl
@[simp] theorem at_32 {α : Type} {x y z : α} : atI [x, y, z] 2 = some z := rfl
end DL
/-! DLq: dicts in code: d[k], k in d, len(d), d.get, d[k] = v; walking keys, values, items -/
namespace DL
open PySem L2
section
variable {X : Cx} {pins : List (Addr × Obj)} {σ : St} {H G : Hp} {s : Shared} {a : Addr} {ds : List (PyData × PyData)}
theorem dd_raw (I : Inv X pins σ H s) (g : Same G H) (D : DcV X.kw G H a ds) : ∃ o es ep, s.heap.get? a = some o ∧ o.ExactDict ∧ o.data = .dict es ep ∧ (a == sysModules) = false := by
  rcases D with ⟨l, e, r⟩ | ⟨l, e, z, r⟩
  · obtain ⟨_, hd, vs, _, o, es, ep, ho, hc, hdat, _⟩ := dk_rd I.hok e
    exact ⟨o, es, ep, ho, hc, hdat, hd⟩
  · obtain ⟨hd, xs, o, es, ep, _, ho, hc, hdat, _⟩ := dn_of I.hok e
    exact ⟨o, es, ep, ho, hc, hdat, hd⟩
theorem dd_type (I : Inv X pins σ H s) (g : Same G H) (D : DcV X.kw G H a ds) : s.TypeIs (.ref a) "dict" ∧ ∀ b, Value.ref a = .ref b → ∃ ob, s.heap.get? b = some ob ∧ ob.dict = none := by
  obtain ⟨o, es, ep, ho, hc, _, _⟩ := dd_raw I g D
  refine ⟨⟨o, ho, hc.1⟩, fun b e => ?_⟩
  cases e
  exact ⟨o, ho, hc.2.1⟩
end
theorem rdr_dc {K : Kw} {G H : Hp} {v : V} {ds : List (PyData × PyData)} (g : Same G H) (h : RdR K G H v (.dict ds)) : ∃ a, v = .ref a ∧ DcV K G H a ds := rdr_dict g h
theorem ok_rep {K : Kw} {G H : Hp} {v : V} {d : PyData} (h : RdR K G H v d) (ok : okKey d = true) : Rep K G v d := by
  rcases h with h | ⟨a, e, t⟩
  · exact h
  · cases d with
    | list ds => cases ok
    | dict ds => cases ok
    | none => exact t.elim
    | bool _ => exact t.elim
    | int _ => exact t.elim
    | str _ => exact t.elim
    | tuple _ => exact t.elim
/-! ### 1. d[k] -/
def keyAt (ds : List (PyData × PyData)) (k : PyData) : Bool := okKey k && kindOk ds k
theorem keyAt_ok {ds : List (PyData × PyData)} {k : PyData} (h : keyAt ds k = true) : okKey k = true ∧ kindOk ds k = true := by simpa [keyAt] using h
def rDG (K : Kw) : R2 := fun x y H Q => ∃ G a ds kd d, x = .ref a ∧ Same G H ∧ DcV K G H a ds ∧ Rep K G y kd ∧ okKey kd = true ∧ kindOk ds kd = true ∧ dget ds kd = some d ∧ ∀ v, Rep K G v d → Q v H
theorem ix_dd {X : Cx} {k : Nat} (hr : Room k X.A) : IxR X (rDG X.kw) := by
  intro value slice pins s σ H x y v u Q I rx ry h hs
  obtain ⟨G, a, ds, kd, d, rfl, g, D, rk, ok, kk, hd, q⟩ := h
  obtain rfl : v = Value.ref a := rx
  exact PyProof.Rows.tail_any (dd_type I g D).1 PySem.F.slot_dict_getitem.lookup (dd_item (by have := hr.un; omega) I g D ok kk rk ry hd fun v w' s' I' rv rp => ⟨v, H, I', rv, q v rp⟩) hs
def gxF : PyData → PyData → Res Slot
  | .dict ds, k => if keyAt ds k = true then (match dget ds k with | some d => okV d | none => .stuck) else .stuck
  | d, k => ixF d k
def rGx (K : Kw) : R2 := fun x y H Q => rDG K x y H Q ∨ rIx K x y H Q
theorem gxF_ok {K : Kw} : OpS K (rGx K) gxF := by
  intro G H x y d e s Q g rx ry ef q
  cases d with
  | dict ds =>
    have ef : (if keyAt ds e = true then (match dget ds e with | some d => okV d | none => .stuck) else .stuck) = Res.ok s := ef
    split at ef
    · rename_i hk
      split at ef
      · rename_i v hv
        cases ef
        obtain ⟨a, rfl, D⟩ := rdr_dc g rx
        have hk' := keyAt_ok hk
        exact .inl ⟨G, a, ds, e, v, rfl, g, D, ok_rep ry hk'.1, hk'.1, hk'.2, hv, fun u r => q u G H (Stp.refl g) r⟩
      · cases ef
    · cases ef
  | none => exact .inr (ixF_ok G H x y _ e s Q g rx ry ef q)
  | bool _ => exact .inr (ixF_ok G H x y _ e s Q g rx ry ef q)
  | int _ => exact .inr (ixF_ok G H x y _ e s Q g rx ry ef q)
  | str _ => exact .inr (ixF_ok G H x y _ e s Q g rx ry ef q)
  | list _ => exact .inr (ixF_ok G H x y _ e s Q g rx ry ef q)
  | tuple _ => exact .inr (ixF_ok G H x y _ e s Q g rx ry ef q)
theorem gxF_ne : NoExc gxF := fun d e x => by
  unfold gxF
  split
  · split <;> (try split) <;> (intro h; cases h)
  · exact ixF_ne _ _ _
section
variable {X : Cx} {a : Ax} {W : WX} {e e1 e2 e3 tg : Expr} {es : List Expr} {pos : Pos}
theorem de_gx {ma mb : MD} {k : Nat} (hr : Room k X.A) (ha : DR X a W e1 ma) (hb : DR X a W e2 mb) (hs : PlainIx e2) : DE X a W (.Subscript e1 e2 pos) (mB gxF ma mb) :=
  let ⟨_, pa, sa⟩ := ha; let ⟨_, pb, sb⟩ := hb; ⟨_, pe_ix ((ix_dd hr).or ix_seq) pa pb hs, snd_op (C := cn X a) gxF_ok gxF_ne sa sb⟩
/-! ### 2. in -/
def rDIn (K : Kw) (neg : Bool) : R2 := fun x y H Q => ∃ G a ds kd, y = .ref a ∧ Same G H ∧ DcV K G H a ds ∧ Rep K G x kd ∧ okKey kd = true ∧ kindOk ds kd = true ∧ Q (.bl (neg != (dget ds kd).isSome)) H
theorem op_inDD {k : Nat} (hr : Room k X.A) : OpR X (compareOp .In) (rDIn X.kw false) := by
  intro pins s σ H x y v u Q I rx ry h
  obtain ⟨G, a, ds, kd, rfl, g, D, rk, ok, kk, q⟩ := h
  obtain rfl : u = Value.ref a := ry
  exact dd_in (by have := hr.un; omega) I g D ok kk rk rx fun s' I' => ⟨.bl _, H, I', rfl, by simpa using q⟩
theorem op_notInDD {k : Nat} (hr : Room k X.A) : OpR X (compareOp .NotIn) (rDIn X.kw true) := by
  intro pins s σ H x y v u Q I rx ry h
  obtain ⟨G, a, ds, kd, rfl, g, D, rk, ok, kk, q⟩ := h
  obtain rfl : u = Value.ref a := ry
  exact dd_notIn (by have := hr.un; omega) I g D ok kk rk rx fun s' I' => ⟨.bl _, H, I', rfl, by simpa using q⟩
def inG (neg : Bool) (d : PyData) : PyData → Res Slot
  | .dict ds => if keyAt ds d = true then okB (neg != (dget ds d).isSome) else .stuck
  | e => inF neg d e
def rInG (K : Kw) : R2 := fun x y H Q => rDIn K false x y H Q ∨ rInA K x y H Q
def rNotInG (K : Kw) : R2 := fun x y H Q => rDIn K true x y H Q ∨ rNotInA K x y H Q
theorem op_inG {k : Nat} (hr : Room k X.A) : OpR X (compareOp .In) (rInG X.kw) := (op_inDD hr).or (op_inA hr)
theorem op_notInG {k : Nat} (hr : Room k X.A) : OpR X (compareOp .NotIn) (rNotInG X.kw) := (op_notInDD hr).or (op_notInA hr)
theorem inG_ok {K : Kw} : OpS K (rInG K) (inG false) := by
  intro G H x y d e s Q g rx ry ef q
  unfold inG at ef
  split at ef
  · rename_i ds
    split at ef
    · rename_i hk
      cases ef
      obtain ⟨a, rfl, D⟩ := rdr_dc g ry
      have hk' := keyAt_ok hk
      exact .inl ⟨G, a, ds, d, rfl, g, D, ok_rep rx hk'.1, hk'.1, hk'.2, q _ G H (Stp.refl g) (Rep.bl _)⟩
    · cases ef
  · exact .inr (inF_ok G H x y d e s Q g rx ry ef q)
theorem notInG_ok {K : Kw} : OpS K (rNotInG K) (inG true) := by
  intro G H x y d e s Q g rx ry ef q
  unfold inG at ef
  split at ef
  · rename_i ds
    split at ef
    · rename_i hk
      cases ef
      obtain ⟨a, rfl, D⟩ := rdr_dc g ry
      have hk' := keyAt_ok hk
      exact .inl ⟨G, a, ds, d, rfl, g, D, ok_rep rx hk'.1, hk'.1, hk'.2, q _ G H (Stp.refl g) (Rep.bl _)⟩
    · cases ef
  · exact .inr (notInF_ok G H x y d e s Q g rx ry ef q)
theorem inG_ne {neg : Bool} : NoExc (inG neg) := fun d e x => by
  unfold inG
  split
  · split <;> (intro h; cases h)
  · exact inF_ne _ _ _
theorem notInG_ne : NoExc (inG true) := inG_ne
/-! ### 3. len -/
def rLenD (K : Kw) : List V → Hp → VK → Prop := fun xs H Q => ∃ G a ds, xs = [.ref a] ∧ Same G H ∧ DcV K G H a ds ∧ Q (.int (ds.length : Int)) H
theorem call_lenD : CallR X (.builtin "len") (rLenD X.kw) := by
  intro pins s σ H xs us Q I r h
  obtain ⟨G, b, ds, rfl, g, D, q⟩ := h
  cases r with
  | cons r rr =>
    cases rr
    cases (show _ = Value.ref b from r)
    rcases D with ⟨l, e, rk⟩ | ⟨l, e, z, rn⟩
    · have hl : l.length = ds.length := rk.length
      refine d_len I e fun t s' I' => ⟨.int (ds.length : Int), H, I', ⟨t, by rw [hl]⟩, q⟩
    · obtain ⟨xs, px, dd, hd, _⟩ := dn_heap I g e rn
      have hl : l.length = ds.length := rn.length
      have hx : l.length = xs.length := Paired.length px
      refine call_len_dictH hd dd (by rw [sizeLine_eq] at z; omega) ?_
      exact ⟨.int (ds.length : Int), H, I.tok _, ⟨_, by rw [← hx, hl]⟩, q⟩
def lenG : List PyData → Res Slot
  | [.dict ds] => okI (ds.length : Int)
  | ds => lenF ds
theorem lenG_ok {K : Kw} : CallS K (fun xs H Q => rLenD K xs H Q ∨ ∃ x n, xs = [x] ∧ LenV K x H n ∧ Q (.int (n : Int)) H) lenG := by
  refine ⟨fun G H vs ds s Q g rd ef q => ?_, fun ds x => ?_⟩
  · unfold lenG at ef
    split at ef
    · rename_i d
      cases ef
      obtain ⟨v, ev, r⟩ := rdl1 rd
      obtain ⟨b, rfl, D⟩ := rdr_dc g r
      exact .inl ⟨G, b, d, ev, g, D, q _ G H (Stp.refl g) (Rep.int _)⟩
    · exact .inr (lenF_ok.1 G H vs ds s Q g rd ef q)
  · unfold lenG
    split
    · intro h; cases h
    · exact (lenF_ok (K := K)).2 ds x
theorem call_lenG : CallR X (.builtin "len") (fun xs H Q => rLenD X.kw xs H Q ∨ ∃ x n, xs = [x] ∧ LenV X.K x H n ∧ Q (.int (n : Int)) H) := call_lenD.or call_len
/-! ### 4. methods of a dict -/
def isDc (K : Kw) (x : V) (H : Hp) : Prop := ∃ G a ds, x = .ref a ∧ Same G H ∧ DcV K G H a ds
def tBMD (K : Kw) (r : V → List V → Hp → VK → Prop) (to : TE) (t : TA) : TE := fun σ H Q => to σ H fun x H1 => isDc K x H1 ∧ t σ H1 fun xs H2 => r x xs H2 Q
theorem pe_bmD {o : Expr} {to : TE} {t : TA} {name : Str} {apos cpos : Pos} {id : String} {r : V → List V → Hp → VK → Prop} (pa : PlainAttrs "dict") (slot : PySem.Slot "dict" name id) (hty : typeOf (.builtin id) = pure (.type "method_descriptor")) (hm : MtR X id r) (ho : PE X o to) (ha : PA X (e :: es) t)
    (hbase : attributeBase o name X.env (eval o X.env) = eval o X.env := by rfl)
    (hfew : ((backTo cpos (starEach (e :: es) X.env)).all (fun x => !x.1) && (backToKw cpos (keywordEach [] X.env)).all (fun x => x.1.isSome)
      && decide ((e :: es).length + ([] : List Keyword).length + (if ([] : List Keyword).isEmpty then 0 else 1) < 30)) = true := by rfl)
    (hline : (apos.endLine == cpos.line) = true := by rfl) (hs : starEach (e :: es) X.env = (false, eval e X.env) :: starEach es X.env := by rfl) (hplain : (backTo cpos (starEach es X.env)).any (·.1) = false := by rfl) :
    PE X (.Call (.Attribute o name apos) (e :: es) [] cpos) (tBMD X.kw r to t) := by
  refine ⟨fun pins s σ H Q I h => ?_⟩
  refine wpAny_Call_method_late hbase hfew hline rfl (thn (ho.run pins s σ H _ I h) fun v s1 ⟨x, H1, I1, r1, ty, q1⟩ => ?_)
  obtain ⟨G, b, ds, rfl, g, D⟩ := ty
  obtain rfl : v = Value.ref b := r1
  obtain ⟨h1, h2⟩ := dd_type I1 g D
  refine ⟨"dict", id, pa, slot, hty, h1, h2, ?_⟩
  have hA := ha.run cpos pins s1 σ H1 _ I1 q1
  rw [hs] at hA ⊢
  refine Calls.callWith_builtin (by show (false || (backTo cpos (starEach es X.env)).any (·.1)) = false; rw [hplain] <;> rfl) (Calls.evalArgs_plain ?_)
  exact thn hA fun us s2 ⟨vs, H2, I2, r2, q2⟩ => hm pins s2 σ H2 (.ref b) vs (.ref b) us Q I2 rfl r2 q2
def rGet (K : Kw) : V → List V → Hp → VK → Prop := fun x xs H Q => ∃ G a ds, x = .ref a ∧ Same G H ∧ DcV K G H a ds ∧ ((∃ y kd, xs = [y] ∧ Rep K G y kd ∧ okKey kd = true ∧ kindOk ds kd = true ∧ ∀ v, Rep K G v ((dget ds kd).getD .none) → Q v H) ∨
  ∃ y z kd zd, xs = [y, z] ∧ Rep K G y kd ∧ Rep K G z zd ∧ okKey kd = true ∧ kindOk ds kd = true ∧ ∀ v, Rep K G v ((dget ds kd).getD zd) → Q v H)
theorem mt_getD {k : Nat} (hr : Room k X.A) : MtR X "dict.get" (rGet X.kw) := by
  intro pins s σ H x xs v us Q I rx rs h
  obtain ⟨G, b, ds, rfl, g, D, h⟩ := h
  obtain rfl : v = Value.ref b := rx
  rcases h with ⟨y, kd, rfl, rk, ok, kk, q⟩ | ⟨y, z, kd, zd, rfl, rk, rz, ok, kk, q⟩
  · cases rs with
    | cons r1 rr =>
      cases rr
      exact dd_get1 (by have := hr.un; omega) I g D ok kk rk r1 fun v w' s' I' rv rp => ⟨v, H, I', rv, q v rp⟩
  · cases rs with
    | cons r1 rr => cases rr with
      | cons r2 rr =>
        cases rr
        exact dd_get2 (by have := hr.un; omega) I g D ok kk rk r1 rz r2 fun v w' s' I' rv rp => ⟨v, H, I', rv, q v rp⟩
def getF (d : PyData) : List PyData → Res Slot
  | [k] => match d with
    | .dict ds => if keyAt ds k = true then okV ((dget ds k).getD .none) else .stuck
    | _ => .stuck
  | [k, z] => match d with
    | .dict ds => if keyAt ds k = true then okV ((dget ds k).getD z) else .stuck
    | _ => .stuck
  | _ => .stuck
def mGet (mo : MD) (ml : ML) : ME := fun δ => (mo δ).bind fun d => match d with
  | .dict ds => (ml δ).bind fun ks => getF (.dict ds) ks
  | _ => .stuck
theorem de_get {o : Expr} {mo : MD} {ml : ML} {apos : Pos} {k : Nat} (hr : Room k X.A) (ho : DR X a W o mo) (h : DA X a W (e :: es) ml) (hbase : attributeBase o "get" X.env (eval o X.env) = eval o X.env := by rfl)
    (hfew : ((backTo pos (starEach (e :: es) X.env)).all (fun x => !x.1) && (backToKw pos (keywordEach [] X.env)).all (fun x => x.1.isSome)
      && decide ((e :: es).length + ([] : List Keyword).length + (if ([] : List Keyword).isEmpty then 0 else 1) < 30)) = true := by rfl)
    (hline : (apos.endLine == pos.line) = true := by rfl) (hs : starEach (e :: es) X.env = (false, eval e X.env) :: starEach es X.env := by rfl) (hplain : (backTo pos (starEach es X.env)).any (·.1) = false := by rfl) : DE X a W (.Call (.Attribute o "get" apos) (e :: es) [] pos) (mGet mo ml) := by
  obtain ⟨t, p, s⟩ := ho
  obtain ⟨u, q, z⟩ := h
  refine ⟨_, pe_bmD PySem.F.plainAttrs_dict PySem.F.slot_dict_get PySem.F.type_dict_get (mt_getD hr) p q hbase hfew hline hs hplain, ?_⟩
  intro B G0 G H σ δ S Q hq
  refine s B G0 G H σ δ S _ ?_
  have hq' : ROk (cn X a) W σ G H (relE X.kw H) ((mo δ).bind fun d => match d with
    | .dict ds => (ml δ).bind fun ks => getF (.dict ds) ks
    | _ => .stuck) Q := hq
  generalize mo δ = r at hq'
  cases r with
  | stuck => exact hq'.elim
  | exc x => exact hq'
  | ok d =>
    intro x G1 H1 st1 rd
    rw [bind_ok] at hq'
    have S1 := S.step st1
    cases d with
    | dict ds =>
      simp only at hq'
      obtain ⟨b, rfl, D⟩ := rdr_dc st1.gh rd
      refine ⟨⟨G1, b, ds, rfl, st1.gh, D⟩, z B G0 G1 H1 σ δ S1 _ ?_⟩
      generalize ml δ = r2 at hq'
      cases r2 with
      | stuck => exact hq'.elim
      | exc x => exact fun cls d G2 H2 s2 r => hq' cls d G2 H2 (st1.trans s2) r
      | ok ks =>
        rw [bind_ok] at hq'
        intro vs G2 H2 st2 rl
        have st := st1.trans st2
        have D2 := D.mono st2.g st2.h
        have hq2 : ROk (cn X a) W σ G H (relE X.kw H) (getF (.dict ds) ks) Q := hq'
        unfold getF at hq2
        cases ks with
        | nil => exact hq2.elim
        | cons kd r => cases r with
          | nil =>
            by_cases hk : keyAt ds kd = true
            · simp only [hk, if_true] at hq2
              have hk' := keyAt_ok hk
              cases rl with
              | cons r1 rr =>
                cases rr
                exact ⟨G2, b, ds, rfl, st2.gh, D2, .inl ⟨_, kd, rfl, r1, hk'.1, hk'.2, fun v rp => hq2 v G2 H2 st rp⟩⟩
            · simp only [hk] at hq2; exact hq2.elim
          | cons zd r => cases r with
            | nil =>
              by_cases hk : keyAt ds kd = true
              · simp only [hk, if_true] at hq2
                have hk' := keyAt_ok hk
                cases rl with
                | cons r1 rr => cases rr with
                  | cons r2 rr =>
                    cases rr
                    exact ⟨G2, b, ds, rfl, st2.gh, D2, .inr ⟨_, _, kd, zd, rfl, r1, r2, hk'.1, hk'.2, fun v rp => hq2 v G2 H2 st rp⟩⟩
              · simp only [hk] at hq2; exact hq2.elim
            | cons _ _ => exact hq2.elim
    | none => exact hq'.elim
    | bool _ => exact hq'.elim
    | int _ => exact hq'.elim
    | str _ => exact hq'.elim
    | list _ => exact hq'.elim
    | tuple _ => exact hq'.elim
/-! ### 5. x[k] = v -/
def rPutD (K : Kw) : TSet := fun o i v H Q => ∃ G a ds kd d, o = .ref a ∧ Same G H ∧ Top K G H a (.dict ds) ∧ ds.length < sizeLine ∧ Rep K G i kd ∧ okKey kd = true ∧ kindOk ds kd = true ∧ Rep K G v d ∧ ∀ ob, Top K G (upd H a ob) a (.dict (dput ds kd d)) → Q (upd H a ob)
theorem set_dd {k : Nat} (hr : Room k X.A) : PSet X (rPutD X.kw) := by
  intro pins s σ H o i v ov iv u Q I ro ri rv h
  obtain ⟨G, b, ds, kd, d, rfl, g, t, hz, rk, ok, kk, rd, q⟩ := h
  cases (show ov = Value.ref b from ro)
  exact dd_set (by have := hr.un; omega) I g t hz ok kk rk ri rd rv fun ob s' I' t' => ⟨_, I', q ob t'⟩
def rSetA (K : Kw) : TSet := fun o i v H Q => rPutD K o i v H Q ∨ rSetL o i v H Q
theorem set_any {k : Nat} (hr : Room k X.A) : PSet X (rSetA X.kw) := by
  intro pins s σ H o i v ov iv u Q I ro ri rv h
  rcases h with h | h
  · exact set_dd hr pins s σ H o i v ov iv u Q I ro ri rv h
  · exact set_list pins s σ H o i v ov iv u Q I ro ri rv h
def setI (i : Nat) (δ : DEnv) (k v : PyData) : Out := match δ[i]? with
  | some (some (.own (.list ds))) => match k with
    | .int j => match ixN ds.length j with
      | some n => .nx (δ.set i (some (.own (.list (ds.set n v)))))
      | none => .stuck
    | _ => .stuck
  | some (some (.own (.dict ds))) => if keyAt ds k = true ∧ ds.length < sizeLine then .nx (δ.set i (some (.own (.dict (dput ds k v))))) else .stuck
  | _ => .stuck
theorem setI_ok {C : Cn} {W : WX} {B G0 G H : Hp} {σ : St} {δ : DEnv} {D : Ends} {i : Nat} {kd vd : PyData} {y v : V} (S : StR C B G0 G H σ δ) (rk : RdR C.K G H y kd) (rv : Rep C.K G v vd) (k : OOk C W B G0 D (setI i δ kd vd)) : ∃ o, σ[i]? = some (some o) ∧ rSetA C.K o y v H fun H' => D.nx σ H' := by
  unfold setI at k
  split at k
  · rename_i ds ei
    obtain ⟨o, fp, eo, ⟨b, rfl, ef, xs, hx, rx⟩, _⟩ := S.sl ei
    split at k
    · split at k
      · rename_i n hn
        have e1 := rdr_int rk
        subst e1
        refine ⟨_, eo, .inr ⟨b, xs, _, n, rfl, rfl, hx, by rw [rx.length]; exact hn, ?_⟩⟩
        exact k σ G _ (S.write (d' := .list (ds.set n vd)) ei eo ⟨xs.set n v, upd_same, rx.set n rv⟩)
      · exact k.elim
    · exact k.elim
  · rename_i ds ei
    obtain ⟨o, fp, eo, ⟨b, rfl, ef, t⟩, _⟩ := S.sl ei
    split at k
    · rename_i hz
      have hk := keyAt_ok hz.1
      exact ⟨_, eo, .inl ⟨G, b, ds, kd, vd, rfl, S.gh, t, hz.2, ok_rep rk hk.1, hk.1, hk.2, rv, fun ob t' => k σ G _ (S.write ei eo t')⟩⟩
    · exact k.elim
  · exact k.elim
def mSetI (i : Nat) (mk mv : MD) : MS := fun δ => (mv δ).out δ fun v => if isO δ[i]? = true then (mk δ).out δ fun k => setI i δ k v else .stuck
theorem isO_at {o : Option (Option Slot)} (h : isO o = true) : ∃ s, o = some (some s) := by
  unfold isO at h
  split at h
  · exact ⟨_, rfl⟩
  · exact ⟨_, rfl⟩
  · cases h
theorem ds_setI {i k : Nat} {x : Str} {ke : Expr} {p1 p2 : Pos} {mk mv : MD} (hr : Room k X.A) (hv : DV X a W e mv) (hk : DR X a W ke mk) (hN : X.N[i]? = some x := by rfl) (hvi : Vis X.env.scope x := by first | exact Or.inl rfl | exact Or.inr (Or.inl rfl) | exact Or.inr (Or.inr rfl)) (hd : (x == ("__debug__" : Str)) = false := by decide)
    (hcd : (x == ("__classdict__" : Str)) = false := by decide) (hs : swapsWithSole [.Subscript (.Name x p1) ke p2] e pos.line X.env = pure false := by rfl) (hw : swappedStores [.Subscript (.Name x p1) ke p2] e X.env = pure none := by rfl)
    (h1 : (assignEach [.Subscript (.Name x p1) ke p2] X.env).map (·.2) = [assign (.Subscript (.Name x p1) ke p2) X.env] := by rfl)
    (ha : ∀ v, assign (.Subscript (.Name x p1) ke p2) X.env v = (do
      let ov ← holding [v] (eval (.Name x p1) X.env)
      let iv ← holding [v, ov] (eval ke X.env)
      standAt p2
      holding [v, ov, iv] (setItem ov iv v)
      release [v, ov, iv] []) := by intro _; rfl) : DS X a W (.Assign [.Subscript (.Name x p1) ke p2] e pos) (mSetI i mk mv) := by
  obtain ⟨t, p, s⟩ := hv
  obtain ⟨u, q, z⟩ := hk
  refine ⟨_, ps_asg p (pg_sub (pe_var (i := i) hN hvi hd hcd) q (set_any hr) ha) hs hw h1, fun B G0 G H σ δ D S k => ?_⟩
  refine snd_out s S (R := fun v H1 => gSub (tVar i) u (rSetA X.kw) v σ H1 D.nx) (f := fun v => if isO δ[i]? = true then (mk δ).out δ fun k => setI i δ k v else .stuck) k fun vd v G1 H1 _ st1 rv k => ?_
  have S1 := S.step st1
  split at k
  · rename_i ho
    obtain ⟨sl, ei⟩ := isO_at ho
    obtain ⟨o, fp, eo, _⟩ := S.sl ei
    refine ⟨o, eo, ?_⟩
    refine snd_out z S1 (R := fun y H2 => rSetA X.kw o y v H2 fun H3 => D.nx σ H3) (f := fun k => setI i δ k vd) k fun kd y G2 H2 ek st2 ry k2 => ?_
    obtain ⟨o2, eo2, r⟩ := setI_ok (S1.step st2) ry (rv.mono st2.g) k2
    rw [eo] at eo2; cases eo2
    exact r
  · exact k.elim
end
/-! ### 6. walking a dict -/
section
variable {X : Cx} {pins : List (Addr × Obj)} {σ : St} {H : Hp} {s : Shared} {d : Addr} {o : Obj}
theorem frzN {l : List (NestedKey × Addr × V)} (I : Inv X pins σ H s) (h : H d = some (.frz o (dnO X.w d l))) : (d == sysModules) = false ∧ s.heap.get? d = some o ∧ o.ExactDict ∧ ∃ (es : Array DictEntry) (ep : Nat), o.data = .dict es ep ∧ es.size = l.length ∧
    ∀ (i : Nat) (k : NestedKey) (b : Addr) (v : V), l[i]? = some (k, b, v) → ∃ (en : DictEntry), es[i]? = some en ∧ en.key = .ref b ∧ RelV v en.val := by
  obtain ⟨hd, hx⟩ := (show ObjOk X.prog X.w H s.heap d (.frz o (dnO X.w d l)) from I.hok d _ h)
  obtain ⟨hs, xs, o', es, ep, px, ho, hc, hdat, hes, _⟩ := (show dnOk X.w d l s.heap from hx.1)
  rw [hd] at ho; cases ho
  have l1 : es.size = xs.length := by rw [← Array.length_toList, hes, List.length_map]
  have l2 : l.length = xs.length := Paired.length px
  refine ⟨hs, hd, hc, es, ep, hdat, by omega, fun i k b v e => ?_⟩
  obtain ⟨q, hq, e1, e2, e3⟩ := paired_at px e
  have e4 : es[i]? = some ⟨q.1.hash X.w, .ref q.2.1, q.2.2⟩ := by
    rw [← Array.getElem?_toList, hes, List.getElem?_map, hq]; rfl
  exact ⟨_, e4, by rw [← e2], e3⟩
/-- the keys of the locked dict at d, tuples, in their order; the values; the pairs -/
def ItkN (w : World) (d : Addr) (o : Obj) (l : List (NestedKey × Addr × V)) : It :=
  ⟨fun i H => H d = some (.frz o (dnO w d l)) ∧ i < l.length, fun i H x H' => H' = H ∧ ∃ k b v, l[i]? = some (k, b, v) ∧ x = .ref b, fun i H => H d = some (.frz o (dnO w d l)) ∧ l.length ≤ i⟩
def ItdN (w : World) (d : Addr) (o : Obj) (l : List (NestedKey × Addr × V)) : It :=
  ⟨fun i H => H d = some (.frz o (dnO w d l)) ∧ i < l.length, fun i H x H' => H' = H ∧ ∃ k b, l[i]? = some (k, b, x), fun i H => H d = some (.frz o (dnO w d l)) ∧ l.length ≤ i⟩
def ItiN (w : World) (d : Addr) (o : Obj) (l : List (NestedKey × Addr × V)) : It :=
  ⟨fun i H => H d = some (.frz o (dnO w d l)) ∧ i < l.length, fun i H x H' => ∃ T k b v, l[i]? = some (k, b, v) ∧ x = .ref T ∧ H T = none ∧ H' = upd H T (.tup [.ref b, v]), fun i H => H d = some (.frz o (dnO w d l)) ∧ l.length ≤ i⟩
end
section
variable {P : Program} {w : World} {K : PySem.W.Frag} {tg : Expr} {d : Addr} {o : Obj} {es : Array DictEntry} {ep : Nat}
theorem turn_keysN {l : List (NestedKey × Addr × V)} (it : Addr) (hod : o.data = .dict es ep) : Turn P w K tg (ItkN w d o l) [it] it (fun i h => h.IsKeyIter it d i l.length ep) where
  mem := by simp
  obj := fun i h st b hb => by
    have e : b = it := by simpa using hb
    subst e
    obtain ⟨oi, e, c, dd⟩ := st
    exact ⟨oi, e, fun v z => by rw [dd] at z; cases z⟩
  keep := fun i h h' st k => st.at fun oi e => k it (by simp) oi e
  item := by
    intro X hP hw hK hc i pins s σ H E I hf st hg
    subst hP hw hK
    obtain ⟨hd, hi⟩ := hg
    obtain ⟨f0, f1, f2, f3, f4, f5⟩ := hf it (by simp)
    obtain ⟨hs, hgd, hx, es', ep', hdt, hsz, ent⟩ := frzN I hd
    obtain ⟨rfl, rfl⟩ := dict_ep hod hdt
    obtain ⟨⟨k, b, v⟩, hkv⟩ : ∃ p, l[i]? = some p := ⟨l[i], List.getElem?_eq_getElem hi⟩
    obtain ⟨en, hen, hkey, _⟩ := ent i k b v hkv
    refine next_key_item st hgd hdt hsz hen fun h' st' sb => ?_
    have I1 : Inv X pins σ H { s with heap := h' } := I.turned (t' := s.toks) (fun b ob hb e => (sb.2 b hb).trans e) f0 f1 f3 f4 f5
    obtain ⟨oi, e, c, dd⟩ := id st'
    exact ⟨en.key, rfl, go_of (s := { s with heap := h' }) e c dd (by decide) ⟨.ref b, H, I1, hkey, ⟨rfl, k, b, v, hkv, rfl⟩, st', fun b hb => (hf b hb).1⟩⟩
  done := by
    intro X hP hw hK hc i pins s σ H E I hf st hg
    subst hP hw hK
    obtain ⟨hd, hi⟩ := hg
    obtain ⟨f0, f1, f2, f3, f4, f5⟩ := hf it (by simp)
    obtain ⟨hs, hgd, hx, es', ep', hdt, hsz, ent⟩ := frzN I hd
    obtain ⟨rfl, rfl⟩ := dict_ep hod hdt
    exact next_key_end (I.ok.hd hc) st hgd hdt hsz hi fun h' eb => ⟨rfl, I.turned (t' := s.toks) (fun b ob hb e => eb b ob hb e) f0 f1 f3 f4 f5⟩
  self := fun A i s Q E st h => by
    refine wpAny_pyIter_slot st.typeIs F.slot_dict_keyiterator_iter (wpAny_call_entry F.slot_dict_keyiterator_iter st.typeIs F.entry_dict_keyiterator_iter ?_ (F.args_dict_keyiterator_iter_1 _))
    show wpAny _ _ (ret (.ref it)) _ _ s
    exact wpAny_pure ⟨_, rfl, "dict_keyiterator", _, st.typeIs, F.slot_dict_keyiterator_next.lookup, h⟩
theorem turn_valsN {l : List (NestedKey × Addr × V)} (it : Addr) (hod : o.data = .dict es ep) : Turn P w K tg (ItdN w d o l) [it] it (fun i h => h.IsValIter it d i l.length ep) where
  mem := by simp
  obj := fun i h st b hb => by
    have e : b = it := by simpa using hb
    subst e
    obtain ⟨oi, e, c, dd⟩ := st
    exact ⟨oi, e, fun v z => by rw [dd] at z; cases z⟩
  keep := fun i h h' st k => st.at fun oi e => k it (by simp) oi e
  item := by
    intro X hP hw hK hc i pins s σ H E I hf st hg
    subst hP hw hK
    obtain ⟨hd, hi⟩ := hg
    obtain ⟨f0, f1, f2, f3, f4, f5⟩ := hf it (by simp)
    obtain ⟨hs, hgd, hx, es', ep', hdt, hsz, ent⟩ := frzN I hd
    obtain ⟨rfl, rfl⟩ := dict_ep hod hdt
    obtain ⟨⟨k, b, v⟩, hkv⟩ : ∃ p, l[i]? = some p := ⟨l[i], List.getElem?_eq_getElem hi⟩
    obtain ⟨en, hen, hkey, hval⟩ := ent i k b v hkv
    have hlt : i < es'.size := by omega
    have een : es'[i] = en := by
      have := Array.getElem?_eq_getElem hlt
      rw [hen] at this; exact (Option.some.inj this).symm
    have st' : s.heap.IsValIter it d i es'.size ep' := by rw [hsz]; exact st
    refine wpAny_pyNext_values_item_raw st' ⟨o, hgd, hx, hdt⟩ hlt fun h' st2 sb => ?_
    have I1 : Inv X pins σ H { s with heap := h' } := I.turned (t' := s.toks) (fun b ob hb e => (sb.2 b hb).trans e) f0 f1 f3 f4 f5
    obtain ⟨oi, e, c, dd⟩ := id st2
    refine ⟨_, rfl, go_of (s := { s with heap := h' }) e c dd (by decide) ⟨v, H, I1, by rw [een]; exact hval, ⟨rfl, k, b, hkv⟩, ?_, fun b hb => (hf b hb).1⟩⟩
    rw [hsz] at st2
    exact st2
  done := by
    intro X hP hw hK hc i pins s σ H E I hf st hg
    subst hP hw hK
    obtain ⟨hd, hi⟩ := hg
    obtain ⟨f0, f1, f2, f3, f4, f5⟩ := hf it (by simp)
    obtain ⟨hs, hgd, hx, es', ep', hdt, hsz, ent⟩ := frzN I hd
    obtain ⟨rfl, rfl⟩ := dict_ep hod hdt
    have st' : s.heap.IsValIter it d i es'.size ep' := by rw [hsz]; exact st
    exact wpAny_pyNext_values_end_raw (I.ok.hd hc) st' ⟨o, hgd, hx, hdt⟩ (by omega) fun h' eb => ⟨rfl, I.turned (t' := s.toks) (fun b ob hb e => eb b ob hb e) f0 f1 f3 f4 f5⟩
  self := fun A i s Q E st h => wpAny_pyIter_valiter st h
theorem turn_itemsN {l : List (NestedKey × Addr × V)} {elts : List Expr} {kk : Nat} {tpos : Pos} (it : Addr) (hod : o.data = .dict es ep) :
    Turn P w K (.Tuple elts kk tpos) (ItiN w d o l) [it] it (fun i h => ∃ ok ov, IsItemIter h it d i l.length ep ok ov) where
  mem := by simp
  obj := fun i h st b hb => by
    have e : b = it := by simpa using hb
    subst e
    obtain ⟨ok, ov, e⟩ := st
    exact ⟨_, e, fun v z => nomatch z⟩
  keep := fun i h h' st k => let ⟨ok, ov, e⟩ := st; ⟨ok, ov, k it (by simp) _ e⟩
  item := by
    intro X hP hw hK hc i pins s σ H E I hf st hg
    subst hP hw hK
    obtain ⟨hd, hi⟩ := hg
    obtain ⟨hs, hgd, hx, es', ep', hdt, hsz, ent⟩ := frzN I hd
    obtain ⟨rfl, rfl⟩ := dict_ep hod hdt
    obtain ⟨⟨k, b, v⟩, hkv⟩ : ∃ p, l[i]? = some p := ⟨l[i], List.getElem?_eq_getElem hi⟩
    obtain ⟨en, hen, hkey, hval⟩ := ent i k b v hkv
    have hlt' : i < es'.size := by omega
    have een : es'[i] = en := by
      have := Array.getElem?_eq_getElem hlt'
      rw [hen] at this; exact (Option.some.inj this).symm
    obtain ⟨ok, ov, he⟩ := st
    rw [← hsz] at he
    have hlt : it < s.heap.objs.size := Heap.lt_size he
    refine wpAny_pyNext_items_item_raw he ⟨o, hgd, hx, hdt⟩ hlt' fun h' ho hT hz hk => ?_
    refine ⟨_, rfl, wpAny_letOwnedTupleGo_items (s := { s with heap := h' }) ho fun h'' he' sb => ?_⟩
    have hT2 : h''.get? s.heap.objs.size = some { cls := .type "tuple", data := .seq #[es'[i].key, es'[i].val] } := (sb.2 _ (Nat.ne_of_gt hlt)).trans hT
    have new : ObjOk X.prog X.w (upd H s.heap.objs.size (.tup [.ref b, v])) h'' s.heap.objs.size (.tup [.ref b, v]) :=
      ⟨by show 2 ≤ sizeLine; decide, [es'[i].key, es'[i].val], .cons (by rw [een]; exact hkey) (.cons (by rw [een]; exact hval) .nil), ⟨_, hT2, rfl, _, rfl⟩⟩
    have I1 : Inv X pins σ (upd H s.heap.objs.size (.tup [.ref b, v])) { s with heap := h'' } :=
      I.turnedNew (t' := s.toks) (ch := [it]) (fun b ob hb e => (sb.2 b (by simpa using hb)).trans (hk b ob (by simpa using hb) e)) hf (Nat.le_refl _) new
    refine ⟨.ref s.heap.objs.size, _, I1, rfl, ⟨_, k, b, v, hkv, rfl, I.hok.fresh (Nat.le_refl _), rfl⟩, ⟨es'[i].key, es'[i].val, ?_⟩, fun c hc' => ?_⟩
    · rw [hsz] at he'; exact he'
    · have e : c = it := by simpa using hc'
      rw [e, upd_ne (Nat.ne_of_lt hlt)]
      exact (hf it (by simp)).1
  done := by
    intro X hP hw hK hc i pins s σ H E I hf st hg
    subst hP hw hK
    obtain ⟨hd, hi⟩ := hg
    obtain ⟨f0, f1, f2, f3, f4, f5⟩ := hf it (by simp)
    obtain ⟨hs, hgd, hx, es', ep', hdt, hsz, ent⟩ := frzN I hd
    obtain ⟨rfl, rfl⟩ := dict_ep hod hdt
    obtain ⟨ok, ov, he⟩ := st
    rw [← hsz] at he
    exact wpAny_pyNext_items_end_raw (I.ok.hd hc) he ⟨o, hgd, hx, hdt⟩ (by omega) fun h' eb => ⟨rfl, I.turned (t' := s.toks) (fun b ob hb e => eb b ob hb e) f0 f1 f3 f4 f5⟩
  self := fun A i s Q E st h => let ⟨_, _, e⟩ := st; PySem.W.kcp_self e h
end
section
variable {X : Cx} {tg e : Expr} {td : TE} {apos cpos : Pos}
/-- the dict is locked -/
def iKeysD (w : World) (td : TE) : TI := fun σ H R => td σ H fun x H1 => ∃ d o, x = .ref d ∧ ((∃ kvs, H1 d = some (.frz o (.dK kvs)) ∧ R (Itk d o kvs) H1) ∨ ∃ l, H1 d = some (.frz o (dnO w d l)) ∧ R (ItkN w d o l) H1)
def iValsD (w : World) (td : TE) : TI := fun σ H R => td σ H fun x H1 => ∃ d o, x = .ref d ∧ ((∃ kvs, H1 d = some (.frz o (.dK kvs)) ∧ R (Itd d o kvs) H1) ∨ ∃ l, H1 d = some (.frz o (dnO w d l)) ∧ R (ItdN w d o l) H1)
def iItemsD (w : World) (td : TE) : TI := fun σ H R => td σ H fun x H1 => ∃ d o, x = .ref d ∧ ((∃ kvs, H1 d = some (.frz o (.dK kvs)) ∧ R (Iti d o kvs) H1) ∨ ∃ l, H1 d = some (.frz o (dnO w d l)) ∧ R (ItiN w d o l) H1)
theorem pi_keysD (he : PE X e td) : PI X tg e (iKeysD X.w td) := by
  refine ⟨fun pins s σ H R I h => ?_⟩
  refine thn (he.run pins s σ H _ I h) fun u s1 ⟨x, H1, I1, rx, d, o, ex, q⟩ => ?_
  subst ex
  obtain rfl : u = Value.ref d := rx
  rcases q with ⟨kvs, hd, q⟩ | ⟨l, hd, q⟩
  · obtain ⟨hs, hgd, hx, es, ep, vs, hdt, hsz, kv, hm⟩ := I1.frzK hd
    refine iter_keys hs hgd hx hdt (pi_one (tk := s1.toks) I1 _ (turn_keys _ hdt) ⟨_, Heap.get?_push_size _ rfl, rfl, ?_⟩ q)
    rw [hsz] <;> rfl
  · obtain ⟨hs, hgd, hx, es, ep, hdt, hsz, ent⟩ := frzN I1 hd
    refine iter_keys hs hgd hx hdt (pi_one (tk := s1.toks) I1 _ (turn_keysN _ hdt) ⟨_, Heap.get?_push_size _ rfl, rfl, ?_⟩ q)
    rw [hsz] <;> rfl
theorem pi_itemsD {elts : List Expr} {kk : Nat} {tpos : Pos} (he : PE X e td) (hbase : attributeBase e "items" X.env (eval e X.env) = eval e X.env := by rfl) (hline : (apos.endLine == cpos.line) = true := by rfl) :
    PI X (.Tuple elts kk tpos) (.Call (.Attribute e "items" apos) [] [] cpos) (iItemsD X.w td) := by
  refine ⟨fun pins s σ H R I h => ?_⟩
  refine wpAny_Call_method (T := "dict") (id := "dict.items") hbase rfl hline F.plainAttrs_dict F.slot_dict_items F.type_dict_items (thn (he.run pins s σ H _ I h) fun u s1 ⟨x, H1, I1, rx, d, o, ex, q⟩ => ?_)
  subst ex
  obtain rfl : u = Value.ref d := rx
  have raw : ∃ es ep, (d == sysModules) = false ∧ s1.heap.get? d = some o ∧ o.ExactDict ∧ o.data = .dict es ep := by
    rcases q with ⟨kvs, hd, q⟩ | ⟨l, hd, q⟩
    · obtain ⟨hs, hgd, hx, es, ep, vs, hdt, _⟩ := I1.frzK hd; exact ⟨es, ep, hs, hgd, hx, hdt⟩
    · obtain ⟨hs, hgd, hx, es, ep, hdt, _⟩ := frzN I1 hd; exact ⟨es, ep, hs, hgd, hx, hdt⟩
  obtain ⟨es, ep, hs, hgd, hx, hdt⟩ := raw
  refine ⟨⟨o, hgd, hx.1⟩, fun b eb => by cases eb; exact ⟨o, hgd, hx.2.1⟩, ?_⟩
  have I2 : Inv X pins σ H1 { s1 with heap := s1.heap.push { cls := .type "dict_items", data := .fields #[.ref d] } } := I1.kept (t' := s1.toks) fun b ob q => Heap.get?_push_of_some _ q
  have fin : wpAny (model X.prog X.w) X.A (pyIter (.ref s1.heap.objs.size)) (PIE X pins σ (.Tuple elts kk tpos) R) X.xe { s1 with heap := s1.heap.push { cls := .type "dict_items", data := .fields #[.ref d] } } := by
    refine wpAny_pyIter_items_raw (d := d) ⟨_, Heap.get?_push_size _ rfl, rfl, rfl⟩ ⟨o, Heap.get?_push_of_some _ hgd, hx, hdt⟩ ?_
    rcases q with ⟨kvs, hd, q⟩ | ⟨l, hd, q⟩
    · obtain ⟨_, _, _, es', ep', vs, hdt', hsz, kv, hm⟩ := I1.frzK hd
      obtain ⟨rfl, rfl⟩ := dict_ep hdt hdt'
      refine pi_one (tk := s1.toks) I2 _ (turn_items _ hdt) ⟨.none, .none, ?_⟩ q
      rw [← hsz]
      exact Heap.get?_push_size _ rfl
    · obtain ⟨_, _, _, es', ep', hdt', hsz, ent⟩ := frzN I1 hd
      obtain ⟨rfl, rfl⟩ := dict_ep hdt hdt'
      refine pi_one (tk := s1.toks) I2 _ (turn_itemsN _ hdt) ⟨.none, .none, ?_⟩ q
      rw [← hsz]
      exact Heap.get?_push_size _ rfl
  show wpAny _ _ (callWith cpos (.builtin "dict.items") [.ref d] [] []) _ X.xe s1
  exact method_meetsIn F.slot_dict_items F.entry_dict_items rfl (PySem.evalArgs_none ⟨rfl, ⟨o, hgd, hx.1⟩, F.args_dict_items_1 _, _, meets_dict_items_raw d hs, ⟨es, ep, o, hgd, hx, hdt⟩, fin⟩)
theorem pi_valuesD (he : PE X e td) (hbase : attributeBase e "values" X.env (eval e X.env) = eval e X.env := by rfl) (hline : (apos.endLine == cpos.line) = true := by rfl) :
    PI X tg (.Call (.Attribute e "values" apos) [] [] cpos) (iValsD X.w td) := by
  refine ⟨fun pins s σ H R I h => ?_⟩
  refine wpAny_Call_method (T := "dict") (id := "dict.values") hbase rfl hline F.plainAttrs_dict F.slot_dict_values F.type_dict_values (thn (he.run pins s σ H _ I h) fun u s1 ⟨x, H1, I1, rx, d, o, ex, q⟩ => ?_)
  subst ex
  obtain rfl : u = Value.ref d := rx
  have raw : ∃ es ep, (d == sysModules) = false ∧ s1.heap.get? d = some o ∧ o.ExactDict ∧ o.data = .dict es ep := by
    rcases q with ⟨kvs, hd, q⟩ | ⟨l, hd, q⟩
    · obtain ⟨hs, hgd, hx, es, ep, vs, hdt, _⟩ := I1.frzK hd; exact ⟨es, ep, hs, hgd, hx, hdt⟩
    · obtain ⟨hs, hgd, hx, es, ep, hdt, _⟩ := frzN I1 hd; exact ⟨es, ep, hs, hgd, hx, hdt⟩
  obtain ⟨es, ep, hs, hgd, hx, hdt⟩ := raw
  refine ⟨⟨o, hgd, hx.1⟩, fun b eb => by cases eb; exact ⟨o, hgd, hx.2.1⟩, ?_⟩
  have I2 : Inv X pins σ H1 { s1 with heap := s1.heap.push { cls := .type "dict_values", data := .fields #[.ref d] } } := I1.kept (t' := s1.toks) fun b ob q => Heap.get?_push_of_some _ q
  have fin : wpAny (model X.prog X.w) X.A (pyIter (.ref s1.heap.objs.size)) (PIE X pins σ tg R) X.xe { s1 with heap := s1.heap.push { cls := .type "dict_values", data := .fields #[.ref d] } } := by
    refine wpAny_pyIter_values_raw (d := d) ⟨_, Heap.get?_push_size _ rfl, rfl, rfl⟩ ⟨o, Heap.get?_push_of_some _ hgd, hx, hdt⟩ ?_
    rcases q with ⟨kvs, hd, q⟩ | ⟨l, hd, q⟩
    · obtain ⟨_, _, _, es', ep', vs, hdt', hsz, kv, hm⟩ := I1.frzK hd
      obtain ⟨rfl, rfl⟩ := dict_ep hdt hdt'
      refine pi_one (tk := s1.toks) I2 _ (turn_vals _ hdt) ⟨_, Heap.get?_push_size _ rfl, rfl, ?_⟩ q
      rw [hsz] <;> rfl
    · obtain ⟨_, _, _, es', ep', hdt', hsz, ent⟩ := frzN I1 hd
      obtain ⟨rfl, rfl⟩ := dict_ep hdt hdt'
      refine pi_one (tk := s1.toks) I2 _ (turn_valsN _ hdt) ⟨_, Heap.get?_push_size _ rfl, rfl, ?_⟩ q
      rw [hsz] <;> rfl
  show wpAny _ _ (callWith cpos (.builtin "dict.values") [.ref d] [] []) _ X.xe s1
  exact method_meetsIn F.slot_dict_values F.entry_dict_values rfl (PySem.evalArgs_none ⟨rfl, ⟨o, hgd, hx.1⟩, F.args_dict_values_1 _, _, meets_dict_values_raw d hs, ⟨es, ep, o, hgd, hx, hdt⟩, fin⟩)
end
/-! what they give -/
theorem RepK.at {K : Kw} {G : Hp} : ∀ {l : List (Key × V)} {ds : List (PyData × PyData)}, RepK K G l ds → ∀ {i : Nat} {p : PyData × PyData}, ds[i]? = some p → ∃ k v, l[i]? = some (k, v) ∧ p.1 = keyD k ∧ Rep K G v p.2
  | _, _, .nil, i, _, e => by simp at e
  | _, _, .cons r t, 0, _, e => by simp at e; subst e; exact ⟨_, _, rfl, rfl, r⟩
  | _, _, .cons _ t, i + 1, _, e => by
    obtain ⟨k, v, h1, h2, h3⟩ := RepK.at t (i := i) (by simpa using e)
    exact ⟨k, v, by simpa using h1, h2, h3⟩
theorem RepN.at {K : Kw} {G : Hp} : ∀ {l : List (NestedKey × Addr × V)} {ds : List (PyData × PyData)}, RepN K G l ds → ∀ {i : Nat} {p : PyData × PyData}, ds[i]? = some p → ∃ k b v, l[i]? = some (k, b, v) ∧ Rep K G (.ref b) p.1 ∧ Rep K G v p.2
  | _, _, .nil, i, _, e => by simp at e
  | _, _, .cons ek rk r t, 0, _, e => by simp at e; subst e; exact ⟨_, _, _, rfl, rk, r⟩
  | _, _, .cons _ _ _ t, i + 1, _, e => by
    obtain ⟨k, b, v, h1, h2, h3⟩ := RepN.at t (i := i) (by simpa using e)
    exact ⟨k, b, v, by simpa using h1, h2, h3⟩
theorem rep_kV {K : Kw} {G : Hp} (k : Key) : Rep K G (kV k) (keyD k) := by
  cases k
  · exact .int _
  · exact .str _
section
variable {C : Cn} {B G : Hp} {d : Addr} {o : Obj} {ds : List (PyData × PyData)}
theorem gives_keys {l : List (Key × V)} (h : G d = some (.frz o (.dK l))) (r : RepK C.K G l ds) : Gives C B (Itk d o l) G (ds.map (·.1)) := by
  intro i G1 H1 g s _
  have hl : l.length = ds.length := r.length
  refine ⟨fun dd e => ?_, fun h1 h2 => ⟨s _ _ (g _ _ h), by simp at h1; omega⟩⟩
  rw [List.getElem?_map] at e
  cases ep : ds[i]? with
  | none => rw [ep] at e; cases e
  | some p =>
    rw [ep] at e; cases e
    obtain ⟨k, v, h1, h2, h3⟩ := r.at ep
    refine ⟨⟨s _ _ (g _ _ h), (List.getElem?_eq_some_iff.mp h1).1⟩, fun x H' y => ?_⟩
    obtain ⟨e1, k', v', e2, e3⟩ := y
    rw [h1] at e2; cases e2
    subst e1 e3
    exact ⟨G1, Stp.refl s, by show Rep C.K G1 (kV k) p.1; rw [h2]; exact rep_kV k⟩
theorem gives_keysN {l : List (NestedKey × Addr × V)} (h : G d = some (.frz o (dnO C.K.w d l))) (r : RepN C.K G l ds) : Gives C B (ItkN C.K.w d o l) G (ds.map (·.1)) := by
  intro i G1 H1 g s _
  have hl : l.length = ds.length := r.length
  refine ⟨fun dd e => ?_, fun h1 h2 => ⟨s _ _ (g _ _ h), by simp at h1; omega⟩⟩
  rw [List.getElem?_map] at e
  cases ep : ds[i]? with
  | none => rw [ep] at e; cases e
  | some p =>
    rw [ep] at e; cases e
    obtain ⟨k, b, v, h1, h2, h3⟩ := r.at ep
    refine ⟨⟨s _ _ (g _ _ h), (List.getElem?_eq_some_iff.mp h1).1⟩, fun x H' y => ?_⟩
    obtain ⟨e1, k', b', v', e2, e3⟩ := y
    rw [h1] at e2; cases e2
    subst e1 e3
    exact ⟨G1, Stp.refl s, h2.mono g⟩
theorem gives_vals {l : List (Key × V)} (h : G d = some (.frz o (.dK l))) (r : RepK C.K G l ds) : Gives C B (Itd d o l) G (ds.map (·.2)) := by
  intro i G1 H1 g s _
  have hl : l.length = ds.length := r.length
  refine ⟨fun dd e => ?_, fun h1 h2 => ⟨s _ _ (g _ _ h), by simp at h1; omega⟩⟩
  rw [List.getElem?_map] at e
  cases ep : ds[i]? with
  | none => rw [ep] at e; cases e
  | some p =>
    rw [ep] at e; cases e
    obtain ⟨k, v, h1, h2, h3⟩ := r.at ep
    refine ⟨⟨s _ _ (g _ _ h), (List.getElem?_eq_some_iff.mp h1).1⟩, fun x H' y => ?_⟩
    obtain ⟨e1, k', e2⟩ := y
    rw [h1] at e2; cases e2
    subst e1
    exact ⟨G1, Stp.refl s, h3.mono g⟩
theorem gives_valsN {l : List (NestedKey × Addr × V)} (h : G d = some (.frz o (dnO C.K.w d l))) (r : RepN C.K G l ds) : Gives C B (ItdN C.K.w d o l) G (ds.map (·.2)) := by
  intro i G1 H1 g s _
  have hl : l.length = ds.length := r.length
  refine ⟨fun dd e => ?_, fun h1 h2 => ⟨s _ _ (g _ _ h), by simp at h1; omega⟩⟩
  rw [List.getElem?_map] at e
  cases ep : ds[i]? with
  | none => rw [ep] at e; cases e
  | some p =>
    rw [ep] at e; cases e
    obtain ⟨k, b, v, h1, h2, h3⟩ := r.at ep
    refine ⟨⟨s _ _ (g _ _ h), (List.getElem?_eq_some_iff.mp h1).1⟩, fun x H' y => ?_⟩
    obtain ⟨e1, k', b', e2⟩ := y
    rw [h1] at e2; cases e2
    subst e1
    exact ⟨G1, Stp.refl s, h3.mono g⟩
def pairD (p : PyData × PyData) : PyData := .tuple [p.1, p.2]
theorem gives_items {l : List (Key × V)} (h : G d = some (.frz o (.dK l))) (r : RepK C.K G l ds) : Gives C B (Iti d o l) G (ds.map pairD) := by
  intro i G1 H1 g s _
  have hl : l.length = ds.length := r.length
  refine ⟨fun dd e => ?_, fun h1 h2 => ⟨s _ _ (g _ _ h), by simp at h1; omega⟩⟩
  rw [List.getElem?_map] at e
  cases ep : ds[i]? with
  | none => rw [ep] at e; cases e
  | some p =>
    rw [ep] at e; cases e
    obtain ⟨k, v, h1, h2, h3⟩ := r.at ep
    refine ⟨⟨s _ _ (g _ _ h), (List.getElem?_eq_some_iff.mp h1).1⟩, fun x H' y => ?_⟩
    obtain ⟨T, k', v', e2, e3, e4, e5⟩ := y
    rw [h1] at e2; cases e2
    subst e3 e5
    have st := Stp.new (o := .tup [kV k, v]) s e4
    exact ⟨_, st, .tup (.inl (.inl upd_same)) (.cons (by rw [h2]; exact rep_kV k) (.cons ((h3.mono g).mono st.g) .nil))⟩
theorem gives_itemsN {l : List (NestedKey × Addr × V)} (h : G d = some (.frz o (dnO C.K.w d l))) (r : RepN C.K G l ds) : Gives C B (ItiN C.K.w d o l) G (ds.map pairD) := by
  intro i G1 H1 g s _
  have hl : l.length = ds.length := r.length
  refine ⟨fun dd e => ?_, fun h1 h2 => ⟨s _ _ (g _ _ h), by simp at h1; omega⟩⟩
  rw [List.getElem?_map] at e
  cases ep : ds[i]? with
  | none => rw [ep] at e; cases e
  | some p =>
    rw [ep] at e; cases e
    obtain ⟨k, b, v, h1, h2, h3⟩ := r.at ep
    refine ⟨⟨s _ _ (g _ _ h), (List.getElem?_eq_some_iff.mp h1).1⟩, fun x H' y => ?_⟩
    obtain ⟨T, k', b', v', e2, e3, e4, e5⟩ := y
    rw [h1] at e2; cases e2
    subst e3 e5
    have st := Stp.new (o := .tup [.ref b, v]) s e4
    exact ⟨_, st, .tup (.inl (.inl upd_same)) (.cons ((h2.mono g).mono st.g) (.cons ((h3.mono g).mono st.g) .nil))⟩
end
section
variable {X : Cx} {a : Ax} {W : WX} {e tg : Expr} {apos pos : Pos}
def asDict (f : PyData × PyData → PyData) : PyData → Res (List PyData)
  | .dict ds => .ok (ds.map f)
  | _ => .stuck
def miD (f : PyData × PyData → PyData) (m : MD) : ML := fun δ => (m δ).bind (asDict f)
theorem di_keysD {m : MD} (h : DV X a W e m) : DI X a W tg e (miD (·.1) m) := by
  obtain ⟨t, p, s⟩ := h
  refine ⟨_, pi_keysD p, fun B G0 G H σ δ S R q => ?_⟩
  refine s B G0 G H σ δ S _ ?_
  have q' : ROk (cn X a) W σ G H (fun G' _ ds J => Gives (cn X a) B J G' ds) ((m δ).bind (asDict (·.1))) R := q
  generalize m δ = r at q'
  cases r with
  | stuck => exact q'.elim
  | exc x => exact q'
  | ok d =>
    intro v G' H' st rp
    cases rp with
    | dk h r => exact ⟨_, _, rfl, .inl ⟨_, st.gh _ _ h, q' _ G' H' st (gives_keys (C := cn X a) h r)⟩⟩
    | dn h _ r => exact ⟨_, _, rfl, .inr ⟨_, st.gh _ _ h, q' _ G' H' st (gives_keysN (C := cn X a) h r)⟩⟩
    | lst _ _ => exact q'.elim
    | tup _ _ => exact q'.elim
    | non => exact q'.elim
    | bl _ => exact q'.elim
    | int _ => exact q'.elim
    | str _ => exact q'.elim
theorem di_valuesD {m : MD} (h : DV X a W e m) (hbase : attributeBase e "values" X.env (eval e X.env) = eval e X.env := by rfl) (hline : (apos.endLine == pos.line) = true := by rfl) : DI X a W tg (.Call (.Attribute e "values" apos) [] [] pos) (miD (·.2) m) := by
  obtain ⟨t, p, s⟩ := h
  refine ⟨_, pi_valuesD p hbase hline, fun B G0 G H σ δ S R q => ?_⟩
  refine s B G0 G H σ δ S _ ?_
  have q' : ROk (cn X a) W σ G H (fun G' _ ds J => Gives (cn X a) B J G' ds) ((m δ).bind (asDict (·.2))) R := q
  generalize m δ = r at q'
  cases r with
  | stuck => exact q'.elim
  | exc x => exact q'
  | ok d =>
    intro v G' H' st rp
    cases rp with
    | dk h r => exact ⟨_, _, rfl, .inl ⟨_, st.gh _ _ h, q' _ G' H' st (gives_vals (C := cn X a) h r)⟩⟩
    | dn h _ r => exact ⟨_, _, rfl, .inr ⟨_, st.gh _ _ h, q' _ G' H' st (gives_valsN (C := cn X a) h r)⟩⟩
    | lst _ _ => exact q'.elim
    | tup _ _ => exact q'.elim
    | non => exact q'.elim
    | bl _ => exact q'.elim
    | int _ => exact q'.elim
    | str _ => exact q'.elim
theorem di_itemsD {m : MD} {elts : List Expr} {kk : Nat} {tpos : Pos} (h : DV X a W e m) (hbase : attributeBase e "items" X.env (eval e X.env) = eval e X.env := by rfl) (hline : (apos.endLine == pos.line) = true := by rfl) : DI X a W (.Tuple elts kk tpos) (.Call (.Attribute e "items" apos) [] [] pos) (miD pairD m) := by
  obtain ⟨t, p, s⟩ := h
  refine ⟨_, pi_itemsD p hbase hline, fun B G0 G H σ δ S R q => ?_⟩
  refine s B G0 G H σ δ S _ ?_
  have q' : ROk (cn X a) W σ G H (fun G' _ ds J => Gives (cn X a) B J G' ds) ((m δ).bind (asDict pairD)) R := q
  generalize m δ = r at q'
  cases r with
  | stuck => exact q'.elim
  | exc x => exact q'
  | ok d =>
    intro v G' H' st rp
    cases rp with
    | dk h r => exact ⟨_, _, rfl, .inl ⟨_, st.gh _ _ h, q' _ G' H' st (gives_items (C := cn X a) h r)⟩⟩
    | dn h _ r => exact ⟨_, _, rfl, .inr ⟨_, st.gh _ _ h, q' _ G' H' st (gives_itemsN (C := cn X a) h r)⟩⟩
    | lst _ _ => exact q'.elim
    | tup _ _ => exact q'.elim
    | non => exact q'.elim
    | bl _ => exact q'.elim
    | int _ => exact q'.elim
    | str _ => exact q'.elim
end
end DL
/-! DLu: the order of tuples of ints; rows for simp -/
namespace DL
open PySem L2
def rLtG (K : PySem.W.Frag) : R2 := fun x y H Q => rI0 (fun i j => .bl (decide (i < j))) x y H Q ∨ rLtT K x y H Q
theorem op_ltG {X : Cx} {k : Nat} (hr : Room k X.A) : OpR X (compareOp .Lt) (rLtG X.K) := op_lt.or (op_ltT hr.units0)
def ltG : PyData → PyData → Res Slot
  | .int i, .int j => okB (decide (i < j))
  | .tuple x, .tuple y => match intsOf x with
    | some ns => match intsOf y with
      | some ms => okB (HT.lexLt ns ms)
      | none => .stuck
    | none => .stuck
  | _, _ => .stuck
theorem ltG_ok {K : Kw} : OpS K (rLtG K) ltG := by
  intro G H x y d e s Q g rx ry ef q
  unfold ltG at ef
  split at ef
  · cases ef
    cases rdr_int rx; cases rdr_int ry
    exact .inl ⟨_, _, rfl, rfl, q _ G H (Stp.refl g) (Rep.bl _)⟩
  · split at ef
    · rename_i ns hn
      split at ef
      · rename_i ms hm
        cases ef
        obtain ⟨a, xs, e1, q1, r1⟩ := rdr_tup g rx
        obtain ⟨b, ys, e2, q2, r2⟩ := rdr_tup g ry
        rw [intsOf_eq hn] at r1
        rw [intsOf_eq hm] at r2
        rw [repL_ints r1] at q1
        rw [repL_ints r2] at q2
        exact .inr ⟨a, b, ns, ms, e1, e2, q1, q2, q _ G H (Stp.refl g) (Rep.bl _)⟩
      · cases ef
    · cases ef
  · cases ef
theorem ltG_ne : NoExc ltG := fun d e x => by
  unfold ltG
  split <;> (try split) <;> (try split) <;> (intro h; cases h)
/-! rows -/
section
variable {δ : DEnv} {ma mb mk mv : MD} {ml : ML} {ds : List (PyData × PyData)} {i : Nat}
@[simp] theorem ltG_int {a b : Int} : ltG (.int a) (.int b) = .ok (.val (.bool (decide (a < b)))) := (rfl)
theorem ltG_tup {a b : List Int} : ltG (.tuple (a.map PyData.int)) (.tuple (b.map PyData.int)) = .ok (.val (.bool (HT.lexLt a b))) := by
  show (match intsOf (a.map PyData.int) with
    | some ns => match intsOf (b.map PyData.int) with
      | some ms => okB (HT.lexLt ns ms)
      | none => .stuck
    | none => .stuck) = _
  rw [intsOf_map, intsOf_map]
  rfl
@[simp] theorem gxF_dict {k : PyData} : gxF (.dict ds) k = if keyAt ds k = true then (match dget ds k with | some d => .ok (.val d) | none => .stuck) else .stuck := (rfl)
@[simp] theorem gxF_list {xs : List PyData} {k : PyData} : gxF (.list xs) k = ixF (.list xs) k := (rfl)
@[simp] theorem gxF_tup {xs : List PyData} {k : PyData} : gxF (.tuple xs) k = ixF (.tuple xs) k := (rfl)
@[simp] theorem gxF_str {x : Str} {k : PyData} : gxF (.str x) k = ixF (.str x) k := (rfl)
@[simp] theorem inG_dict {neg : Bool} {k : PyData} : inG neg k (.dict ds) = if keyAt ds k = true then .ok (.val (.bool (neg != (dget ds k).isSome))) else .stuck := (rfl)
@[simp] theorem lenG_dict : lenG [.dict ds] = .ok (.val (.int (ds.length : Int))) := (rfl)
@[simp] theorem lenG_list {xs : List PyData} : lenG [.list xs] = .ok (.val (.int (xs.length : Int))) := (rfl)
@[simp] theorem lenG_tup {xs : List PyData} : lenG [.tuple xs] = .ok (.val (.int (xs.length : Int))) := (rfl)
@[simp] theorem mGet_ap : mGet ma ml δ = (ma δ).bind fun d => (match d with
  | .dict ds => (ml δ).bind fun ks => getF (.dict ds) ks
  | _ => .stuck) := (rfl)
@[simp] theorem getF_1 {k : PyData} : getF (.dict ds) [k] = if keyAt ds k = true then .ok (.val ((dget ds k).getD .none)) else .stuck := (rfl)
@[simp] theorem getF_2 {k z : PyData} : getF (.dict ds) [k, z] = if keyAt ds k = true then .ok (.val ((dget ds k).getD z)) else .stuck := (rfl)
@[simp] theorem mSetI_ap : mSetI i mk mv δ = (mv δ).out δ fun v => if isO δ[i]? = true then (mk δ).out δ fun k => setI i δ k v else .stuck := (rfl)
@[simp] theorem setI_ap {k v : PyData} : setI i δ k v = (match δ[i]? with
  | some (some (.own (.list ds))) => (match k with
    | .int j => (match ixN ds.length j with
      | some n => .nx (δ.set i (some (.own (.list (ds.set n v)))))
      | none => .stuck)
    | _ => .stuck)
  | some (some (.own (.dict ds))) => if keyAt ds k = true ∧ ds.length < sizeLine then .nx (δ.set i (some (.own (.dict (dput ds k v))))) else .stuck
  | _ => .stuck) := (rfl)
@[simp] theorem miD_ap {f : PyData × PyData → PyData} : miD f ma δ = (ma δ).bind (asDict f) := (rfl)
@[simp] theorem asDict_dict {f : PyData × PyData → PyData} : asDict f (.dict ds) = .ok (ds.map f) := (rfl)
@[simp] theorem frz_own {d : PyData} (e : δ[i]? = some (some (.own d))) : frz i δ = δ.set i (some (.val d)) := by
  unfold frz; rw [e]
theorem ixN_of {n j : Nat} (h : j < n) : ixN n (j : Int) = some j := by
  unfold ixN
  rw [if_pos (by omega)]
  simp [h]
end
end DL
/-! DLv: list(d) of a dict -/
namespace DL
open PySem L2
section
variable {X : Cx}
def rListDD (K : Kw) : List V → Hp → VK → Prop := fun xs H Q => ∃ G a ds, xs = [.ref a] ∧ Same G H ∧ DcV K G H a ds ∧ ∀ vs l, RepL K G vs (ds.map (·.1)) → H l = none → Q (.ref l) (upd H l (.lst vs))
theorem repK_keys {K : Kw} {G : Hp} : ∀ {l : List (Key × V)} {ds : List (PyData × PyData)}, RepK K G l ds → RepL K G (l.map fun kv => kV kv.1) (ds.map (·.1))
  | _, _, .nil => .nil
  | _, _, .cons _ t => .cons (rep_kV _) (repK_keys t)
theorem repN_keys {K : Kw} {G : Hp} : ∀ {l : List (NestedKey × Addr × V)} {ds : List (PyData × PyData)}, RepN K G l ds → RepL K G (l.map fun p => V.ref p.2.1) (ds.map (·.1))
  | _, _, .nil => .nil
  | _, _, .cons _ r _ t => .cons r (repN_keys t)
theorem call_listDD (hc : X.calm = true) : CallR X (.type "list") (rListDD X.kw) := by
  intro pins s σ H xs us Q I r h
  obtain ⟨G, p, ds, e, g, D, q⟩ := h
  subst e
  obtain ⟨u, eu, rx⟩ := vals1 r
  subst eu
  obtain rfl : u = Value.ref p := rx
  rcases D with ⟨l, hl, rk⟩ | ⟨l, hl, z, rn⟩
  · obtain ⟨z, lo, vs, rv, hd⟩ := dk_rd I.hok hl
    obtain ⟨ep, hat⟩ := hd.dictAt
    have hl2 : l.length = vs.length := Paired.length rv
    refine PySem.W.kdl_call (PySem.W.kdl_dict (knd := mixKind X.prog X.w) (kvs := vs) (ep := ep) lo) (I.ok.hd hc) hat (by rw [← hl2]; exact z) fun h' tk acc' c' hkeep hS hacc => ?_
    refine ⟨.ref s.heap.objs.size, upd H s.heap.objs.size (.lst (l.map fun kv => kV kv.1)), I.laid hkeep (Nat.le_refl _) (show ObjOk X.prog X.w _ _ _ (.lst (l.map fun kv => kV kv.1)) from ⟨?_, acc'.toList, c', ?_, ?_⟩), rfl, q _ _ (repK_keys rk) (I.hok.fresh (Nat.le_refl _))⟩
    · rw [List.length_map]; exact z
    · have el : acc'.toList.length = acc'.size := by simp
      refine vals_of_at (by rw [List.length_map, el, hacc.1, hl2]) fun j x w h1 h2 => ?_
      obtain ⟨k, y, hky, hi⟩ := hacc.2 j w (by rw [← Array.getElem?_toList]; exact h2)
      have e1 : (l.map (·.1))[j]? = some k := by
        rw [KV.keys rv, List.getElem?_map, hky] <;> rfl
      have e2 : (l.map fun kv => kV kv.1)[j]? = some (kV k) := by
        have e3 : (l.map fun kv => kV kv.1) = (l.map (·.1)).map kV := by rw [List.map_map] <;> rfl
        rw [e3, List.getElem?_map, e1] <;> rfl
      rw [e2] at h1
      cases h1
      exact keyIs_rel hi
    · rw [Array.toArray_toList]; exact hS
  · obtain ⟨lo, xs, o, es, ep, px, ho, hx, hdat, hes, _⟩ := dn_of I.hok hl
    have l1 : es.size = xs.length := by rw [← Array.length_toList, hes, List.length_map]
    have l2 : l.length = xs.length := Paired.length px
    refine PySem.W.kdl_call (kdl_raw lo hx hdat) (I.ok.hd hc) ho (by rw [l1, ← l2]; exact z) fun h' tk acc' c' hkeep hS hacc => ?_
    refine ⟨.ref s.heap.objs.size, upd H s.heap.objs.size (.lst (l.map fun p => V.ref p.2.1)), I.laid hkeep (Nat.le_refl _) (show ObjOk X.prog X.w _ _ _ (.lst (l.map fun p => V.ref p.2.1)) from ⟨?_, acc'.toList, c', ?_, ?_⟩), rfl, q _ _ (repN_keys rn) (I.hok.fresh (Nat.le_refl _))⟩
    · rw [List.length_map]; exact z
    · have el : acc'.toList.length = acc'.size := by simp
      refine vals_of_at (by rw [List.length_map, el, hacc.1, l1, l2]) fun j x w h1 h2 => ?_
      obtain ⟨en, hen, hw⟩ := hacc.2 j w (by rw [← Array.getElem?_toList]; exact h2)
      rw [List.getElem?_map] at h1
      cases ej : l[j]? with
      | none => rw [ej] at h1; cases h1
      | some kbv =>
        obtain ⟨k, b, v⟩ := kbv
        rw [ej] at h1
        cases h1
        obtain ⟨q', hq, e1, e2, e3⟩ := paired_at px ej
        have e4 : es[j]? = some ⟨q'.1.hash X.w, .ref q'.2.1, q'.2.2⟩ := by
          rw [← Array.getElem?_toList, hes, List.getElem?_map, hq]; rfl
        rw [e4] at hen
        cases hen
        subst hw
        show RelV (V.ref b) (Value.ref q'.2.1)
        rw [← e2]
        rfl
    · rw [Array.toArray_toList]; exact hS
def listG : List PyData → Res Slot
  | [.dict ds] => .ok (.own (.list (ds.map (·.1))))
  | ds => listF ds
theorem listG_ok {K : Kw} : CallS K (fun xs H Q => rListDD K xs H Q ∨ ∃ p ys, xs = [.ref p] ∧ (SqL K H p ys ∨ SqT K H p ys) ∧ ∀ l, H l = none → Q (.ref l) (upd H l (.lst ys))) listG := by
  refine ⟨fun G H vs ds s Q g rd ef q => ?_, fun ds x => ?_⟩
  · unfold listG at ef
    split at ef
    · rename_i d
      cases ef
      obtain ⟨v, ev, r⟩ := rdl1 rd
      obtain ⟨b, rfl, D⟩ := rdr_dc g r
      refine .inl ⟨G, b, d, ev, g, D, fun vs l rv hl => ?_⟩
      exact new_list g rv q l hl
    · exact .inr (listF_ok.1 G H vs ds s Q g rd ef q)
  · unfold listG
    split
    · intro h; cases h
    · exact (listF_ok (K := K)).2 ds x
theorem call_listG (hc : X.calm = true) : CallR X (.type "list") (fun xs H Q => rListDD X.kw xs H Q ∨ ∃ p ys, xs = [.ref p] ∧ (SqL X.K H p ys ∨ SqT X.K H p ys) ∧ ∀ l, H l = none → Q (.ref l) (upd H l (.lst ys))) := (call_listDD hc).or call_list_of
@[simp] theorem listG_dict {ds : List (PyData × PyData)} : listG [.dict ds] = .ok (.own (.list (ds.map (·.1)))) := (rfl)
end
end DL
namespace DL
open PySem L2
section
variable {X : Cx} {a : Ax} {W : WX} {pos : Pos}
/-- a, b = x, y stored from the right, without the pair -/
def parS (i j : Nat) (δ : DEnv) (ds : List PyData) : Out := match ds with
  | [d, e] => .nx ((δ.set i (some (.val d))).set j (some (.val e)))
  | _ => .stuck
def mPar (i j : Nat) (m : ML) : MS := fun δ => (m δ).out δ (parS i j δ)
theorem ds_par {i j : Nat} {x y : Str} {e1 e2 : Expr} {px py pt : Pos} {kt k2 pt2} {m : ML} (hc : X.calm = true) (hf : a.free i) (hf2 : a.free j) (hN : X.N.Nodup) (hi : X.N[i]? = some x) (hj : X.N[j]? = some y) (hij : i ≠ j)
    (hx : X.env.scope.names.lookup x = some .local) (hy : X.env.scope.names.lookup y = some .local) (h : DA X a W [e1, e2] m)
    (hw : swappedStores [.Tuple [.Name x px, .Name y py] kt pt] (.Tuple [e1, e2] k2 pt2) X.env = pure (some [x, y]) := by rfl)
    (hs : swapsWithSole [.Tuple [.Name x px, .Name y py] kt pt] (.Tuple [e1, e2] k2 pt2) pos.line X.env = pure false := by rfl) :
    DS X a W (.Assign [.Tuple [.Name x px, .Name y py] kt pt] (.Tuple [e1, e2] k2 pt2) pos) (mPar i j m) := by
  obtain ⟨t, p, s⟩ := h
  refine ⟨_, ps_par hc hN hi hj hij hx hy p hw hs, fun B G0 G H σ δ D S k => ?_⟩
  refine snd_out s S (R := fun vs H1 => ∃ v w, vs = [v, w] ∧ D.nx ((σ.set i (some v)).set j (some w)) H1) (f := parS i j δ) k fun ds vs G' H' _ st r k => ?_
  have k' : OOk (cn X a) W B G0 D (parS i j δ ds) := k
  unfold parS at k'
  split at k'
  · cases r with
    | cons r1 r =>
      cases r with
      | cons r2 r =>
        cases r
        exact ⟨_, _, rfl, k' _ _ _ (((S.step st).setVal (C := cn X a) hf r1).setVal (C := cn X a) hf2 r2)⟩
  · exact k'.elim
@[simp] theorem mPar_ap {i j : Nat} {m : ML} {δ : DEnv} : mPar i j m δ = (m δ).out δ (parS i j δ) := (rfl)
@[simp] theorem parS_ap {i j : Nat} {δ : DEnv} {d e : PyData} : parS i j δ [d, e] = .nx ((δ.set i (some (.val d))).set j (some (.val e))) := (rfl)
end
end DL
/-! DLw: how many unlike texts a list has -/
namespace DL
/-- unlike ones among the first i -/
def unl (xs : List PySem.Str) : Nat → Nat
  | 0 => 0
  | i + 1 => if xs.getD i PySem.Str.empty ∈ xs.take i then unl xs i else unl xs i + 1
theorem unl_succ (xs : List PySem.Str) (i : Nat) : unl xs (i + 1) = if xs.getD i PySem.Str.empty ∈ xs.take i then unl xs i else unl xs i + 1 := rfl
theorem unl_le (xs : List PySem.Str) : ∀ i, unl xs i ≤ i
  | 0 => Nat.le_refl 0
  | i + 1 => by
    have := unl_le xs i
    unfold unl
    split <;> omega
theorem unl_all {xs : List PySem.Str} : ∀ i, i ≤ xs.length → (unl xs i = i ↔ (xs.take i).Nodup)
  | 0, _ => by simp [unl]
  | i + 1, h => by
    have ih := unl_all (xs := xs) i (by omega)
    have hl := unl_le xs i
    have hi : i < xs.length := by omega
    have e : xs.take (i + 1) = xs.take i ++ [xs[i]] := by rw [List.take_add_one, List.getElem?_eq_getElem hi]; rfl
    have e2 : xs.getD i PySem.Str.empty = xs[i] := by rw [List.getD_eq_getElem?_getD, List.getElem?_eq_getElem hi]; rfl
    rw [unl_succ, e, e2, List.nodup_append]
    by_cases m : xs[i] ∈ xs.take i
    · rw [if_pos m]
      refine ⟨fun q => by omega, fun q => absurd rfl (q.2.2 _ m _ (by simp))⟩
    · rw [if_neg m]
      refine ⟨fun q => ⟨ih.1 (by omega), by simp, fun a ha b hb z => ?_⟩, fun q => by rw [ih.2 q.1]⟩
      rw [List.mem_singleton] at hb
      subst hb z
      exact m ha
theorem unl_nodup {xs : List PySem.Str} : unl xs xs.length = xs.length ↔ xs.Nodup := by
  have := unl_all (xs := xs) xs.length (Nat.le_refl _)
  rwa [List.take_length] at this
end DL
namespace DL
open PySem PySem.Spec PyProof.Rows
section
variable {prog : Program} {w : World} {A : Around} {R : Result → Shared → Prop} {I : Addr} {fp wr : List Addr} {G : Array GenState → Array GenState → Prop} {n : Nat} {P : Nat → Value → Prop} {St : Nat → Shared → Prop}
abbrev SetT (prog : Program) (w : World) (h : Heap) (S : Addr) (xs : List Str) (i : Nat) : Prop := h.SetOf (PySem.strKind prog w) S (fun k => decide (k ∈ xs.take i)) (unl xs i)
theorem SetT.to {h h' : Heap} {S : Addr} {xs : List Str} {i : Nat} (q : SetT prog w h S xs i) (k : ∀ o, h.get? S = some o → h'.get? S = some o) : SetT prog w h' S xs i := by
  obtain ⟨o, es, ep, t, ho, rest⟩ := q
  exact ⟨o, es, ep, t, k o ho, rest⟩
/-- what update does with a list of texts -/
theorem upd_texts (W : WalksS prog w A.in1 I fp wr G n P St) (S : Addr) (hSf : S ∉ fp) (xs : List Str) (hsz : xs.length = n) (hb : n + 1 < scanBound) (hval : ∀ i v, P i v → ∃ t, v = .str (xs.getD i Str.empty) t) :
    ∀ (k i : Nat) (s : Shared), n - i = k → i ≤ n → St i s → SetT prog w s.heap S xs i →
      (∀ s', Moved (S :: wr) G s s' → SetT prog w s'.heap S xs n → R (.ok (.ret .none)) s') →
      codeAny (model prog w) A (.builtin "set.update.loop" ⟨[.ref S, .ref I], []⟩) R s := by
  have out : S ∉ wr := fun h => hSf (W.sub _ h)
  have more : ∀ b ∈ wr, b ∈ S :: wr := fun b hb => List.mem_cons_of_mem _ hb
  intro k
  induction k with
  | zero =>
    intro i s hk hi hst hS hR
    obtain rfl : i = n := by omega
    refine codeAny_builtin PyProof.Rows.F.entry_set_update_loop ?_
    rw [Around.under_plainId PyProof.Rows.F.plain_set_update_loop _]
    show wpAny _ A.in1 (pyNext (.ref I) >>= _) _ _ s
    exact wpAny_bind (W.done s _ _ hst fun s' hm => wpAny_pure (hR s' (hm.mono more) (hS.to fun o e => hm.heap S _ out e)))
  | succ k ih =>
    intro i s hk hi hst hS hR
    have hlt : i < n := by omega
    refine codeAny_builtin PyProof.Rows.F.entry_set_update_loop ?_
    rw [Around.under_plainId PyProof.Rows.F.plain_set_update_loop _]
    show wpAny _ A.in1 (pyNext (.ref I) >>= _) _ _ s
    refine wpAny_bind (W.item i s _ _ hlt hst fun v s' hP hst' hm => ?_)
    obtain ⟨t, rfl⟩ := hval i v hP
    have hS' : SetT prog w s'.heap S xs i := hS.to fun o e => hm.heap S _ out e
    show wpAny _ A.in1 (holding [Value.str (xs.getD i Str.empty) t] (setAdd S (.str (xs.getD i Str.empty) t)) >>= _) _ _ s'
    refine wpAny_bind (wpAny_holding ?_)
    unfold setAdd
    refine wpAny_holding (wpAny_bind ((PySem.strKind prog w).pyHash (k := xs.getD i Str.empty) (strKind_is _ _ _ _) ?_))
    refine wpAny_setAddHashed_of (knd := PySem.strKind prog w) (s := { s' with toks := s'.toks + 1 }) (strKind_is _ _ _ _) rfl hS' (by have := unl_le xs i; omega) fun h' hsb hS2 => ?_
    have hnext : SetT prog w h' S xs (i + 1) := by
      have hi2 : i < xs.length := by omega
      have e : xs.take (i + 1) = xs.take i ++ [xs.getD i Str.empty] := by rw [List.take_add_one, List.getElem?_eq_getElem hi2, List.getD_eq_getElem?_getD, List.getElem?_eq_getElem hi2]; rfl
      refine SetOf_congr hS2 (fun k' => ?_) (by rw [unl_succ]; by_cases m : xs.getD i Str.empty ∈ xs.take i <;> simp only [m, decide_true, decide_false, if_true, if_false, Bool.false_eq_true])
      rw [e]
      by_cases m1 : k' ∈ xs.take i <;> by_cases m2 : k' = xs.getD i Str.empty <;> simp [m1, m2]
    refine wpAny_pure ⟨plainId_quiet PyProof.Rows.F.plain_set_update_loop _, ih (i + 1) _ (by omega) hlt (W.frame _ s' _ _ hst' (Nat.le_succ _) fun b hb o e => (hsb.2 b (fun h : b = S => hSf (by rw [← h]; exact hb))).trans e) hnext fun s'' hm'' hS'' => ?_⟩
    exact hR s'' (Moved.trans W.gtrans ((hm.mono more).then_heap (Nat.le_succ _) fun b o hb e => (hsb.2 b (fun h : b = S => hb (by rw [h]; exact List.mem_cons_self))).trans e) hm'') hS''
end
section
variable {prog : Program} {w : World} {A : Around} {E : Value → Shared → Prop} {s : Shared}
set_option maxHeartbeats 3200000 in
/-- set(xs), of a list of texts -/
theorem call_set_texts {l : Addr} {items : Array Value} {xs : List Str} {Q : Value → Shared → Prop} (hh : A.handled = none) (hl : s.heap.IsList l items) (hi : PyProof.Rows.StrsAre items.toList xs) (hb : xs.length + 1 < scanBound)
    (h : ∀ (h' : Heap) (tk : Nat), SetT prog w h' s.heap.objs.size xs xs.length → (∀ b o, b < s.heap.objs.size → s.heap.get? b = some o → h'.get? b = some o) → Q (.ref s.heap.objs.size) { s with heap := h', toks := tk }) :
    wpAny (model prog w) A (call (.type "set") [.ref l]) Q E s := by
  have hsz : xs.length = items.size := by rw [← StrsAre.len_eq hi, Array.length_toList]
  obtain ⟨c, tl, hmro⟩ := PySem.F.called_set.mro
  have hmade := PySem.F.called_set.made
  have hsub := PySem.F.called_set.sub
  refine wpAny_call (codeAny_of_tree ?_)
  show wpAny _ _ (callAny (.type "set") _) _ _ _
  refine wpAny_pure ⟨Code.quiet_builtin _ (by decide +kernel), codeAny_builtin PySem.F.entry_type_call ?_⟩
  rw [Around.under_plain (weight_type_call_type "set" [.ref l] []) rfl]
  have h1 := PySem.F.called_set.notType
  have h2 := PySem.F.called_set.canCreate
  have hct := PySem.F.typeCall_set_1 (.ref l)
  repeat (any_goals (first | assumption | wp_step))
  refine codeAny_mono (code_set_new_1 (.ref l) (E := E) (Q₁ := fun obj s₁ => ∃ led : Bool, obj = .ref s.heap.objs.size ∧ s₁ = { s with heap := s.heap.push { cls := .type "set", dict := none, data := .set #[] 0 (.fresh 0 0 led) } }) fun led => ⟨led, rfl, rfl⟩) fun r s₁ hr => ?_
  cases r with
  | error e => exact hr
  | ok fl =>
    cases fl with
    | ret obj =>
      obtain ⟨led, rfl, rfl⟩ := hr
      have hS : (s.heap.push { cls := .type "set", dict := none, data := .set #[] 0 (.fresh 0 0 led) }).get? s.heap.objs.size = some { cls := .type "set", dict := none, data := .set #[] 0 (.fresh 0 0 led) } := Heap.get?_push_size _ rfl
      have hT : Shared.TypeIs { s with heap := s.heap.push { cls := .type "set", dict := none, data := .set #[] 0 (.fresh 0 0 led) } } (.ref s.heap.objs.size) "set" := ⟨_, hS, rfl⟩
      have hli := PySem.F.called_set.init.lookup
      have hbi := PySem.F.called_set.init.bind (.ref s.heap.objs.size)
      repeat (any_goals (first | assumption | wp_step))
      refine codeAny_mono (codeAny_call_builtin (R := wants (fun r s₂ => r = .none ∧ ∃ h' tk, s₂ = { s with heap := h', toks := tk } ∧ SetT prog w h' s.heap.objs.size xs xs.length ∧ (∀ b o, b < s.heap.objs.size → s.heap.get? b = some o → h'.get? b = some o)) E) PySem.F.called_set.init.plain PySem.F.entry_set_init (check_set_init_1 hT ?_)) fun r₂ s₂ hr₂ => ?_
      · obtain ⟨⟨ocls, odict, odata, oslots⟩, hol, hcl, nl, hdl⟩ := hl
        simp only at hcl hdl
        subst hcl; subst hdl
        have hol' : (s.heap.push { cls := .type "set", dict := none, data := .set #[] 0 (.fresh 0 0 led) }).get? l = some { cls := .type "list", dict := odict, data := .seq items nl, slots := oslots } := Heap.get?_push_of_some _ hol
        have hsls := PySem.F.sub_list_set
        have hslf := PySem.F.sub_list_frozenset
        have hne : (Value.type "list" == Value.type "dict") = false := by decide
        have hl1 : (s.heap.push { cls := .type "set", dict := none, data := .set #[] 0 (.fresh 0 0 led) }).IsList l items := ⟨_, hol', rfl, nl, rfl⟩
        unfold Builtin.«set.__init__» noKeywords Builtin.Frozenset.updateFrom
        generalize hPI : pyIter = PI
        wp_walk
        subst hPI
        refine wpAny_pyIter_list hl1 (wpAny_bind (wpAny_runValue ?_))
        have hlS : l < s.heap.objs.size := Heap.lt_size hol
        have hneI : l ≠ (s.heap.push { cls := .type "set", dict := none, data := .set #[] 0 (.fresh 0 0 led) }).objs.size := by
          rw [Heap.size_push]; exact Nat.ne_of_lt (Nat.lt_succ_of_lt hlS)
        have hSf : s.heap.objs.size ∉ [(s.heap.push { cls := .type "set", dict := none, data := .set #[] 0 (.fresh 0 0 led) }).objs.size, l] := by
          rw [Heap.size_push]; simp only [List.mem_cons, List.not_mem_nil, or_false, not_or]
          exact ⟨Nat.ne_of_lt (Nat.lt_succ_self _), Nat.ne_of_gt hlS⟩
        refine upd_texts ((Walks.list (by simp [hh]) _ l hneI items).toS) s.heap.objs.size hSf xs hsz (by rw [← hsz]; exact hb) (fun i v hv => SS.strs_at hi i v (by rw [Array.getElem?_toList]; exact hv)) (items.size - 0) 0 _ (by omega) (Nat.zero_le _)
          ⟨⟨_, Heap.get?_push_size _ rfl, rfl, rfl⟩, (hl1.push _)⟩ ?hS0 ?hR
        case hS0 =>
          exact PyProof.Rows.SetOf_congr ((PyProof.Rows.setObjOf_fresh (knd := PySem.strKind prog w) led).setOf (Heap.get?_push_of_some _ hS) (by unfold scanBound; omega)) (fun _ => by simp) rfl
        case hR =>
          rintro ⟨h', g', d', tk', os'⟩ hm hS'
          obtain rfl : g' = s.gens := hm.gens
          obtain rfl : d' = s.drawn := hm.drawn
          obtain rfl : os' = s.os := hm.os
          show wpAny _ _ _ _ _ _
          refine wpAny_pure ?_
          show wpAny _ _ (ret Value.none) _ _ _
          refine wpAny_pure ⟨rfl, h', tk', rfl, by rw [hsz]; exact hS', fun b o hb e => hm.heap b o ?_ (Heap.get?_push_of_some _ (Heap.get?_push_of_some _ e))⟩
          simp only [List.mem_cons, List.not_mem_nil, or_false, not_or]
          exact ⟨Nat.ne_of_lt hb, by rw [Heap.size_push]; exact Nat.ne_of_lt (Nat.lt_succ_of_lt hb)⟩
      · cases r₂ with
        | error e => exact hr₂
        | ok fl₂ =>
          cases fl₂ with
          | ret r =>
            obtain ⟨rfl, h', tk, rfl, hS', hk'⟩ := hr₂
            repeat (any_goals (first | assumption | wp_step))
            exact h _ _ hS' hk'
          | _ => exact hr₂.elim
    | _ => exact hr.elim
end
end DL
namespace DL
open PySem PySem.Spec PyProof.Rows L2
section
variable {X : Cx}
def tLenSetT (K : PySem.W.Frag) (ta : TE) : TE := fun σ H Q => ta σ H fun x H1 => ∃ l, ∃ xs : List Str, x = .ref l ∧ SqL K H1 l (xs.map V.str) ∧ xs.length ≤ 1000 ∧ Q (.int (unl xs xs.length : Nat)) H1
theorem pe_lenSetT {a : Expr} {ta : TE} {p p2 q pos : Pos} (hc : X.calm = true) (hg : Gl X "len") (hm : X.mg "len" = none) (hg2 : Gl X "set") (hm2 : X.mg "set" = none) (ha : PE X a ta)
    (na : starEach [a] X.env = (false, eval a X.env) :: starEach [] X.env := by rfl) : PE X (.Call (.Name "len" p) [.Call (.Name "set" p2) [a] [] q] [] pos) (tLenSetT X.K ta) := by
  refine ⟨fun pins s σ H Q I h => ?_⟩
  refine Call_ (ld_blt I hg hm boot_len ?_)
  refine PyProof.Rows.callWith_builtin1 (PyProof.Rows.args_cons ?_ rfl) rfl rfl
  refine Call_ (ld_blt I hg2 hm2 boot_set ?_)
  refine PyProof.Rows.callWith_type1 (PyProof.Rows.args_cons (thn (ha.run pins s σ H _ I h) fun v s1 ⟨x, H1, I1, r1, q1⟩ => PyProof.Rows.args_nil ?_) na) na rfl
  obtain ⟨l, xs, rfl, hq, h1, q1⟩ := q1
  cases r1
  obtain ⟨its, r, pl, hz⟩ := I1.list hq
  refine call_set_texts (I1.ok.hd hc) pl.isList (by simpa using strsAre_of r) (by unfold scanBound; omega) fun h' tk hS hk => PyProof.Rows.args_nil ?_
  have hu := unl_le xs xs.length
  obtain ⟨o, es, ep, t, ho, hex, hd, _, _, _, hf, hn⟩ := hS
  have I2 : Inv X pins σ H1 { s1 with heap := h', toks := tk } := I1.kept fun b o e => hk b o (Heap.lt_size e) e
  exact call_len_set ho hex hd hf (by rw [hn]; omega) ⟨.int (unl xs xs.length : Nat), H1, I2.tok _, ⟨_, by rw [hn]⟩, q1⟩
variable {a : Ax} {W : WX} {e : Expr} {p p2 q pos : Pos}
def lenSetF (d : PyData) : Res Slot := match d with
  | .list ds => match strsOf ds with
    | some ys => if ys.length ≤ 1000 then okI (unl ys ys.length : Nat) else .stuck
    | none => .stuck
  | _ => .stuck
theorem de_lenSet {m : MD} (hc : X.calm = true) (hg : Gl X "len") (hm : X.mg "len" = none) (hg2 : Gl X "set") (hm2 : X.mg "set" = none) (h : DR X a W e m)
    (na : starEach [e] X.env = (false, eval e X.env) :: starEach [] X.env := by rfl) : DE X a W (.Call (.Name "len" p) [.Call (.Name "set" p2) [e] [] q] [] pos) (mU lenSetF m) := by
  obtain ⟨t, pt, s⟩ := h
  refine ⟨_, pe_lenSetT hc hg hm hg2 hm2 pt na, ?_⟩
  refine snd_bind (rel1 := relD X.kw) (rel2 := relE X.kw) downE s (t2 := fun x _ H1 Q => ∃ l, ∃ xs : List Str, x = .ref l ∧ SqL X.K H1 l (xs.map V.str) ∧ xs.length ≤ 1000 ∧ Q (.int (unl xs xs.length : Nat)) H1) (m2 := fun d _ => lenSetF d) ?_
  intro d x B G0 G H σ δ H0 S rd Q hq
  unfold lenSetF at hq
  split at hq
  · split at hq
    · rename_i ys hy
      split at hq
      · rename_i hz
        obtain ⟨b, xs, e1, q1, r1⟩ := rdr_list S.gh rd
        subst e1
        rw [strsOf_eq hy] at r1
        rw [repL_strs_eq r1] at q1
        exact ⟨b, ys, rfl, q1, hz, hq _ G H (Stp.refl S.gh) (Rep.int _)⟩
      · exact hq.elim
    · exact hq.elim
  · exact hq.elim
theorem lenSetF_map {ys : List Str} (h : ys.length ≤ 1000) : lenSetF (.list (ys.map PyData.str)) = .ok (.val (.int (unl ys ys.length : Nat))) := by
  unfold lenSetF
  simp only [strsOf_map]
  rw [if_pos h]
  rfl
end
end DL
/-! DLx: min of two, a text or a list so many times -/
namespace DL
open PySem L2
section
variable {X : Cx} {a : Ax} {W : WX} {e e1 e2 : Expr} {pos p : Pos}
def min2F : List PyData → Res Slot
  | [.int i, .int j] => okI (if j < i then j else i)
  | _ => .stuck
theorem min2F_ok {K : Kw} : CallS K (fun xs H Q => ∃ i j, xs = [.int i, .int j] ∧ Q (.int (if j < i then j else i)) H) min2F := by
  refine ⟨fun G H vs ds s Q g rd ef q => ?_, fun ds x => ?_⟩
  · unfold min2F at ef
    split at ef
    · cases ef
      cases rd with
      | cons r1 r =>
        cases r with
        | cons r2 r =>
          cases r
          cases rdr_int r1
          cases rdr_int r2
          exact ⟨_, _, rfl, q _ G H (Stp.refl g) (Rep.int _)⟩
    · cases ef
  · unfold min2F
    split <;> (intro h; cases h)
@[simp] theorem min2F_int {i j : Int} : min2F [.int i, .int j] = .ok (.val (.int (if j < i then j else i))) := (rfl)
/-- a text k times -/
def rMulS : R2 := fun x y H Q => ∃ z k, x = .str z ∧ y = .int k ∧ 1 ≤ k ∧ k ≤ 100 ∧ z.length ≤ 10000 ∧ Q (.str (Txt.mul z k)) H
theorem op_mulS : OpR X (binaryOp .Mult) rMulS := by
  intro pins s σ H x y v u Q I rx ry h
  obtain ⟨z, k, rfl, rfl, h1, h2, hz, q⟩ := h
  obtain ⟨t, rfl⟩ := rx
  obtain ⟨t2, rfl⟩ := ry
  refine SB.mul (n := k) ⟨?_, fun _ _ => ?_, fun _ _ => ?_⟩ fun t' tk => ⟨.str (Txt.mul z k), H, I.tok _, ⟨t', rfl⟩, q⟩
  · rw [Bool.or_eq_false_iff]
    exact ⟨decide_eq_false (by omega), decide_eq_false (by omega)⟩
  · intro w
    have : (2 ^ 63 - 1) / 100 ≤ (2 ^ 63 - 1) / k := by
      refine (Int.le_ediv_iff_mul_le (by omega)).mpr ?_
      have : ((2 ^ 63 - 1) / 100 : Int) * k ≤ ((2 ^ 63 - 1) / 100) * 100 := Int.mul_le_mul_of_nonneg_left h2 (by decide)
      exact Int.le_trans this (by decide)
    have : (10000 : Int) ≤ (2 ^ 63 - 1) / 100 := by decide
    omega
  · have : z.length * k.toNat ≤ 10000 * 100 := Nat.mul_le_mul hz (by omega)
    have h3 : (1000000 : Nat) ≤ sizeLine := by decide
    exact decide_eq_false (by omega)
def mulG : PyData → PyData → Res Slot
  | .str z, .int k => if 1 ≤ k ∧ k ≤ 100 ∧ z.length ≤ 10000 then okV (.str (Txt.mul z k)) else .stuck
  | x, y => mulF x y
def rMulG : R2 := fun x y H Q => rMulS x y H Q ∨ rI IntMulOk (fun i j => .int (i * j)) x y H Q
theorem op_mulG : OpR X (binaryOp .Mult) rMulG := op_mulS.or op_mulA
theorem mulG_ok {K : Kw} : OpS K rMulG mulG := by
  intro G H x y d e s Q g rx ry ef q
  unfold mulG at ef
  split at ef
  · split at ef
    · rename_i hz
      cases ef
      cases rdr_str rx; cases rdr_int ry
      exact .inl ⟨_, _, rfl, rfl, hz.1, hz.2.1, hz.2.2, q _ G H (Stp.refl g) (Rep.str _)⟩
    · cases ef
  · exact .inr (mulF_ok G H x y d e s Q g rx ry ef q)
theorem mulG_ne : NoExc mulG := fun d e x => by
  unfold mulG
  split
  · split <;> (intro h; cases h)
  · exact mulF_ne d e x
theorem mulG_str {z : Str} {k : Int} (h1 : 1 ≤ k) (h2 : k ≤ 100) (hz : z.length ≤ 10000) : mulG (.str z) (.int k) = .ok (.val (.str (Txt.mul z k))) := if_pos ⟨h1, h2, hz⟩
/-- a new list k times -/
def mRep (m : ME) (n : MD) : ME := fun δ => (m δ).bind fun s => match s with
  | .own (.list ds) => (n δ).bind fun e => match e with
    | .int k => if 0 ≤ k ∧ k ≤ 1000 ∧ ds.length ≤ 1000 then .ok (.own (.list (List.replicate k.toNat ds).flatten)) else .stuck
    | _ => .stuck
  | _ => .stuck
theorem repL_app {K : Kw} {G : Hp} : ∀ {vs us : List V} {ds es : List PyData}, RepL K G vs ds → RepL K G us es → RepL K G (vs ++ us) (ds ++ es)
  | _, _, _, _, .nil, r => r
  | _, _, _, _, .cons h t, r => .cons h (repL_app t r)
theorem repL_rep {K : Kw} {G : Hp} {vs : List V} {ds : List PyData} (r : RepL K G vs ds) : ∀ n, RepL K G (List.replicate n vs).flatten (List.replicate n ds).flatten
  | 0 => .nil
  | n + 1 => by
    rw [List.replicate_succ, List.replicate_succ, List.flatten_cons, List.flatten_cons]
    exact repL_app r (repL_rep r n)
theorem de_rep {m : ME} {n : MD} (h : DE X a W e1 m) (k : DR X a W e2 n) : DE X a W (.BinOp e1 .Mult e2 pos) (mRep m n) := by
  obtain ⟨t, p, s⟩ := h
  obtain ⟨u, q, z⟩ := k
  refine ⟨_, pe_op op_rep p q, fun B G0 G H σ δ S Q hq => ?_⟩
  refine s B G0 G H σ δ S _ ?_
  have hq' : ROk (cn X a) W σ G H (relE X.kw H) ((m δ).bind fun s => match s with
    | .own (.list ds) => (n δ).bind fun e => match e with
      | .int k => if 0 ≤ k ∧ k ≤ 1000 ∧ ds.length ≤ 1000 then .ok (.own (.list (List.replicate k.toNat ds).flatten)) else .stuck
      | _ => .stuck
    | _ => .stuck) Q := hq
  generalize m δ = r at hq'
  cases r with
  | stuck => exact hq'.elim
  | exc x => exact hq'
  | ok sl =>
    cases sl with
    | val d => exact hq'.elim
    | bor d => exact hq'.elim
    | tr d => exact hq'.elim
    | bt d => exact hq'.elim
    | exn d => exact hq'.elim
    | own d =>
      cases d with
      | none => exact hq'.elim
      | bool _ => exact hq'.elim
      | int _ => exact hq'.elim
      | str _ => exact hq'.elim
      | tuple _ => exact hq'.elim
      | dict _ => exact hq'.elim
      | list ds =>
        intro v G1 H1 st1 ⟨ad, ev, na, n0, tp⟩
        subst ev
        refine z B G0 G1 H1 σ δ (S.step st1) _ ?_
        have hq2 : ROk (cn X a) W σ G H (relE X.kw H) ((n δ).bind fun e => match e with
          | .int k => if 0 ≤ k ∧ k ≤ 1000 ∧ ds.length ≤ 1000 then .ok (.own (.list (List.replicate k.toNat ds).flatten)) else .stuck
          | _ => .stuck) Q := hq'
        generalize n δ = rn at hq2
        cases rn with
        | stuck => exact hq2.elim
        | exc x => exact fun cls d G3 H3 s3 r => hq2 cls d G3 H3 (st1.trans s3) r
        | ok d =>
          intro y G2 H2 st2 ry
          cases d with
          | none => exact (show False from hq2).elim
          | bool _ => exact (show False from hq2).elim
          | str _ => exact (show False from hq2).elim
          | list _ => exact (show False from hq2).elim
          | tuple _ => exact (show False from hq2).elim
          | dict _ => exact (show False from hq2).elim
          | int k =>
            have hq3 : ROk (cn X a) W σ G H (relE X.kw H) (if 0 ≤ k ∧ k ≤ 1000 ∧ ds.length ≤ 1000 then .ok (.own (.list (List.replicate k.toNat ds).flatten)) else .stuck) Q := hq2
            split at hq3
            · rename_i hz
              cases rdr_int ry
              obtain ⟨vs, hvs, rv⟩ := (tp.mono st2.g st2.h : Top X.kw G2 H2 ad (.list ds))
              have hlen : vs.length ≤ 1000 := by rw [rv.length]; exact hz.2.2
              refine ⟨ad, k, vs, rfl, rfl, hvs, by omega, by omega, ?_, fun p hp => ?_⟩
              · have : vs.length * k.toNat ≤ 1000 * 1000 := Nat.mul_le_mul hlen (by omega)
                exact Nat.le_trans this (by decide)
              · exact new_list st2.gh (repL_rep rv k.toNat) (fun v G3 H3 s3 r3 => hq3 v G3 H3 ((st1.trans st2).trans s3) (r3.mono0 ((st1.trans st2).h))) p hp
            · exact hq3.elim
@[simp] theorem mRep_ap {m : ME} {n : MD} {δ : DEnv} : mRep m n δ = (m δ).bind fun s => match s with
  | .own (.list ds) => (n δ).bind fun e => match e with
    | .int k => if 0 ≤ k ∧ k ≤ 1000 ∧ ds.length ≤ 1000 then .ok (.own (.list (List.replicate k.toNat ds).flatten)) else .stuck
    | _ => .stuck
  | _ => .stuck := (rfl)
end
end DL
namespace DL
open PySem L2
section
variable {X : Cx}
/-- lists of unlike lengths are unlike, whatever is in them -/
def rNeLen (K : PySem.W.Frag) : R2 := fun x y H Q => ∃ a b xs ys, x = .ref a ∧ y = .ref b ∧ SqL K H a xs ∧ SqL K H b ys ∧ xs.length ≠ ys.length ∧ Q (.bl true) H
theorem op_neLen {k : Nat} (hr : Room k X.A) : OpR X (compareOp .NotEq) (rNeLen X.K) := by
  intro pins s σ H x y v u Q I rx ry h
  obtain ⟨a, b, xs, ys, rfl, rfl, qa, qb, hl, q⟩ := h
  cases rx
  cases ry
  obtain ⟨its, r, pl, _⟩ := I.list qa
  obtain ⟨its2, r2, pl2, _⟩ := I.list qb
  refine SeqAt.RcNeAt.lists_lengths pl.isList pl2.isList (bne_iff_ne.mpr ?_) (by have := hr.units; omega) _ _ _ _ ⟨.bl true, H, I, rfl, q⟩
  rw [List.size_toArray, List.size_toArray, ← r.length, ← r2.length]
  exact hl
def rNeG (K : Kw) : R2 := fun x y H Q => rNeLen K.K x y H Q ∨ rNeD K.K x y H Q
theorem op_neG {k : Nat} (hr : Room k X.A) : OpR X (compareOp .NotEq) (rNeG X.kw) := (op_neLen hr).or (op_neD hr.units)
def neG (d e : PyData) : Res Slot := match d, e with
  | .list ds, .list es => if ds.length ≠ es.length then okB true else neF (.list ds) (.list es)
  | d, e => neF d e
theorem neG_ok {K : Kw} : OpS K (rNeG K) neG := by
  intro G H x y d e s Q g rx ry ef q
  unfold neG at ef
  split at ef
  · split at ef
    · rename_i hl
      cases ef
      obtain ⟨a, xs, e1, q1, r1⟩ := rdr_list g rx
      obtain ⟨b, ys, e2, q2, r2⟩ := rdr_list g ry
      exact .inl ⟨a, b, xs, ys, e1, e2, q1, q2, by rw [r1.length, r2.length]; exact hl, q _ G H (Stp.refl g) (Rep.bl _)⟩
    · exact .inr (neF_ok G H x y _ _ s Q g rx ry ef q)
  · exact .inr (neF_ok G H x y d e s Q g rx ry ef q)
theorem neG_ne : NoExc neG := fun d e x => by
  unfold neG
  split
  · split
    · intro h; cases h
    · exact neF_ne _ _ x
  · exact neF_ne d e x
theorem neG_nil {ds : List PyData} : neG (.list ds) (.list []) = .ok (.val (.bool (!ds.isEmpty))) := by
  cases ds with
  | nil =>
    have sn : SeqAt.shaped (.list []) = true := by simp [SeqAt.shaped, PyData.canLay0, PyData.canLayAll0, PyData.depth, PyData.depthAll]
    show neF (.list []) (.list []) = _
    rw [neF_self sn]
    rfl
  | cons x xs => rfl
end
end DL
namespace Pg
open PySem L2 DL
noncomputable def b_is_whole : MS := (mRet (mAndV (mIsi "int" (mR (mVar 0))) (mNotV (mIsi "bool" (mR (mVar 0))))))
noncomputable def d_is_whole : F := mDef 1 1 b_is_whole
noncomputable def b_divisor : MS := (mSeq (mAsg 0 (mBi absF (mCons (mR (mVar 0)) mNil))) (mSeq (mAsg 1 (mBi absF (mCons (mR (mVar 1)) mNil))) (mSeq (mWhile (mTest (mB gtF (mR (mVar 1)) (mR (mC (.int 0))))) (mSeq (mAsg 2 (mB modF (mR (mVar 0)) (mR (mVar 1)))) (mSeq (mAsg 0 (mVar 1)) (mAsg 1 (mVar 2))))) (mRetN 0))))
noncomputable def d_divisor : F := mDef 3 2 b_divisor
noncomputable def b_is_ratio : MS := (mSeq (mIf (mOr (mNot (mTest (mIsi "tuple" (mR (mVar 0))))) (mTest (mB neF (mR (mBi lenF (mCons (mR (mVar 0)) mNil))) (mR (mC (.int 2)))))) (mRet (mC (.bool false))) mNext) (mSeq (mIf (mOr (mNot (mTest (mCall Pg.d_is_whole (mACons (mB ixF (mR (mVar 0)) (mR (mC (.int 0)))) mANil)))) (mOr (mNot (mTest (mCall Pg.d_is_whole (mACons (mB ixF (mR (mVar 0)) (mR (mC (.int 1)))) mANil)))) (mTest (mB ltF (mR (mB ixF (mR (mVar 0)) (mR (mC (.int 1))))) (mR (mC (.int 1))))))) (mRet (mC (.bool false))) mNext) (mRet (mB eqF (mR (mCall Pg.d_divisor (mACons (mB ixF (mR (mVar 0)) (mR (mC (.int 0)))) (mACons (mB ixF (mR (mVar 0)) (mR (mC (.int 1)))) mANil)))) (mR (mC (.int 1)))))))
noncomputable def d_is_ratio : F := mDef 1 1 b_is_ratio
noncomputable def b_ratio : MS := (mSeq (mIf (mTest (mB eqF (mR (mVar 1)) (mR (mC (.int 0))))) (mRaise ⟨.NoNumber, []⟩) mNext) (mSeq (mAsg 2 (mCall Pg.d_divisor (mACons (mVar 0) (mACons (mVar 1) mANil)))) (mSeq (mIf (mTest (mB ltF (mR (mVar 1)) (mR (mC (.int 0))))) (mAsg 2 (mB subF (mR (mC (.int 0))) (mR (mVar 2)))) mNext) (mRet (mTup (mCons (mV (mB divF (mR (mVar 0)) (mR (mVar 2)))) (mCons (mV (mB divF (mR (mVar 1)) (mR (mVar 2)))) mNil)))))))
noncomputable def d_ratio : F := mDef 3 2 b_ratio
noncomputable def b_plus : MS := (mRet (mCall Pg.d_ratio (mACons (mB addF (mR (mB mulF (mR (mB ixF (mR (mVar 0)) (mR (mC (.int 0))))) (mR (mB ixF (mR (mVar 1)) (mR (mC (.int 1))))))) (mR (mB mulF (mR (mB ixF (mR (mVar 1)) (mR (mC (.int 0))))) (mR (mB ixF (mR (mVar 0)) (mR (mC (.int 1)))))))) (mACons (mB mulF (mR (mB ixF (mR (mVar 0)) (mR (mC (.int 1))))) (mR (mB ixF (mR (mVar 1)) (mR (mC (.int 1)))))) mANil))))
noncomputable def d_plus : F := mDef 2 2 b_plus
noncomputable def b_minus : MS := (mRet (mCall Pg.d_ratio (mACons (mB subF (mR (mB mulF (mR (mB ixF (mR (mVar 0)) (mR (mC (.int 0))))) (mR (mB ixF (mR (mVar 1)) (mR (mC (.int 1))))))) (mR (mB mulF (mR (mB ixF (mR (mVar 1)) (mR (mC (.int 0))))) (mR (mB ixF (mR (mVar 0)) (mR (mC (.int 1)))))))) (mACons (mB mulF (mR (mB ixF (mR (mVar 0)) (mR (mC (.int 1))))) (mR (mB ixF (mR (mVar 1)) (mR (mC (.int 1)))))) mANil))))
noncomputable def d_minus : F := mDef 2 2 b_minus
noncomputable def b_times : MS := (mRet (mCall Pg.d_ratio (mACons (mB mulF (mR (mB ixF (mR (mVar 0)) (mR (mC (.int 0))))) (mR (mB ixF (mR (mVar 1)) (mR (mC (.int 0)))))) (mACons (mB mulF (mR (mB ixF (mR (mVar 0)) (mR (mC (.int 1))))) (mR (mB ixF (mR (mVar 1)) (mR (mC (.int 1)))))) mANil))))
noncomputable def d_times : F := mDef 2 2 b_times
noncomputable def b_over : MS := (mRet (mCall Pg.d_ratio (mACons (mB mulF (mR (mB ixF (mR (mVar 0)) (mR (mC (.int 0))))) (mR (mB ixF (mR (mVar 1)) (mR (mC (.int 1)))))) (mACons (mB mulF (mR (mB ixF (mR (mVar 0)) (mR (mC (.int 1))))) (mR (mB ixF (mR (mVar 1)) (mR (mC (.int 0)))))) mANil))))
noncomputable def d_over : F := mDef 2 2 b_over
noncomputable def b_under : MS := (mRet (mB ltF (mR (mB mulF (mR (mB ixF (mR (mVar 0)) (mR (mC (.int 0))))) (mR (mB ixF (mR (mVar 1)) (mR (mC (.int 1))))))) (mR (mB mulF (mR (mB ixF (mR (mVar 1)) (mR (mC (.int 0))))) (mR (mB ixF (mR (mVar 0)) (mR (mC (.int 1)))))))))
noncomputable def d_under : F := mDef 2 2 b_under
noncomputable def b_total : MS := (mSeq (mAsg 1 (mTup (mCons (mV (mC (.int 0))) (mCons (mV (mC (.int 1))) mNil)))) (mSeq (mFor (mgN 2) (miV 0) (mFrz 1 (mAsg 1 (mCall Pg.d_plus (mACons (mVar 1) (mACons (mVar 2) mANil)))))) (mRetN 1)))
noncomputable def d_total : F := mDef 3 1 b_total
noncomputable def b_show_ratio : MS := (mSeq (mIf (mTest (mB eqF (mR (mB ixF (mR (mVar 0)) (mR (mC (.int 1))))) (mR (mC (.int 1))))) (mRet (mBi strF (mCons (mR (mB ixF (mR (mVar 0)) (mR (mC (.int 0))))) mNil))) mNext) (mRet (mB addF (mR (mB addF (mR (mBi strF (mCons (mR (mB ixF (mR (mVar 0)) (mR (mC (.int 0))))) mNil))) (mR (mC (.str "/"))))) (mR (mBi strF (mCons (mR (mB ixF (mR (mVar 0)) (mR (mC (.int 1))))) mNil))))))
noncomputable def d_show_ratio : F := mDef 1 1 b_show_ratio
noncomputable def b_number_of : MS := (mSeq (mIf (mNot (mTest (mChain leF leF (mR (mC (.int 1))) (mR (mBi lenF (mCons (mR (mVar 0)) mNil))) (mR (mC (.int 30)))))) (mRaise ⟨.NoText, []⟩) mNext) (mSeq (mFor (mgN 1) (miV 0) (mIf (mTest (mB (inF true) (mR (mVar 1)) (mR (mC (.str "0123456789"))))) (mRaise ⟨.NoText, []⟩) mNext)) (mRet (mBi intSF (mCons (mR (mVar 0)) mNil)))))
noncomputable def d_number_of : F := mDef 2 1 b_number_of
noncomputable def b_read_ratio : MS := (mSeq (mIf (mNot (mTest (mIsi "str" (mR (mVar 0))))) (mRaise ⟨.NoText, []⟩) mNext) (mSeq (mAsg 1 (mVar 0)) (mSeq (mIf (mTest (mM1 startsF (mR (mVar 0)) (mR (mC (.str "-"))))) (mAsg 1 (mSl (mR (mVar 0)) (mO (mR (mC (.int 1)))) mO0)) mNext) (mSeq (mAsg 2 (mM1 splitF (mR (mVar 1)) (mR (mC (.str "/"))))) (mSeq (mFrz 2 (mAsg 3 (mComp [5] (mgN 5) (miV 2) mYes (mV (mCall Pg.d_number_of (mACons (mVar 5) mANil)))))) (mSeq (mAsg 4 (mTup (mCons (mV (mB ixF (mR (mVar 3)) (mR (mC (.int 0))))) (mCons (mV (mC (.int 1))) mNil)))) (mSeq (mIf (mTest (mB gtF (mR (mBi lenF (mCons (mR (mVar 3)) mNil))) (mR (mC (.int 1))))) (mAsg 4 (mTup (mCons (mV (mB ixF (mR (mVar 3)) (mR (mC (.int 0))))) (mCons (mV (mB ixF (mR (mVar 3)) (mR (mC (.int 1))))) mNil)))) mNext) (mSeq (mIf (mTest (mB neF (mR (mVar 1)) (mR (mVar 0)))) (mAsg 4 (mTup (mCons (mV (mB subF (mR (mC (.int 0))) (mR (mB ixF (mR (mVar 4)) (mR (mC (.int 0))))))) (mCons (mV (mB ixF (mR (mVar 4)) (mR (mC (.int 1))))) mNil)))) mNext) (mSeq (mIf (mOr (mNot (mTest (mCall Pg.d_is_ratio (mACons (mVar 4) mANil)))) (mTest (mB neF (mR (mCall Pg.d_show_ratio (mACons (mVar 4) mANil))) (mR (mVar 0))))) (mRaise ⟨.NoText, []⟩) mNext) (mRetN 4))))))))))
noncomputable def d_read_ratio : F := mDef 6 1 b_read_ratio
noncomputable def b_words_of : MS := (mRet (mBi tupleF (mCons (mR (mComp [1, 2] (mgT 2 (mgCons (mgN 1) (mgCons (mgN 2) mgNil))) (miQ (mV (mB ixF (mR (mVar 0)) (mR (mC (.int 3)))))) mYes (mV (mVar 1)))) mNil)))
noncomputable def d_words_of : F := mDef 3 1 b_words_of
noncomputable def b_behind : MS := (mSeq (mAsg 3 (mTup (mCons (mV (mB ixF (mR (mVar 1)) (mR (mC (.int 2))))) (mCons (mV (mVar 2)) mNil)))) (mSeq (mIf (mTest (mB eqF (mR (mB ixF (mR (mVar 1)) (mR (mC (.int 1))))) (mR (mC (.int 1))))) (mRet (mTup (mCons (mV (mB addF (mR (mB ixF (mR (mVar 0)) (mR (mC (.int 0))))) (mR (mTup (mCons (mV (mVar 3)) mNil))))) (mCons (mV (mB ixF (mR (mVar 0)) (mR (mC (.int 1))))) mNil)))) mNext) (mRet (mTup (mCons (mV (mB ixF (mR (mVar 0)) (mR (mC (.int 0))))) (mCons (mV (mB addF (mR (mB ixF (mR (mVar 0)) (mR (mC (.int 1))))) (mR (mTup (mCons (mV (mVar 3)) mNil))))) mNil))))))
noncomputable def d_behind : F := mDef 4 3 b_behind
noncomputable def b_branches : MS := (mSeq (mIf (mTest (mB eqF (mR (mB ixF (mR (mVar 0)) (mR (mC (.int 0))))) (mR (mC (.str "end"))))) (mRet (mLst mNil)) mNext) (mSeq (mIf (mTest (mB eqF (mR (mB ixF (mR (mVar 0)) (mR (mC (.int 0))))) (mR (mC (.str "deal"))))) (mRet (mComp [2, 3] (mgT 2 (mgCons (mgN 2) (mgCons (mgN 3) mgNil))) (miQ (mV (mB ixF (mR (mVar 0)) (mR (mC (.int 2)))))) mYes (mV (mTup (mCons (mV (mVar 3)) (mCons (mV (mVar 1)) mNil)))))) mNext) (mRet (mComp [4, 3] (mgT 2 (mgCons (mgN 4) (mgCons (mgN 3) mgNil))) (miQ (mV (mB ixF (mR (mVar 0)) (mR (mC (.int 3)))))) mYes (mV (mTup (mCons (mV (mVar 3)) (mCons (mV (mCall Pg.d_behind (mACons (mVar 1) (mACons (mVar 0) (mACons (mVar 4) mANil))))) mNil))))))))
noncomputable def d_branches : F := mDef 5 2 b_branches
noncomputable def b_numbers_at : MS := (mSeq (mIf (mTest (mB eqF (mR (mB ixF (mR (mVar 0)) (mR (mC (.int 0))))) (mR (mC (.str "end"))))) (mRet (mLst (mCons (mV (mB ixF (mR (mVar 0)) (mR (mC (.int 1))))) mNil))) mNext) (mSeq (mIf (mTest (mB eqF (mR (mB ixF (mR (mVar 0)) (mR (mC (.int 0))))) (mR (mC (.str "deal"))))) (mRet (mComp [1, 2] (mgT 2 (mgCons (mgN 1) (mgCons (mgN 2) mgNil))) (miQ (mV (mB ixF (mR (mVar 0)) (mR (mC (.int 2)))))) mYes (mV (mVar 1)))) mNext) (mRet (mLst mNil))))
noncomputable def d_numbers_at : F := mDef 3 1 b_numbers_at
noncomputable def b_are_shares : MS := (mSeq (mIf (mOr (mNot (mTest (mIsi "tuple" (mR (mVar 0))))) (mTest (mB neF (mR (mBi lenF (mCons (mR (mVar 0)) mNil))) (mR (mVar 1))))) (mRet (mC (.bool false))) mNext) (mSeq (mFor (mgN 2) (miV 0) (mIf (mOr (mNot (mTest (mCall Pg.d_is_ratio (mACons (mVar 2) mANil)))) (mTest (mCall Pg.d_under (mACons (mVar 2) (mACons (mTup (mCons (mV (mC (.int 0))) (mCons (mV (mC (.int 1))) mNil))) mANil))))) (mRet (mC (.bool false))) mNext)) (mRet (mB eqF (mR (mCall Pg.d_total (mACons (mBi listF (mCons (mR (mVar 0)) mNil)) mANil))) (mR (mTup (mCons (mV (mC (.int 1))) (mCons (mV (mC (.int 1))) mNil))))))))
noncomputable def d_are_shares : F := mDef 3 2 b_are_shares
noncomputable def b_shares_at : MS := (mSeq (mIf (mTest (mB eqF (mR (mB ixF (mR (mVar 0)) (mR (mC (.int 0))))) (mR (mC (.str "deal"))))) (mRet (mComp [3, 4] (mgT 2 (mgCons (mgN 3) (mgCons (mgN 4) mgNil))) (miQ (mV (mB ixF (mR (mVar 0)) (mR (mC (.int 2)))))) mYes (mV (mVar 3)))) mNext) (mRet (mBi listF (mCons (mR (mB ixF (mR (mVar 2)) (mR (mB ixF (mR (mVar 0)) (mR (mC (.int 2))))))) mNil))))
noncomputable def d_shares_at : F := mDef 5 3 b_shares_at
noncomputable def b_first_best : MS := (mSeq (mAsg 2 (mC (.int 0))) (mSeq (mFor (mgN 3) (mRng2 (mCons (mV (mC (.int 1))) (mCons (mV (mBi lenF (mCons (mR (mVar 0)) mNil))) mNil))) (mIf (mOr (mAnd (mTest (mB eqF (mR (mVar 1)) (mR (mC (.int 2))))) (mTest (mCall Pg.d_under (mACons (mB ixF (mR (mVar 0)) (mR (mVar 2))) (mACons (mB ixF (mR (mVar 0)) (mR (mVar 3))) mANil))))) (mAnd (mTest (mB eqF (mR (mVar 1)) (mR (mC (.int 1))))) (mTest (mCall Pg.d_under (mACons (mB ixF (mR (mVar 0)) (mR (mVar 3))) (mACons (mB ixF (mR (mVar 0)) (mR (mVar 2))) mANil)))))) (mAsg 2 (mVar 3)) mNext)) (mRetN 2)))
noncomputable def d_first_best : F := mDef 4 2 b_first_best
noncomputable def b_shared_bottom : MS := (mSeq (mAsg 1 (mC (.int 1))) (mSeq (mFor (mgT 2 (mgCons (mgN 2) (mgCons (mgN 3) mgNil))) (miV 0) (mAsg 1 (mB mulF (mR (mVar 1)) (mR (mB ixF (mR (mCall Pg.d_ratio (mACons (mVar 3) (mACons (mVar 1) mANil)))) (mR (mC (.int 0)))))))) (mRetN 1)))
noncomputable def d_shared_bottom : F := mDef 4 1 b_shared_bottom
noncomputable def b_as_wholes : MS := (mRet (mComp [2, 3] (mgT 2 (mgCons (mgN 2) (mgCons (mgN 3) mgNil))) (miV 0) mYes (mV (mB mulF (mR (mVar 2)) (mR (mB divF (mR (mVar 1)) (mR (mVar 3))))))))
noncomputable def d_as_wholes : F := mDef 4 2 b_as_wholes
noncomputable def b_last_of : MS := (mSeq (mIf (mTest (mB eqF (mR (mVar 0)) (mR (mTup mNil)))) (mRet (mC .none)) mNext) (mRet (mB ixF (mR (mVar 0)) (mR (mU negF (mR (mC (.int 1))))))))
noncomputable def d_last_of : F := mDef 1 1 b_last_of
noncomputable def b_is_name : MS := (mSeq (mIf (mOr (mNot (mTest (mIsi "str" (mR (mVar 0))))) (mNot (mTest (mChain leF leF (mR (mC (.int 1))) (mR (mBi lenF (mCons (mR (mVar 0)) mNil))) (mR (mC (.int 8))))))) (mRet (mC (.bool false))) mNext) (mSeq (mFor (mgN 1) (miV 0) (mIf (mTest (mB (inF true) (mR (mVar 1)) (mR (mC (.str "abcdefghijklmnopqrstuvwxyz0123456789"))))) (mRet (mC (.bool false))) mNext)) (mRet (mC (.bool true)))))
noncomputable def d_is_name : F := mDef 2 1 b_is_name
noncomputable def b_are_pairs : MS := (mSeq (mIf (mOr (mNot (mTest (mIsi "tuple" (mR (mVar 0))))) (mNot (mTest (mChain leF leF (mR (mC (.int 1))) (mR (mBi lenF (mCons (mR (mVar 0)) mNil))) (mR (mVar 1)))))) (mRet (mC (.bool false))) mNext) (mSeq (mFor (mgN 2) (miV 0) (mIf (mOr (mNot (mTest (mIsi "tuple" (mR (mVar 2))))) (mTest (mB neF (mR (mBi lenF (mCons (mR (mVar 2)) mNil))) (mR (mC (.int 2)))))) (mRet (mC (.bool false))) mNext)) (mRet (mC (.bool true)))))
noncomputable def d_are_pairs : F := mDef 3 2 b_are_pairs
noncomputable def b_parts_of : MS := (mSeq (mIf (mTest (mB eqF (mR (mB ixF (mR (mVar 0)) (mR (mC (.int 0))))) (mR (mC (.str "end"))))) (mRet (mLst mNil)) mNext) (mRet (mComp [1, 2] (mgT 2 (mgCons (mgN 1) (mgCons (mgN 2) mgNil))) (miQ (mV (mB ixF (mR (mVar 0)) (mR (mU negF (mR (mC (.int 1)))))))) mYes (mV (mVar 2)))))
noncomputable def d_parts_of : F := mDef 3 1 b_parts_of
noncomputable def b_at_way : MS := (mSeq (mFor (mgN 2) (miV 1) (mSeq (mAsg 3 (mCall Pg.d_parts_of (mACons (mVar 0) mANil))) (mSeq (mIf (mNot (mTest (mChain leF ltF (mR (mC (.int 0))) (mR (mVar 2)) (mR (mBi lenF (mCons (mR (mVar 3)) mNil)))))) (mRaise ⟨.NoPlace, []⟩) mNext) (mAsg 0 (mB ixF (mR (mVar 3)) (mR (mVar 2))))))) (mRetN 0))
noncomputable def d_at_way : F := mDef 4 2 b_at_way
noncomputable def b_turned (rc : F) : MS := (mSeq (mIf (mTest (mB eqF (mR (mB ixF (mR (mVar 0)) (mR (mC (.int 0))))) (mR (mC (.str "end"))))) (mRet (mTup (mCons (mV (mC (.str "end"))) (mCons (mV (mTup (mCons (mV (mB subF (mR (mC (.int 0))) (mR (mB ixF (mR (mB ixF (mR (mVar 0)) (mR (mC (.int 1))))) (mR (mC (.int 0))))))) (mCons (mV (mB ixF (mR (mB ixF (mR (mVar 0)) (mR (mC (.int 1))))) (mR (mC (.int 1))))) mNil)))) mNil)))) mNext) (mSeq (mAsg 1 (mBi tupleF (mCons (mR (mComp [2, 3] (mgT 2 (mgCons (mgN 2) (mgCons (mgN 3) mgNil))) (miQ (mV (mB ixF (mR (mVar 0)) (mR (mU negF (mR (mC (.int 1)))))))) mYes (mV (mTup (mCons (mV (mVar 2)) (mCons (mV (mCall rc (mACons (mVar 3) mANil))) mNil)))))) mNil))) (mSeq (mIf (mTest (mB eqF (mR (mB ixF (mR (mVar 0)) (mR (mC (.int 0))))) (mR (mC (.str "deal"))))) (mRet (mTup (mCons (mV (mC (.str "deal"))) (mCons (mV (mB ixF (mR (mVar 0)) (mR (mC (.int 1))))) (mCons (mV (mVar 1)) mNil))))) mNext) (mRet (mTup (mCons (mV (mC (.str "move"))) (mCons (mV (mB subF (mR (mC (.int 3))) (mR (mB ixF (mR (mVar 0)) (mR (mC (.int 1))))))) (mCons (mV (mB ixF (mR (mVar 0)) (mR (mC (.int 2))))) (mCons (mV (mVar 1)) mNil)))))))))
noncomputable def d_turned : Nat → F
  | 0 => fun _ => .stuck
  | n + 1 => mDef 4 1 (b_turned (d_turned n))
noncomputable def b_ask_word : MS := (mSeq (mFor (mgT 4 (mgCons (mgN 4) (mgCons (mgN 5) (mgCons (mgN 6) (mgCons (mgN 7) mgNil))))) (miV 0) (mIf (mAnd (mTest (mB eqF (mR (mVar 4)) (mR (mVar 1)))) (mAnd (mTest (mB eqF (mR (mVar 5)) (mR (mVar 2)))) (mTest (mB (inF false) (mR (mVar 3)) (mR (mVar 6)))))) mRet0 mNext)) (mRaise ⟨.NoWord, []⟩))
noncomputable def d_ask_word : F := mDef 8 4 b_ask_word
noncomputable def b_shown (rc : F) : MS := (mSeq (mIf (mTest (mB eqF (mR (mB ixF (mR (mVar 0)) (mR (mC (.int 0))))) (mR (mC (.str "end"))))) (mRet (mB addF (mR (mC (.str "end "))) (mR (mCall Pg.d_show_ratio (mACons (mB ixF (mR (mVar 0)) (mR (mC (.int 1)))) mANil))))) mNext) (mSeq (mIf (mTest (mB eqF (mR (mB ixF (mR (mVar 0)) (mR (mC (.int 0))))) (mR (mC (.str "deal"))))) (mSeq (mAsg 1 (mComp [2, 3] (mgT 2 (mgCons (mgN 2) (mgCons (mgN 3) mgNil))) (miQ (mV (mB ixF (mR (mVar 0)) (mR (mC (.int 2)))))) mYes (mV (mB addF (mR (mB addF (mR (mCall Pg.d_show_ratio (mACons (mVar 2) mANil))) (mR (mC (.str " "))))) (mR (mCall rc (mACons (mVar 3) mANil))))))) (mRet (mB addF (mR (mB addF (mR (mB addF (mR (mB addF (mR (mC (.str "deal "))) (mR (mB ixF (mR (mVar 0)) (mR (mC (.int 1))))))) (mR (mC (.str "("))))) (mR (mM1 joinF (mR (mC (.str ", "))) (mR (mVar 1)))))) (mR (mC (.str ")")))))) mNext) (mSeq (mAsg 1 (mComp [4, 3] (mgT 2 (mgCons (mgN 4) (mgCons (mgN 3) mgNil))) (miQ (mV (mB ixF (mR (mVar 0)) (mR (mC (.int 3)))))) mYes (mV (mB addF (mR (mB addF (mR (mVar 4)) (mR (mC (.str " "))))) (mR (mCall rc (mACons (mVar 3) mANil))))))) (mRet (mB addF (mR (mB addF (mR (mB addF (mR (mB addF (mR (mB addF (mR (mB addF (mR (mC (.str "move "))) (mR (mBi strF (mCons (mR (mB ixF (mR (mVar 0)) (mR (mC (.int 1))))) mNil))))) (mR (mC (.str " "))))) (mR (mB ixF (mR (mVar 0)) (mR (mC (.int 2))))))) (mR (mC (.str "("))))) (mR (mM1 joinF (mR (mC (.str ", "))) (mR (mVar 1)))))) (mR (mC (.str ")"))))))))
noncomputable def d_shown : Nat → F
  | 0 => fun _ => .stuck
  | n + 1 => mDef 5 1 (b_shown (d_shown n))
noncomputable def b_with_stakes (rc : F) : MS := (mSeq (mIf (mTest (mB eqF (mR (mB ixF (mR (mVar 0)) (mR (mC (.int 0))))) (mR (mC (.str "end"))))) (mRet (mTup (mCons (mV (mC (.str "end"))) (mCons (mV (mCall Pg.d_times (mACons (mB ixF (mR (mVar 0)) (mR (mC (.int 1)))) (mACons (mTup (mCons (mV (mVar 1)) (mCons (mV (mC (.int 1))) mNil))) mANil)))) mNil)))) mNext) (mRet (mB addF (mR (mSl (mR (mVar 0)) mO0 (mO (mR (mU negF (mR (mC (.int 1)))))))) (mR (mTup (mCons (mV (mBi tupleF (mCons (mR (mComp [2, 3] (mgT 2 (mgCons (mgN 2) (mgCons (mgN 3) mgNil))) (miQ (mV (mB ixF (mR (mVar 0)) (mR (mU negF (mR (mC (.int 1)))))))) mYes (mV (mTup (mCons (mV (mVar 2)) (mCons (mV (mCall rc (mACons (mVar 3) (mACons (mVar 1) mANil)))) mNil)))))) mNil))) mNil))))))
noncomputable def d_with_stakes : Nat → F
  | 0 => fun _ => .stuck
  | n + 1 => mDef 4 2 (b_with_stakes (d_with_stakes n))
noncomputable def b_without_word (rc : F) : MS := (mSeq (mIf (mTest (mB eqF (mR (mB ixF (mR (mVar 0)) (mR (mC (.int 0))))) (mR (mC (.str "end"))))) (mRetN 0) mNext) (mSeq (mAsg 4 (mComp [5, 6] (mgT 2 (mgCons (mgN 5) (mgCons (mgN 6) mgNil))) (miQ (mV (mB ixF (mR (mVar 0)) (mR (mU negF (mR (mC (.int 1)))))))) mYes (mV (mTup (mCons (mV (mVar 5)) (mCons (mV (mCall rc (mACons (mVar 6) (mACons (mVar 1) (mACons (mVar 2) (mACons (mVar 3) mANil)))))) mNil)))))) (mSeq (mIf (mAnd (mTest (mB eqF (mR (mB ixF (mR (mVar 0)) (mR (mC (.int 0))))) (mR (mC (.str "move"))))) (mAnd (mTest (mB eqF (mR (mB ixF (mR (mVar 0)) (mR (mC (.int 1))))) (mR (mVar 1)))) (mTest (mB eqF (mR (mB ixF (mR (mVar 0)) (mR (mC (.int 2))))) (mR (mVar 2)))))) (mFrz 4 (mAsg 4 (mComp [7] (mgN 7) (miV 4) (mTest (mB neF (mR (mB ixF (mR (mVar 7)) (mR (mC (.int 0))))) (mR (mVar 3)))) (mV (mVar 7))))) mNext) (mRet (mB addF (mR (mSl (mR (mVar 0)) mO0 (mO (mR (mU negF (mR (mC (.int 1)))))))) (mR (mTup (mCons (mV (mBi tupleF (mCons (mR (mVar 4)) mNil))) mNil))))))))
noncomputable def d_without_word : Nat → F
  | 0 => fun _ => .stuck
  | n + 1 => mDef 8 4 (b_without_word (d_without_word n))
noncomputable def b_side_of : MS := (mSeq (mIf (mTest (mB (inF true) (mR (mVar 0)) (mR (mTup (mCons (mV (mC (.str "1"))) (mCons (mV (mC (.str "2"))) mNil)))))) (mRaise ⟨.NoRow, []⟩) mNext) (mRet (mBi intSF (mCons (mR (mVar 0)) mNil))))
noncomputable def d_side_of : F := mDef 1 1 b_side_of
noncomputable def b_way_of : MS := (mSeq (mIf (mTest (mB eqF (mR (mVar 0)) (mR (mC (.str "-"))))) (mRet (mTup mNil)) mNext) (mSeq (mAsg 1 (mLst mNil)) (mSeq (mFor (mgN 2) (miQ (mV (mM1 splitF (mR (mVar 0)) (mR (mC (.str ".")))))) (mSeq (mIf (mOr (mNot (mTest (mChain leF leF (mR (mC (.int 1))) (mR (mBi lenF (mCons (mR (mVar 2)) mNil))) (mR (mC (.int 2)))))) (mTest (mB gtF (mR (mBi lenF (mCons (mR (mComp [3] (mgN 3) (miV 2) (mTest (mB (inF true) (mR (mVar 3)) (mR (mC (.str "0123456789"))))) (mV (mVar 3)))) mNil))) (mR (mC (.int 0)))))) (mRaise ⟨.NoRow, []⟩) mNext) (mSeq (mIf (mAnd (mTest (mB eqF (mR (mB ixF (mR (mVar 2)) (mR (mC (.int 0))))) (mR (mC (.str "0"))))) (mTest (mB gtF (mR (mBi lenF (mCons (mR (mVar 2)) mNil))) (mR (mC (.int 1)))))) (mRaise ⟨.NoRow, []⟩) mNext) (mApp 1 (mV (mBi intSF (mCons (mR (mVar 2)) mNil))))))) (mRet (mBi tupleF (mCons (mR (mVar 1)) mNil))))))
noncomputable def d_way_of : F := mDef 4 1 b_way_of
end Pg
/-! DR: ratios.py over Rat -/
namespace Pg
open PySem L2 DL
def qD (q : Rat) : PyData := .tuple [.int q.num, .int (q.den : Int)]
abbrev gcdC : MT := mTest (mB gtF (mR (mVar 1)) (mR (mC (.int 0))))
abbrev gcdB : MS := mSeq (mAsg 2 (mB modF (mR (mVar 0)) (mR (mVar 1)))) (mSeq (mAsg 0 (mVar 1)) (mAsg 1 (mVar 2)))
theorem gcd_loop : ∀ (y x : Nat) (r : Option Slot), ∃ r', mWhile gcdC gcdB [some (.val (.int (x : Int))), some (.val (.int (y : Int))), r] = .nx [some (.val (.int (Nat.gcd x y : Nat))), some (.val (.int 0)), r'] := by
  intro y
  induction y using Nat.strongRecOn with
  | _ y ih =>
    intro x r
    rw [mWhile_eq]
    by_cases h : y = 0
    · subst h
      exact ⟨r, by simp⟩
    · have hy : 0 < y := by omega
      obtain ⟨r', e⟩ := ih (x % y) (Nat.mod_lt x hy) y (some (.val (.int ((x % y : Nat) : Int))))
      refine ⟨r', ?_⟩
      have eg : Nat.gcd y (x % y) = Nat.gcd x y := by rw [Nat.gcd_comm y, ← Nat.gcd_rec, Nat.gcd_comm]
      rw [eg] at e
      simp only [Int.natCast_emod] at e
      simp [hy, wgo]
      exact e
theorem divisor_int (a b : Int) : d_divisor [.val (.int a), .val (.int b)] = .ok (.val (.int (Int.gcd a b : Nat))) := by
  have e : ∀ z : Int, (if z < 0 then -z else z) = ((z.natAbs : Nat) : Int) := fun z => by split <;> omega
  obtain ⟨r', h⟩ := gcd_loop b.natAbs a.natAbs none
  simp [d_divisor, mDef, b_divisor, start0, e]
  rw [h]
  simp [Int.gcd]
@[simp] theorem is_whole_int (i : Int) : d_is_whole [.val (.int i)] = .ok (.val (.bool true)) := by simp [d_is_whole, mDef, b_is_whole, start0]
@[simp] theorem is_whole_bool (b : Bool) : d_is_whole [.val (.bool b)] = .ok (.val (.bool false)) := by simp [d_is_whole, mDef, b_is_whole, start0]
@[simp] theorem is_whole_none : d_is_whole [.val .none] = .ok (.val (.bool false)) := by simp [d_is_whole, mDef, b_is_whole, start0]
@[simp] theorem is_whole_str (x : Str) : d_is_whole [.val (.str x)] = .ok (.val (.bool false)) := by simp [d_is_whole, mDef, b_is_whole, start0]
@[simp] theorem is_whole_list (x : List PyData) : d_is_whole [.val (.list x)] = .ok (.val (.bool false)) := by simp [d_is_whole, mDef, b_is_whole, start0]
@[simp] theorem is_whole_tup (x : List PyData) : d_is_whole [.val (.tuple x)] = .ok (.val (.bool false)) := by simp [d_is_whole, mDef, b_is_whole, start0]
@[simp] theorem is_whole_dict (x : List (PyData × PyData)) : d_is_whole [.val (.dict x)] = .ok (.val (.bool false)) := by simp [d_is_whole, mDef, b_is_whole, start0]
/-! is_ratio -/
@[simp] theorem is_ratio_none : d_is_ratio [.val .none] = .ok (.val (.bool false)) := by simp [d_is_ratio, mDef, b_is_ratio, start0]
@[simp] theorem is_ratio_bool (b : Bool) : d_is_ratio [.val (.bool b)] = .ok (.val (.bool false)) := by simp [d_is_ratio, mDef, b_is_ratio, start0]
@[simp] theorem is_ratio_int (b : Int) : d_is_ratio [.val (.int b)] = .ok (.val (.bool false)) := by simp [d_is_ratio, mDef, b_is_ratio, start0]
@[simp] theorem is_ratio_str (b : Str) : d_is_ratio [.val (.str b)] = .ok (.val (.bool false)) := by simp [d_is_ratio, mDef, b_is_ratio, start0]
@[simp] theorem is_ratio_list (b : List PyData) : d_is_ratio [.val (.list b)] = .ok (.val (.bool false)) := by simp [d_is_ratio, mDef, b_is_ratio, start0]
@[simp] theorem is_ratio_dict (b : List (PyData × PyData)) : d_is_ratio [.val (.dict b)] = .ok (.val (.bool false)) := by simp [d_is_ratio, mDef, b_is_ratio, start0]
theorem is_ratio_len {b : List PyData} (h : b.length ≠ 2) : d_is_ratio [.val (.tuple b)] = .ok (.val (.bool false)) := by
  have h' : ¬ ((b.length : Int) = 2) := by omega
  simp [d_is_ratio, mDef, b_is_ratio, start0, h']
theorem is_ratio_two (t b : Int) : d_is_ratio [.val (.tuple [.int t, .int b])] = .ok (.val (.bool (decide (1 ≤ b ∧ Int.gcd t b = 1)))) := by
  by_cases h : b < 1
  · have h' : ¬ (1 ≤ b) := by omega
    simp [d_is_ratio, mDef, b_is_ratio, start0, h, h']
  · have h' : 1 ≤ b := by omega
    simp [d_is_ratio, mDef, b_is_ratio, start0, h, h', divisor_int]
    rw [Bool.beq_eq_decide_eq]
    exact decide_eq_decide.mpr (by omega)
theorem is_ratio_no {x y : PyData} (h : d_is_whole [.val x] = .ok (.val (.bool false)) ∨ (d_is_whole [.val x] = .ok (.val (.bool true)) ∧ d_is_whole [.val y] = .ok (.val (.bool false)))) : d_is_ratio [.val (.tuple [x, y])] = .ok (.val (.bool false)) := by
  rcases h with h | ⟨h1, h2⟩
  · simp [d_is_ratio, mDef, b_is_ratio, start0, h]
  · simp [d_is_ratio, mDef, b_is_ratio, start0, h1, h2]
theorem q_pos (q : Rat) : (1 : Int) ≤ (q.den : Int) := by have := q.den_pos; omega
theorem q_gcd (q : Rat) : Int.gcd q.num (q.den : Int) = 1 := by have := q.reduced; simpa [Int.gcd, Nat.Coprime] using this
@[simp] theorem is_ratio_q (q : Rat) : d_is_ratio [.val (qD q)] = .ok (.val (.bool true)) := by
  unfold qD
  rw [is_ratio_two]
  simp [q_pos q, q_gcd q]
/-! ratio -/
theorem ratio_0 (t : Int) : d_ratio [.val (.int t), .val (.int 0)] = .exc ⟨.NoNumber, []⟩ := by simp [d_ratio, mDef, b_ratio, start0]
theorem gcd_fits {t b : Int} (hb : b ≠ 0) (hs : b.natAbs.log2 < 9000) : (Int.gcd t b).log2 < 9000 := by
  have h1 : Int.gcd t b ≤ b.natAbs := Nat.le_of_dvd (by omega) (Nat.gcd_dvd_right _ _)
  by_cases h0 : Int.gcd t b = 0
  · rw [h0]; decide
  · exact Nat.lt_of_le_of_lt ((Nat.le_log2 (by omega)).mpr (Nat.le_trans (Nat.log2_self_le h0) h1)) hs
theorem ratio_ok {t b : Int} (hb : b ≠ 0) (hs : b.natAbs.log2 < 9000) : d_ratio [.val (.int t), .val (.int b)] = .ok (.val (qD (Rat.divInt t b))) := by
  have hg : 0 < Int.gcd t b := Nat.gcd_pos_of_pos_right _ (by omega)
  have hf := gcd_fits (t := t) hb hs
  have hgb : ((Int.gcd t b : Nat) : Int) ∣ b := Int.gcd_dvd_right ..
  have hgt : ((Int.gcd t b : Nat) : Int) ∣ t := Int.gcd_dvd_left ..
  unfold qD
  rw [Rat.num_divInt, Rat.den_divInt, if_neg hb, Int.gcd_comm b t]
  generalize hgg : Int.gcd t b = g at *
  obtain ⟨u, hu⟩ := hgt
  obtain ⟨v, hv⟩ := hgb
  have hg0 : ((g : Nat) : Int) ≠ 0 := by omega
  by_cases h : b < 0
  · have h' : ¬ (0 < b) := by omega
    have hc : ∀ z : Int, divF (.int z) (.int (-(g : Int))) = .ok (.val (.int (z.fdiv (-(g : Int))))) := fun z => by
      have hc : CDivA z (-(g : Int)) := ⟨by omega, PyProof.noPylong_of_log2 (by rw [show (-(g : Int)).natAbs = g by omega]; exact hf)⟩
      show (if CDivA z (-(g : Int)) then okI (z.fdiv (-(g : Int))) else .stuck) = _
      rw [if_pos hc]
      rfl
    have e1 : t.fdiv (-(g : Int)) = b.sign * t / (g : Int) := by
      have es : b.sign = -1 := Int.sign_eq_neg_one_of_neg h
      rw [es, hu, show (-1 : Int) * ((g : Int) * u) = (g : Int) * (-u) by rw [Int.mul_neg, Int.neg_mul, Int.one_mul], Int.mul_ediv_cancel_left _ hg0, show (g : Int) * u = (-(g : Int)) * (-u) by rw [Int.neg_mul_neg]]
      exact Int.mul_fdiv_cancel_left _ (by omega)
    have e2 : b.fdiv (-(g : Int)) = ((b.natAbs / g : Nat) : Int) := by
      have hv0 : v < 0 := by
        rcases Int.lt_trichotomy v 0 with z | z | z
        · exact z
        · subst z; omega
        · have := Int.mul_pos (show (0 : Int) < (g : Int) by omega) z; omega
      have en : b.natAbs = g * v.natAbs := by rw [hv, Int.natAbs_mul]; simp
      rw [en, Nat.mul_div_cancel_left _ hg, hv, show (g : Int) * v = (-(g : Int)) * (-v) by rw [Int.neg_mul_neg], Int.mul_fdiv_cancel_left _ (by omega)]
      omega
    simp only [d_ratio, mDef, b_ratio, start0]
    simp [hb, h, divisor_int, hgg] 
    simp [hc, fits_of, e1, e2]
  · have h' : 0 < b := by omega
    have hc : ∀ z : Int, divF (.int z) (.int (g : Int)) = .ok (.val (.int (z / (g : Int)))) := fun z => divF_pos (by omega) (by simpa using hf)
    have e1 : t / (g : Int) = b.sign * t / (g : Int) := by rw [Int.sign_eq_one_of_pos h', Int.one_mul]
    have e2 : b / (g : Int) = ((b.natAbs / g : Nat) : Int) := by
      have en : ((b.natAbs : Nat) : Int) = b := by omega
      rw [Int.natCast_ediv, en]
    simp only [d_ratio, mDef, b_ratio, start0]
    simp [hb, h, divisor_int, hgg, hc]
    simp [fits_of, ← e1, e2]
theorem divInt_num_le {t b : Int} : (Rat.divInt t b).num.natAbs ≤ t.natAbs := by
  rw [Rat.num_divInt]
  have h1 : (b.sign * t).natAbs ≤ t.natAbs := by
    rw [Int.natAbs_mul]
    have : b.sign.natAbs ≤ 1 := by
      rcases Int.lt_trichotomy b 0 with h | h | h
      · rw [Int.sign_eq_neg_one_of_neg h]; decide
      · subst h; decide
      · rw [Int.sign_eq_one_of_pos h]; decide
    calc b.sign.natAbs * t.natAbs ≤ 1 * t.natAbs := Nat.mul_le_mul_right _ this
      _ = t.natAbs := Nat.one_mul _
  exact Nat.le_trans (Int.natAbs_ediv_le_natAbs _ _) h1
theorem divInt_den_le {t b : Int} (hb : b ≠ 0) : (Rat.divInt t b).den ≤ b.natAbs := by
  rw [Rat.den_divInt, if_neg hb]
  exact Nat.div_le_self _ _
theorem divInt_cross {t b : Int} (hb : b ≠ 0) : (Rat.divInt t b).num * b = t * ((Rat.divInt t b).den : Int) := by
  have h := Rat.num_divInt_den (Rat.divInt t b)
  exact (Rat.divInt_eq_divInt_iff (by have := (Rat.divInt t b).den_pos; omega) hb).mp h
end Pg
/-! DR2: plus, minus, times, over, under over Rat, with sizes -/
namespace Pg
open PySem L2 DL
/-- below 2 ^ n above and below -/
def Sz (n : Nat) (q : Rat) : Prop := q.num.natAbs < 2 ^ n ∧ q.den < 2 ^ n
theorem Sz.mono {m n : Nat} {q : Rat} (h : Sz m q) (hm : m ≤ n) : Sz n q :=
  ⟨Nat.lt_of_lt_of_le h.1 (Nat.pow_le_pow_right (by decide) hm), Nat.lt_of_lt_of_le h.2 (Nat.pow_le_pow_right (by decide) hm)⟩
theorem den0 (q : Rat) : (q.den : Int) ≠ 0 := by have := q.den_pos; omega
theorem mul_lt_pow {a b : Int} {m n : Nat} (ha : a.natAbs < 2 ^ m) (hb : b.natAbs < 2 ^ n) : (a * b).natAbs < 2 ^ (m + n) := L2.wide_lt ha hb
theorem add_lt_pow {a b : Int} {n : Nat} (ha : a.natAbs < 2 ^ n) (hb : b.natAbs < 2 ^ n) : (a + b).natAbs < 2 ^ (n + 1) := by rw [Nat.pow_succ]; omega
theorem sub_lt_pow {a b : Int} {n : Nat} (ha : a.natAbs < 2 ^ n) (hb : b.natAbs < 2 ^ n) : (a - b).natAbs < 2 ^ (n + 1) := by rw [Nat.pow_succ]; omega
theorem sz_divInt {t b : Int} {n : Nat} (hb : b ≠ 0) (h1 : t.natAbs < 2 ^ n) (h2 : b.natAbs < 2 ^ n) : Sz n (Rat.divInt t b) := ⟨Nat.lt_of_le_of_lt divInt_num_le h1, Nat.lt_of_le_of_lt (divInt_den_le hb) h2⟩
theorem add_divInt (p q : Rat) : p + q = Rat.divInt (p.num * q.den + q.num * p.den) (p.den * q.den) := by
  conv => lhs; rw [← Rat.num_divInt_den p, ← Rat.num_divInt_den q]
  exact Rat.divInt_add_divInt _ _ (den0 p) (den0 q)
theorem sub_divInt (p q : Rat) : p - q = Rat.divInt (p.num * q.den - q.num * p.den) (p.den * q.den) := by
  conv => lhs; rw [← Rat.num_divInt_den p, ← Rat.num_divInt_den q]
  exact Rat.divInt_sub_divInt _ _ (den0 p) (den0 q)
theorem mul_divInt (p q : Rat) : p * q = Rat.divInt (p.num * q.num) (p.den * q.den) := by
  conv => lhs; rw [← Rat.num_divInt_den p, ← Rat.num_divInt_den q]
  exact Rat.divInt_mul_divInt _ _
theorem div_divInt (p q : Rat) : p / q = Rat.divInt (p.num * q.den) (p.den * q.num) := by
  rw [Rat.div_def, Rat.inv_def]
  conv => lhs; rw [← Rat.num_divInt_den p]
  exact Rat.divInt_mul_divInt _ _
theorem den_mul_ne (p q : Rat) : (p.den : Int) * (q.den : Int) ≠ 0 := Int.mul_ne_zero (den0 p) (den0 q)
theorem sz_add {p q : Rat} {n : Nat} (hp : Sz n p) (hq : Sz n q) : Sz (2 * n + 1) (p + q) := by
  rw [add_divInt]
  have a := mul_lt_pow hp.1 (b := (q.den : Int)) (by simpa using hq.2)
  have b := mul_lt_pow hq.1 (b := (p.den : Int)) (by simpa using hp.2)
  have c := mul_lt_pow (a := (p.den : Int)) (b := (q.den : Int)) (by simpa using hp.2) (by simpa using hq.2)
  rw [show 2 * n + 1 = n + n + 1 by omega]
  exact sz_divInt (den_mul_ne p q) (add_lt_pow a b) (Nat.lt_of_lt_of_le c (Nat.pow_le_pow_right (by decide) (by omega)))
theorem sz_sub {p q : Rat} {n : Nat} (hp : Sz n p) (hq : Sz n q) : Sz (2 * n + 1) (p - q) := by
  rw [sub_divInt]
  have a := mul_lt_pow hp.1 (b := (q.den : Int)) (by simpa using hq.2)
  have b := mul_lt_pow hq.1 (b := (p.den : Int)) (by simpa using hp.2)
  have c := mul_lt_pow (a := (p.den : Int)) (b := (q.den : Int)) (by simpa using hp.2) (by simpa using hq.2)
  rw [show 2 * n + 1 = n + n + 1 by omega]
  exact sz_divInt (den_mul_ne p q) (sub_lt_pow a b) (Nat.lt_of_lt_of_le c (Nat.pow_le_pow_right (by decide) (by omega)))
theorem sz_mul {p q : Rat} {n : Nat} (hp : Sz n p) (hq : Sz n q) : Sz (2 * n) (p * q) := by
  rw [mul_divInt, show 2 * n = n + n by omega]
  exact sz_divInt (den_mul_ne p q) (mul_lt_pow hp.1 hq.1) (mul_lt_pow (a := (p.den : Int)) (b := (q.den : Int)) (by simpa using hp.2) (by simpa using hq.2))
theorem num_ne {q : Rat} (h : q ≠ 0) : q.num ≠ 0 := fun e => h (Rat.num_eq_zero.mp e)
theorem sz_div {p q : Rat} {n : Nat} (hp : Sz n p) (hq : Sz n q) (h0 : q ≠ 0) : Sz (2 * n) (p / q) := by
  rw [div_divInt, show 2 * n = n + n by omega]
  exact sz_divInt (Int.mul_ne_zero (den0 p) (num_ne h0)) (mul_lt_pow hp.1 (b := (q.den : Int)) (by simpa using hq.2)) (mul_lt_pow (a := (p.den : Int)) (by simpa using hp.2) hq.1)
theorem neg_num (q : Rat) : (-q).num = -q.num := rfl
theorem neg_den (q : Rat) : (-q).den = q.den := rfl
theorem sz_neg {q : Rat} {n : Nat} (hq : Sz n q) : Sz n (-q) := ⟨by rw [neg_num]; simpa using hq.1, hq.2⟩
/-- the product that the program takes -/
theorem mul_in {a b : Int} {n : Nat} (h0 : 0 < n) (h : n ≤ 60000000) (ha : a.natAbs < 2 ^ n) (hb : b.natAbs < 2 ^ n) : mulF (.int a) (.int b) = .ok (.val (.int (a * b))) := mulF_ok' (mulOk_pow h0 h0 ha hb (by omega))
theorem log_mul {a b : Int} {n : Nat} (h0 : 0 < n) (h : n ≤ 4499) (ha : a.natAbs < 2 ^ n) (hb : b.natAbs < 2 ^ n) : (a * b).natAbs.log2 < 9000 := Nat.lt_trans (log2_lt (k := n + n) (by omega) (mul_lt_pow ha hb)) (by omega)
theorem plus_q {p q : Rat} {n : Nat} (h0 : 0 < n) (h : n ≤ 4499) (hp : Sz n p) (hq : Sz n q) : d_plus [.val (qD p), .val (qD q)] = .ok (.val (qD (p + q))) := by
  have hn : n ≤ 60000000 := by omega
  have pd : (p.den : Int).natAbs < 2 ^ n := by simpa using hp.2
  have qd : (q.den : Int).natAbs < 2 ^ n := by simpa using hq.2
  rw [add_divInt]
  simp [d_plus, mDef, b_plus, start0, qD, mul_in h0 hn hp.1 qd, mul_in h0 hn hq.1 pd, mul_in h0 hn pd qd]
  rw [ratio_ok (den_mul_ne p q) (log_mul h0 h pd qd)]
  simp [qD]
theorem minus_q {p q : Rat} {n : Nat} (h0 : 0 < n) (h : n ≤ 4499) (hp : Sz n p) (hq : Sz n q) : d_minus [.val (qD p), .val (qD q)] = .ok (.val (qD (p - q))) := by
  have hn : n ≤ 60000000 := by omega
  have pd : (p.den : Int).natAbs < 2 ^ n := by simpa using hp.2
  have qd : (q.den : Int).natAbs < 2 ^ n := by simpa using hq.2
  rw [sub_divInt]
  simp [d_minus, mDef, b_minus, start0, qD, mul_in h0 hn hp.1 qd, mul_in h0 hn hq.1 pd, mul_in h0 hn pd qd]
  rw [ratio_ok (den_mul_ne p q) (log_mul h0 h pd qd)]
  simp [qD]
theorem times_q {p q : Rat} {n : Nat} (h0 : 0 < n) (h : n ≤ 4499) (hp : Sz n p) (hq : Sz n q) : d_times [.val (qD p), .val (qD q)] = .ok (.val (qD (p * q))) := by
  have hn : n ≤ 60000000 := by omega
  have pd : (p.den : Int).natAbs < 2 ^ n := by simpa using hp.2
  have qd : (q.den : Int).natAbs < 2 ^ n := by simpa using hq.2
  rw [mul_divInt]
  simp [d_times, mDef, b_times, start0, qD, mul_in h0 hn hp.1 hq.1, mul_in h0 hn pd qd]
  rw [ratio_ok (den_mul_ne p q) (log_mul h0 h pd qd)]
  simp [qD]
theorem over_q {p q : Rat} {n : Nat} (h0 : 0 < n) (h : n ≤ 4499) (hp : Sz n p) (hq : Sz n q) (hz : q ≠ 0) : d_over [.val (qD p), .val (qD q)] = .ok (.val (qD (p / q))) := by
  have hn : n ≤ 60000000 := by omega
  have pd : (p.den : Int).natAbs < 2 ^ n := by simpa using hp.2
  have qd : (q.den : Int).natAbs < 2 ^ n := by simpa using hq.2
  rw [div_divInt]
  simp [d_over, mDef, b_over, start0, qD, mul_in h0 hn hp.1 qd, mul_in h0 hn pd hq.1]
  rw [ratio_ok (Int.mul_ne_zero (den0 p) (num_ne hz)) (log_mul h0 h pd hq.1)]
  simp [qD]
theorem over_0 {p : Rat} {n : Nat} (h0 : 0 < n) (h : n ≤ 4499) (hp : Sz n p) : d_over [.val (qD p), .val (qD 0)] = .exc ⟨.NoNumber, []⟩ := by
  simp [d_over, mDef, b_over, start0, qD, ratio_0]
theorem under_q {p q : Rat} {n : Nat} (h0 : 0 < n) (h : n ≤ 60000000) (hp : Sz n p) (hq : Sz n q) : d_under [.val (qD p), .val (qD q)] = .ok (.val (.bool (decide (p < q)))) := by
  have pd : (p.den : Int).natAbs < 2 ^ n := by simpa using hp.2
  have qd : (q.den : Int).natAbs < 2 ^ n := by simpa using hq.2
  simp [d_under, mDef, b_under, start0, qD, mul_in h0 h hp.1 qd, mul_in h0 h hq.1 pd, Rat.lt_iff]
theorem qD_inj {p q : Rat} : qD p = qD q ↔ p = q := by
  constructor
  · intro h
    simp only [qD, PyData.tuple.injEq, List.cons.injEq, PyData.int.injEq, and_true, Int.ofNat_inj] at h
    exact Rat.ext h.1 h.2
  · intro h; rw [h]
end Pg
namespace Pg
open PySem L2 DL
theorem qD_low {t b : Int} (hb : 0 < b) : qD (Rat.divInt t b) = .tuple [.int (t / ((Int.gcd t b : Nat) : Int)), .int (b / ((Int.gcd t b : Nat) : Int))] := by
  unfold qD
  rw [Rat.num_divInt, Rat.den_divInt, if_neg (by omega), Int.gcd_comm b t, Int.sign_eq_one_of_pos hb, Int.one_mul, Int.natCast_ediv, show ((b.natAbs : Nat) : Int) = b by omega]
theorem divF_gcd {t b z : Int} (hb : 0 < b) (hs : b.natAbs.log2 < 9000) : divF (.int z) (.int ((Int.gcd t b : Nat) : Int)) = .ok (.val (.int (z / ((Int.gcd t b : Nat) : Int)))) :=
  divF_pos (by have : 0 < Int.gcd t b := Nat.gcd_pos_of_pos_right _ (by omega)
               omega) (by simpa using gcd_fits (t := t) (by omega) hs)
end Pg
namespace Pg
open PySem L2 DL
@[simp] theorem ixF_q0 {q : Rat} : ixF (qD q) (.int 0) = .ok (.val (.int q.num)) := by simp [qD]
@[simp] theorem ixF_q1 {q : Rat} : ixF (qD q) (.int 1) = .ok (.val (.int (q.den : Int))) := by simp [qD]
@[simp] theorem lenF_q {q : Rat} : lenF [qD q] = .ok (.val (.int 2)) := by simp [qD]
@[simp] theorem ty_q {q : Rat} : tyD (qD q) = "tuple" := rfl
@[simp] theorem eqv_qq {p q : Rat} : (qD p).eqv (qD q) = decide (p = q) := by
  have e : p = q ↔ p.num = q.num ∧ p.den = q.den := ⟨fun h => by rw [h]; exact ⟨rfl, rfl⟩, fun h => Rat.ext h.1 h.2⟩
  have e2 : decide ((p.den : Int) = (q.den : Int)) = decide (p.den = q.den) := decide_eq_decide.mpr (by omega)
  simp [qD, PyData.eqv, PyData.eqvAll, e, Bool.beq_eq_decide_eq, e2]
@[simp] theorem eqF_qq {p q : Rat} : eqF (qD p) (qD q) = .ok (.val (.bool (decide (p = q)))) := by
  have h : SeqAt.shaped (qD p) = true := by simp [qD, SeqAt.shaped, PyData.canLay0, PyData.canLayAll0, PyData.depth, PyData.depthAll]
  have h' : SeqAt.shaped (qD q) = true := by simp [qD, SeqAt.shaped, PyData.canLay0, PyData.canLayAll0, PyData.depth, PyData.depthAll]
  simp [eqF, h, h']
@[simp] theorem neF_qq {p q : Rat} : neF (qD p) (qD q) = .ok (.val (.bool (!decide (p = q)))) := by
  have h : SeqAt.shaped (qD p) = true := by simp [qD, SeqAt.shaped, PyData.canLay0, PyData.canLayAll0, PyData.depth, PyData.depthAll]
  have h' : SeqAt.shaped (qD q) = true := by simp [qD, SeqAt.shaped, PyData.canLay0, PyData.canLayAll0, PyData.depth, PyData.depthAll]
  simp [neF, h, h']
end Pg
namespace Pg
open PySem L2 DL
@[simp] theorem isF_q {q : Rat} {n : Bool} : isF n (qD q) .none = .ok (.val (.bool n)) := by cases n <;> rfl
@[simp] theorem isF_nn {n : Bool} : isF n .none .none = .ok (.val (.bool (!n))) := by cases n <;> rfl
theorem qD_neg {q : Rat} : qD (-q) = .tuple [.int (0 - q.num), .int (q.den : Int)] := by simp [qD, neg_num, neg_den]
end Pg
namespace Pg
open PySem L2 DL
theorem sz_add2 {p q : Rat} {m n : Nat} (hp : Sz m p) (hq : Sz n q) : Sz (m + n + 1) (p + q) := by
  rw [add_divInt]
  have a := mul_lt_pow hp.1 (b := (q.den : Int)) (n := n) (by simpa using hq.2)
  have b := mul_lt_pow hq.1 (b := (p.den : Int)) (n := m) (by simpa using hp.2)
  have c := mul_lt_pow (a := (p.den : Int)) (b := (q.den : Int)) (m := m) (n := n) (by simpa using hp.2) (by simpa using hq.2)
  rw [Nat.add_comm n m] at b
  exact sz_divInt (den_mul_ne p q) (add_lt_pow a b) (Nat.lt_of_lt_of_le c (Nat.pow_le_pow_right (by decide) (by omega)))
theorem mul_in2 {a b : Int} {m n : Nat} (h0 : 0 < m) (h1 : 0 < n) (h : m + n ≤ 60000000) (ha : a.natAbs < 2 ^ m) (hb : b.natAbs < 2 ^ n) : mulF (.int a) (.int b) = .ok (.val (.int (a * b))) := mulF_ok' (mulOk_pow h0 h1 ha hb (by omega))
theorem log_mul2 {a b : Int} {m n : Nat} (h0 : 0 < m) (h : m + n ≤ 8999) (ha : a.natAbs < 2 ^ m) (hb : b.natAbs < 2 ^ n) : (a * b).natAbs.log2 < 9000 := Nat.lt_trans (log2_lt (k := m + n) (by omega) (mul_lt_pow ha hb)) (by omega)
theorem plus_q2 {p q : Rat} {m n : Nat} (h0 : 0 < m) (h1 : 0 < n) (h : m + n ≤ 8999) (hp : Sz m p) (hq : Sz n q) : d_plus [.val (qD p), .val (qD q)] = .ok (.val (qD (p + q))) := by
  have hn : m + n ≤ 60000000 := by omega
  have hn' : n + m ≤ 60000000 := by omega
  have pd : (p.den : Int).natAbs < 2 ^ m := by simpa using hp.2
  have qd : (q.den : Int).natAbs < 2 ^ n := by simpa using hq.2
  rw [add_divInt]
  simp [d_plus, mDef, b_plus, start0, mul_in2 h0 h1 hn hp.1 qd, mul_in2 h1 h0 hn' hq.1 pd, mul_in2 h0 h1 hn pd qd]
  rw [ratio_ok (den_mul_ne p q) (log_mul2 h0 h pd qd)]
  simp
/-- the sum -/
def sumQ : List Rat → Rat
  | [] => 0
  | q :: qs => q + sumQ qs
theorem sumQ_append (a b : List Rat) : sumQ (a ++ b) = sumQ a + sumQ b := by
  induction a with
  | nil => simp [sumQ, Rat.zero_add]
  | cons q qs ih => simp only [List.cons_append, sumQ, ih]; grind
theorem sumQ_reverse (a : List Rat) : sumQ a.reverse = sumQ a := by
  induction a with
  | nil => rfl
  | cons q qs ih => simp only [List.reverse_cons, sumQ_append, ih, sumQ]; grind
theorem sz_sum {n : Nat} : ∀ {qs : List Rat}, (∀ q ∈ qs, Sz n q) → Sz (1 + qs.length * (n + 1)) (sumQ qs)
  | [], _ => by simp [sumQ, Sz]
  | q :: qs, h => by
    have a := sz_sum (n := n) (qs := qs) fun q hq => h q (List.mem_cons_of_mem _ hq)
    have b := sz_add2 (h q List.mem_cons_self) a
    refine b.mono ?_
    rw [List.length_cons, Nat.succ_mul]
    omega
theorem total_loop {n : Nat} (hn : 0 < n) (L : Option Slot) : ∀ {qs : List Rat} {m : Nat} {acc : Rat} (o : Option Slot), (∀ q ∈ qs, Sz n q) → 0 < m → m + qs.length * (n + 1) ≤ 8999 → Sz m acc →
    ∃ o', loopO (mgN 2) (mFrz 1 (mAsg 1 (mCall Pg.d_plus (mACons (mVar 1) (mACons (mVar 2) mANil))))) (qs.map qD) [L, some (.val (qD acc)), o] = .nx [L, some (.val (qD (acc + sumQ qs))), o']
  | [], m, acc, o, _, _, _, _ => ⟨o, by simp [sumQ, Rat.add_zero]⟩
  | q :: qs, m, acc, o, h, h0, h1, ha => by
    rw [List.length_cons, Nat.succ_mul] at h1
    have hq := h q List.mem_cons_self
    have e := plus_q2 h0 hn (by omega) ha hq
    obtain ⟨o', e'⟩ := total_loop hn L (qs := qs) (m := m + n + 1) (acc := acc + q) (some (.val (qD q))) (fun q hq => h q (List.mem_cons_of_mem _ hq)) (by omega) (by omega) (sz_add2 ha hq)
    refine ⟨o', ?_⟩
    have es : acc + sumQ (q :: qs) = acc + q + sumQ qs := by simp only [sumQ]; grind
    rw [es, ← e']
    simp [frz, e]
theorem qD_int (a : Int) : qD (a : Rat) = .tuple [.int a, .int 1] := rfl
/-- total, of a list that is kept or lent -/
theorem total_q {n : Nat} {qs : List Rat} {s : Slot} (hs : s = .val (.list (qs.map qD)) ∨ s = .bor (.list (qs.map qD)) ∨ s = .val (.tuple (qs.map qD))) (hn : 0 < n) (h : ∀ q ∈ qs, Sz n q) (hl : 1 + qs.length * (n + 1) ≤ 8999) : d_total [s] = .ok (.val (qD (sumQ qs))) := by
  obtain ⟨o', e⟩ := total_loop hn (some s) (m := 1) (acc := 0) none h (by decide) hl ⟨by decide, by decide⟩
  rw [Rat.zero_add] at e
  have e0 : PyData.tuple [.int 0, .int 1] = qD 0 := rfl
  rcases hs with rfl | rfl | rfl <;> simp [d_total, mDef, b_total, start0, fits_of, e0, e]
end Pg
namespace Pg
open PySem L2 DL
@[simp] theorem seqOf_q {q : Rat} : seqOf (qD q) = .ok [.int q.num, .int (q.den : Int)] := by simp [qD]
end Pg
namespace Pg
open PySem L2 DL
theorem can_qs : ∀ qs : List Rat, PyData.canLayAll0 (qs.map qD) = true
  | [] => by simp [PyData.canLayAll0]
  | q :: qs => by simp [PyData.canLayAll0, qD, PyData.canLay0, can_qs qs]
theorem depth_qs : ∀ qs : List Rat, PyData.depthAll (qs.map qD) ≤ 1
  | [] => by simp [PyData.depthAll]
  | q :: qs => by
    have := depth_qs qs
    simp [PyData.depthAll, qD, PyData.depth]
    omega
theorem shaped_qs (qs : List Rat) : SeqAt.shaped (.list (qs.map qD)) = true := by
  have := depth_qs qs
  have h : PyData.depthAll (qs.map qD) + 1 ≤ 64 := by omega
  simp [SeqAt.shaped, PyData.canLay0, can_qs qs, PyData.depth]
  omega
end Pg
set_option exponentiation.threshold 20000
/-! DR3: fractions as text -/
namespace Pg
open PySem L2 DL TL
/-- str(i) -/
def iS (i : Int) : Str := Str.ofString (toString i)
abbrev tn (n : Nat) : Str := iS (n : Int)
theorem tl_tn (n : Nat) : tl (tn n) = numL n := tl_num n
theorem strF_iS {i : Int} (h : i.natAbs.log2 < 1920) : strF [.int i] = .ok (.val (.str (iS i))) := strF_int h
theorem tl_neg (n : Nat) : tl (Str.ofString (toString (-((n + 1 : Nat) : Int)))) = 45 :: numL (n + 1) := by
  rw [show toString (-((n + 1 : Nat) : Int)) = "-" ++ toString ((n + 1 : Nat) : Int) from rfl, tl_ofString, String.toList_append, List.map_append, ← tl_ofString, ← tl_ofString, tl_num]
  rfl
theorem tl_int (i : Int) : tl (iS i) = (if i < 0 then [45] else []) ++ numL i.natAbs := by
  by_cases h : i < 0
  · obtain ⟨n, rfl⟩ : ∃ n : Nat, i = -((n + 1 : Nat) : Int) := ⟨i.natAbs - 1, by omega⟩
    unfold iS
    rw [tl_neg, if_pos h, show (-((n + 1 : Nat) : Int)).natAbs = n + 1 by omega]
    rfl
  · obtain ⟨n, rfl⟩ : ∃ n : Nat, i = (n : Int) := ⟨i.natAbs, by omega⟩
    unfold iS
    rw [tl_num, if_neg h]
    rfl
theorem len_int {i : Int} {k : Nat} (hk : 0 < k) (h : i.natAbs < 10 ^ k) : (iS i).length ≤ k + 1 := by
  rw [len_tl, tl_int, List.length_append]
  have := numL_len hk h
  split <;> simp <;> omega
theorem log_10 {n : Nat} (h : n < 10 ^ 500) : n.log2 < 1920 := Nat.lt_trans (log2_lt (k := 1700) (by decide) (Nat.lt_trans h (by decide))) (by decide)
/-- a fraction's text -/
def showQ (q : Rat) : Str := if q.den = 1 then iS q.num else iS q.num ++ "/" ++ iS (q.den : Int)
theorem show_q {q : Rat} (hn : q.num.natAbs < 10 ^ 500) (hd : q.den < 10 ^ 500) : d_show_ratio [.val (qD q)] = .ok (.val (.str (showQ q))) := by
  have l1 := len_int (by decide) hn
  have l2 := len_int (i := (q.den : Int)) (k := 500) (by decide) (by simpa using hd)
  have s1 := strF_iS (log_10 hn)
  have s2 := strF_iS (i := (q.den : Int)) (log_10 (by simpa using hd))
  have l3 : (iS q.num ++ ("/" : Str)).length ≤ 600 := by
    rw [len_tl, tl_append, List.length_append, ← len_tl]
    have : (tl ("/" : Str)).length = 1 := by decide
    omega
  have a1 := addF_str (x := iS q.num) (y := "/") (by
    have : ("/" : Str).length = 1 := by decide
    omega)
  have a2 := addF_str (x := iS q.num ++ ("/" : Str)) (y := iS (q.den : Int)) (by omega)
  unfold showQ
  by_cases h : q.den = 1
  · have h' : (q.den : Int) = 1 := by omega
    simp [d_show_ratio, mDef, b_show_ratio, start0, h', s1]
    simp [h]
  · have h' : ¬ (q.den : Int) = 1 := by omega
    simp [d_show_ratio, mDef, b_show_ratio, start0, h', s1, s2, a1, a2]
    simp [h]
/-! reading -/
theorem tl_cut1 (z : Str) : tl (cutS z (some 1) none) = (tl z).drop 1 := by
  have e : HT.sIx z.length 0 (some 1) = min 1 z.length := by
    unfold HT.sIx
    simp only
    rw [if_neg (by omega)]
    rfl
  unfold cutS
  rw [e, HT.sIx_none]
  show ((tl z).drop (min 1 z.length)).take (z.length - min 1 z.length) = _
  rw [len_tl]
  rcases Nat.le_total 1 (tl z).length with q | q
  · rw [Nat.min_eq_left q, ← List.length_drop, List.take_length]
  · rw [Nat.min_eq_right q, List.drop_length, List.drop_of_length_le q, List.take_nil]
theorem starts_iff {z y : Str} (hy : tl y ≠ []) : Txt.startswith z y = pre (tl y) (tl z) := by
  have h := at_iff (x := z) (y := y) hy 0
  rw [List.drop_zero] at h
  rw [Bool.eq_iff_iff, ← h]
  show (decide (0 + y.length ≤ z.length) && Builtin.Str.subAt z y 0) = true ↔ _
  rw [Bool.and_eq_true, decide_eq_true_iff]
  exact Iff.rfl
theorem tl_minus : tl ("-" : Str) = [45] := by decide
theorem tl_slash : tl ("/" : Str) = [47] := by decide
theorem split_none {z : Str} (h : 47 ∉ tl z) : Txt.split z "/" = [z] := by
  refine map_tl_inj ?_
  rw [split_spl _ _ (by rw [tl_slash]; simp) (kind_ok (by decide +kernel)), tl_slash, spl_last1 h]
  rfl
theorem split_two {a b : Str} (ha : 47 ∉ tl a) (hb : 47 ∉ tl b) : Txt.split (a ++ "/" ++ b) "/" = [a, b] := by
  refine map_tl_inj ?_
  rw [split_spl _ _ (by rw [tl_slash]; simp) (kind_ok (by decide +kernel)), tl_append, tl_append, tl_slash, List.append_assoc, spl_part1 ha, spl_last1 hb]
  rfl
theorem fig_in : ∀ c : Nat, 48 ≤ c → c ≤ 57 → strIn ⟨#[c]⟩ "0123456789" = true := by
  intro c h1 h2
  have : c = 48 ∨ c = 49 ∨ c = 50 ∨ c = 51 ∨ c = 52 ∨ c = 53 ∨ c = 54 ∨ c = 55 ∨ c = 56 ∨ c = 57 := by omega
  rcases this with h | h | h | h | h | h | h | h | h | h <;> subst h <;> decide +kernel
theorem number_of_num {n : Nat} (h : n < 10 ^ 30) : d_number_of [.val (.str (tn n))] = .ok (.val (.int (n : Int))) := by
  have hl : (tn n).length ≤ 30 := by rw [len_tl, tl_tn]; exact numL_len (by decide) h
  have hl0 : 1 ≤ (tn n).length := by
    rw [len_tl, tl_tn]
    exact List.length_pos_iff.mpr (numL_ne n)
  have e1 := lenF_str (z := tn n) (by omega)
  have e2 := intSF_str (z := tn n) (n := (n : Int)) (int_num (by have := numL_len (k := 30) (by decide) h; omega)) (by omega)
  have e3 : ∃ o, loopO (mgN 1) (mIf (mTest (mB (inF true) (mR (mVar 1)) (mR (mC (.str "0123456789"))))) (mRaise ⟨.NoText, []⟩) mNext) (signs (tn n)) [some (.val (.str (tn n))), none] = .nx [some (.val (.str (tn n))), o] := by
    have hz : ∀ c ∈ tl (tn n), 48 ≤ c ∧ c ≤ 57 := fun c hc => by rw [tl_tn] at hc; exact numL_digits n c hc
    unfold signs
    show ∃ o, loopO _ _ ((tl (tn n)).map _) _ = _
    generalize tn n = z at hz
    generalize hc : tl z = cs at hz
    clear hc
    have : ∀ (cs : List Nat) (o : Option DL.Slot), (∀ c ∈ cs, 48 ≤ c ∧ c ≤ 57) → ∃ o', loopO (mgN 1) (mIf (mTest (mB (inF true) (mR (mVar 1)) (mR (mC (.str "0123456789"))))) (mRaise ⟨.NoText, []⟩) mNext) (cs.map fun c => PyData.str ⟨#[c]⟩) [some (.val (.str z)), o] = .nx [some (.val (.str z)), o'] := by
      intro cs
      induction cs with
      | nil => intro o _; exact ⟨o, rfl⟩
      | cons c cs ih =>
        intro o hz
        have hc := hz c List.mem_cons_self
        obtain ⟨o', e⟩ := ih (some (.val (.str ⟨#[c]⟩))) (fun d hd => hz d (List.mem_cons_of_mem _ hd))
        exact ⟨o', by simp [inF_str, fig_in c hc.1 hc.2, e]⟩
    exact this cs none hz
  obtain ⟨o, e3⟩ := e3
  have a1 : (1 : Int) ≤ ((tn n).length : Int) := by omega
  have a2 : ((tn n).length : Int) ≤ 30 := by omega
  simp [d_number_of, mDef, b_number_of, start0, e1, a1, a2, e3, e2]
/-- a fraction's text without its sign -/
def bodyS (a b : Nat) : Str := if b = 1 then tn a else tn a ++ "/" ++ tn b
theorem show_pos {q : Rat} (h : ¬ q.num < 0) : showQ q = bodyS q.num.natAbs q.den := by
  have e : (q.num.natAbs : Int) = q.num := by omega
  unfold showQ bodyS tn
  rw [e]
theorem tl_show_neg {q : Rat} (h : q.num < 0) : tl (showQ q) = 45 :: tl (bodyS q.num.natAbs q.den) := by
  have e : tl (iS q.num) = 45 :: tl (tn q.num.natAbs) := by rw [tl_int, if_pos h, tl_tn]; rfl
  unfold showQ bodyS
  split
  · exact e
  · rw [tl_append, tl_append, e, tl_append, tl_append]; rfl
theorem body_split (a b : Nat) : Txt.split (bodyS a b) "/" = if b = 1 then [tn a] else [tn a, tn b] := by
  have f : ∀ n, 47 ∉ tl (tn n) := fun n => by rw [tl_tn]; exact numL_free (by decide)
  unfold bodyS
  split
  · exact split_none (f a)
  · exact split_two (f a) (f b)
theorem body_len {a b : Nat} (ha : a < 10 ^ 500) (hb : b < 10 ^ 500) : (bodyS a b).length ≤ 1200 := by
  have f : ∀ n, n < 10 ^ 500 → (tl (tn n)).length ≤ 500 := fun n h => by rw [tl_tn]; exact numL_len (by decide) h
  have h1 := f a ha
  have h2 := f b hb
  rw [len_tl]
  unfold bodyS
  split
  · omega
  · rw [tl_append, tl_append, tl_slash, List.length_append, List.length_append]
    simp only [List.length_cons, List.length_nil]
    omega
theorem body_no_minus (a b : Nat) : Txt.startswith (bodyS a b) "-" = false := by
  rw [starts_iff (by rw [tl_minus]; simp), tl_minus]
  obtain ⟨c, r, e⟩ : ∃ c r, tl (tn a) = c :: r := by
    cases h : tl (tn a) with
    | nil => rw [tl_tn] at h; exact absurd h (numL_ne a)
    | cons c r => exact ⟨c, r, rfl⟩
  have hc : c ≠ 45 := by
    have := numL_digits a c (by rw [← tl_tn, e]; exact List.mem_cons_self)
    omega
  have e2 : ∃ r, tl (bodyS a b) = c :: r := by
    unfold bodyS
    split
    · exact ⟨_, e⟩
    · rw [tl_append, tl_append, e]; exact ⟨_, rfl⟩
  obtain ⟨r2, e2⟩ := e2
  rw [e2]
  exact pre_of_head [] r2 hc
theorem digits_ok {x : Str} (h : ∀ c ∈ tl x, c < 128) : PyData.strOk x = true := by
  unfold PyData.strOk
  rw [Array.all_eq_true_iff_forall_mem]
  intro c hc
  exact decide_eq_true (by have := h c (Array.mem_toList_iff.mpr hc); omega)
theorem body_sign (a b : Nat) : ∀ c ∈ tl (bodyS a b), c < 128 := by
  have f : ∀ n, ∀ c ∈ tl (tn n), c < 128 := fun n c h => by rw [tl_tn] at h; have := numL_digits n c h; omega
  intro c hc
  unfold bodyS at hc
  split at hc
  · exact f a c hc
  · rw [tl_append, tl_append, tl_slash] at hc
    simp only [List.mem_append, List.mem_singleton] at hc
    rcases hc with (hc | hc) | hc
    · exact f a c hc
    · omega
    · exact f b c hc
theorem show_ok (q : Rat) : PyData.strOk (showQ q) = true := by
  refine digits_ok fun c hc => ?_
  by_cases h : q.num < 0
  · rw [tl_show_neg h] at hc
    rcases List.mem_cons.mp hc with hc | hc
    · omega
    · exact body_sign _ _ c hc
  · rw [show_pos h] at hc
    exact body_sign _ _ c hc
theorem read_q {q : Rat} (hn : q.num.natAbs < 10 ^ 30) (hd : q.den < 10 ^ 30) : d_read_ratio [.val (.str (showQ q))] = .ok (.val (qD q)) := by
  have hn5 : q.num.natAbs < 10 ^ 500 := Nat.lt_trans hn (by decide)
  have hd5 : q.den < 10 ^ 500 := Nat.lt_trans hd (by decide)
  have hB := body_len hn5 hd5
  have sq := show_q hn5 hd5
  have n1 := number_of_num hn
  have n2 := number_of_num hd
  have ez : (PyData.strOk (showQ q)) = true := show_ok q
  have eb : PyData.strOk (bodyS q.num.natAbs q.den) = true := digits_ok (body_sign _ _)
  have sp := body_split q.num.natAbs q.den
  have hs : splitF (.str (bodyS q.num.natAbs q.den)) (.str "/") = .ok (.own (.list ((Txt.split (bodyS q.num.natAbs q.den) "/").map PyData.str))) := splitF_str (by decide) (by omega)
  rw [sp] at hs
  have cutb : q.num < 0 → cutS (showQ q) (some 1) none = bodyS q.num.natAbs q.den := fun h => ext_tl (by rw [tl_cut1, tl_show_neg h]; rfl)
  have neb : q.num < 0 → (bodyS q.num.natAbs q.den == showQ q) = false := fun h => by
    refine beq_eq_false_iff_ne.mpr fun e => ?_
    have e2 := congrArg (fun x => (tl x).length) e
    simp only [tl_show_neg h, List.length_cons] at e2
    omega
  have lz : (showQ q).length ≤ 10000 := by
    by_cases h : q.num < 0
    · rw [len_tl, tl_show_neg h, List.length_cons, ← len_tl]; omega
    · rw [show_pos h]; omega
  have stn : q.num < 0 → Txt.startswith (showQ q) "-" = true := fun h => by rw [starts_iff (by rw [tl_minus]; simp), tl_minus, tl_show_neg h]; rfl
  generalize hb : bodyS q.num.natAbs q.den = B at *
  generalize hzz : showQ q = Z at *
  by_cases h : q.num < 0
  · have ea : 0 - (q.num.natAbs : Int) = q.num := by omega
    have ne := neF_str eb ez
    rw [neb h] at ne
    by_cases h1 : q.den = 1
    · rw [if_pos h1] at hs
      have eq : PyData.tuple [.int q.num, .int 1] = qD q := by unfold qD; rw [h1]; rfl
      simp [d_read_ratio, mDef, b_read_ratio, start0, stn h, slF_str lz, cutb h, hs, frz, compR, n1, ne, ea, eq, sq, neF_str ez ez]
      done
    · rw [if_neg h1] at hs
      have eq : PyData.tuple [.int q.num, .int (q.den : Int)] = qD q := rfl
      simp [d_read_ratio, mDef, b_read_ratio, start0, stn h, slF_str lz, cutb h, hs, frz, compR, n1, n2, ne, ea, eq, sq, neF_str ez ez]
      done
  · have ez2 : Z = B := by rw [← hzz, ← hb]; exact show_pos h
    subst ez2
    have st := body_no_minus q.num.natAbs q.den
    rw [hb] at st
    have ea : (q.num.natAbs : Int) = q.num := by omega
    by_cases h1 : q.den = 1
    · rw [if_pos h1] at hs
      have eq : PyData.tuple [.int q.num, .int 1] = qD q := by unfold qD; rw [h1]; rfl
      simp [d_read_ratio, mDef, b_read_ratio, start0, st, hs, frz, compR, n1, neF_str eb eb, ea, eq, sq]
      done
    · rw [if_neg h1] at hs
      have eq : PyData.tuple [.int q.num, .int (q.den : Int)] = qD q := rfl
      simp [d_read_ratio, mDef, b_read_ratio, start0, st, hs, frz, compR, n1, n2, neF_str eb eb, ea, eq, sq]
      done
end Pg
namespace Pg
open PySem L2 DL
noncomputable def L_seen_places_1 : MS := (mApp 3 (mV (mTup (mCons (mV (mB addF (mR (mVar 4)) (mR (mTup (mCons (mV (mVar 8)) mNil))))) (mCons (mV (mB ixF (mR (mB ixF (mR (mVar 7)) (mR (mVar 8)))) (mR (mC (.int 0))))) (mCons (mV (mB ixF (mR (mB ixF (mR (mVar 7)) (mR (mVar 8)))) (mR (mC (.int 1))))) mNil))))))
noncomputable def C_seen_places_2 : MT := (mTest (mB neF (mR (mVar 3)) (mR (mLst mNil))))
noncomputable def L_seen_places_3 : MS := (mSeq (mPopG 3 (mgT 3 (mgCons (mgN 4) (mgCons (mgN 5) (mgCons (mgN 6) mgNil))))) (mSeq (mIf (mAnd (mTest (mVar 1)) (mOr (mTest (mB eqF (mR (mBi lenF (mCons (mR (mVar 2)) mNil))) (mR (mC (.int 64))))) (mTest (mB gtF (mR (mBi lenF (mCons (mR (mVar 4)) mNil))) (mR (mC (.int 12))))))) (mRaise ⟨.TooGreat, []⟩) mNext) (mSeq (mApp 2 (mV (mTup (mCons (mV (mVar 4)) (mCons (mV (mVar 5)) (mCons (mV (mVar 6)) mNil)))))) (mSeq (mAsg 7 (mCall Pg.d_branches (mACons (mVar 5) (mACons (mVar 6) mANil)))) (mFor (mgN 8) (mDwn (mV (mBi lenF (mCons (mR (mVar 7)) mNil)))) Pg.L_seen_places_1)))))
noncomputable def b_seen_places : MS := (mSeq (mAsg 2 (mLst mNil)) (mSeq (mAsg 3 (mLst (mCons (mV (mTup (mCons (mV (mTup mNil)) (mCons (mV (mVar 0)) (mCons (mV (mTup (mCons (mV (mTup mNil)) (mCons (mV (mTup mNil)) mNil)))) mNil))))) mNil))) (mSeq (mWhile Pg.C_seen_places_2 Pg.L_seen_places_3) (mRetN 2))))
noncomputable def d_seen_places : F := mDef 9 2 b_seen_places
noncomputable def L_folded_deal_1 : MS := (mSetI 2 (mR (mVar 4)) (mV (mCall Pg.d_plus (mACons (mGet (mR (mVar 2)) (mCons (mV (mVar 4)) (mCons (mV (mTup (mCons (mV (mC (.int 0))) (mCons (mV (mC (.int 1))) mNil)))) mNil))) (mACons (mVar 3) mANil)))))
noncomputable def b_folded_deal : MS := (mSeq (mAsg 2 mDict0) (mSeq (mFor (mgT 2 (mgCons (mgN 3) (mgCons (mgN 4) mgNil))) (miV 1) Pg.L_folded_deal_1) (mSeq (mIf (mTest (mB eqF (mR (mBi lenG (mCons (mR (mVar 2)) mNil))) (mR (mC (.int 1))))) (mRet (mB ixF (mR (mBi listG (mCons (mR (mVar 2)) mNil))) (mR (mC (.int 0))))) mNext) (mFrz 2 (mRet (mTup (mCons (mV (mC (.str "deal"))) (mCons (mV (mVar 0)) (mCons (mV (mBi tupleF (mCons (mR (mComp [4] (mgN 4) (miD (·.1) (mV (mVar 2))) mYes (mV (mTup (mCons (mV (mB gxF (mR (mVar 2)) (mR (mVar 4)))) (mCons (mV (mVar 4)) mNil)))))) mNil))) mNil)))))))))
noncomputable def d_folded_deal : F := mDef 5 2 b_folded_deal
noncomputable def L_folded_1 (rc : F) : MS := (mApp 1 (mV (mTup (mCons (mV (mCall Pg.d_times (mACons (mVar 2) (mACons (mVar 5) mANil)))) (mCons (mV (mVar 6)) mNil)))))
noncomputable def L_folded_2 (rc : F) : MS := (mSeq (mAsg 4 (mCall rc (mACons (mVar 3) mANil))) (mIf (mTest (mB eqF (mR (mB ixF (mR (mVar 4)) (mR (mC (.int 0))))) (mR (mC (.str "deal"))))) (mFor (mgT 2 (mgCons (mgN 5) (mgCons (mgN 6) mgNil))) (miQ (mV (mB ixF (mR (mVar 4)) (mR (mC (.int 2)))))) (Pg.L_folded_1 rc)) (mFrz 4 (mApp 1 (mV (mTup (mCons (mV (mVar 2)) (mCons (mV (mVar 4)) mNil))))))))
noncomputable def b_folded (rc : F) : MS := (mSeq (mIf (mTest (mB eqF (mR (mB ixF (mR (mVar 0)) (mR (mC (.int 0))))) (mR (mC (.str "end"))))) (mRetN 0) mNext) (mSeq (mIf (mTest (mB eqF (mR (mB ixF (mR (mVar 0)) (mR (mC (.int 0))))) (mR (mC (.str "move"))))) (mRet (mTup (mCons (mV (mC (.str "move"))) (mCons (mV (mB ixF (mR (mVar 0)) (mR (mC (.int 1))))) (mCons (mV (mB ixF (mR (mVar 0)) (mR (mC (.int 2))))) (mCons (mV (mBi tupleF (mCons (mR (mComp [7, 3] (mgT 2 (mgCons (mgN 7) (mgCons (mgN 3) mgNil))) (miQ (mV (mB ixF (mR (mVar 0)) (mR (mC (.int 3)))))) mYes (mV (mTup (mCons (mV (mVar 7)) (mCons (mV (mCall rc (mACons (mVar 3) mANil))) mNil)))))) mNil))) mNil)))))) mNext) (mSeq (mAsg 1 (mLst mNil)) (mSeq (mFor (mgT 2 (mgCons (mgN 2) (mgCons (mgN 3) mgNil))) (miQ (mV (mB ixF (mR (mVar 0)) (mR (mC (.int 2)))))) (Pg.L_folded_2 rc)) (mFrz 1 (mRet (mCall Pg.d_folded_deal (mACons (mB ixF (mR (mVar 0)) (mR (mC (.int 1)))) (mACons (mVar 1) mANil)))))))))
noncomputable def d_folded : Nat → F
  | 0 => fun _ => .stuck
  | n + 1 => mDef 8 1 (b_folded (d_folded n))
noncomputable def b_is_place : MS := (mSeq (mIf (mOr (mNot (mTest (mIsi "tuple" (mR (mVar 0))))) (mOr (mTest (mB ltF (mR (mBi lenF (mCons (mR (mVar 0)) mNil))) (mR (mC (.int 2))))) (mNot (mTest (mIsi "str" (mR (mB ixF (mR (mVar 0)) (mR (mC (.int 0)))))))))) (mRet (mC (.bool false))) mNext) (mSeq (mIf (mTest (mB eqF (mR (mB ixF (mR (mVar 0)) (mR (mC (.int 0))))) (mR (mC (.str "end"))))) (mRet (mAndV (mB eqF (mR (mBi lenF (mCons (mR (mVar 0)) mNil))) (mR (mC (.int 2)))) (mCall Pg.d_is_ratio (mACons (mB ixF (mR (mVar 0)) (mR (mC (.int 1)))) mANil)))) mNext) (mSeq (mIf (mTest (mB eqF (mR (mB ixF (mR (mVar 0)) (mR (mC (.int 0))))) (mR (mC (.str "deal"))))) (mSeq (mIf (mOr (mTest (mB neF (mR (mBi lenF (mCons (mR (mVar 0)) mNil))) (mR (mC (.int 3))))) (mOr (mNot (mTest (mCall Pg.d_is_name (mACons (mB ixF (mR (mVar 0)) (mR (mC (.int 1)))) mANil)))) (mNot (mTest (mCall Pg.d_are_pairs (mACons (mB ixF (mR (mVar 0)) (mR (mC (.int 2)))) (mACons (mC (.int 64)) mANil))))))) (mRet (mC (.bool false))) mNext) (mRet (mBi allF (mCons (mR (mComp [2, 3] (mgT 2 (mgCons (mgN 2) (mgCons (mgN 3) mgNil))) (miQ (mV (mB ixF (mR (mVar 0)) (mR (mC (.int 2)))))) mYes (mV (mCall Pg.d_is_ratio (mACons (mVar 2) mANil))))) mNil)))) mNext) (mSeq (mIf (mOr (mTest (mB neF (mR (mB ixF (mR (mVar 0)) (mR (mC (.int 0))))) (mR (mC (.str "move"))))) (mOr (mTest (mB neF (mR (mBi lenF (mCons (mR (mVar 0)) mNil))) (mR (mC (.int 4))))) (mOr (mNot (mTest (mCall Pg.d_is_whole (mACons (mB ixF (mR (mVar 0)) (mR (mC (.int 1)))) mANil)))) (mTest (mB (inF true) (mR (mB ixF (mR (mVar 0)) (mR (mC (.int 1))))) (mR (mTup (mCons (mV (mC (.int 1))) (mCons (mV (mC (.int 2))) mNil))))))))) (mRet (mC (.bool false))) mNext) (mSeq (mIf (mOr (mNot (mTest (mCall Pg.d_is_name (mACons (mB ixF (mR (mVar 0)) (mR (mC (.int 2)))) mANil)))) (mNot (mTest (mCall Pg.d_are_pairs (mACons (mB ixF (mR (mVar 0)) (mR (mC (.int 3)))) (mACons (mC (.int 6)) mANil)))))) (mRet (mC (.bool false))) mNext) (mSeq (mAsg 1 (mComp [4, 3] (mgT 2 (mgCons (mgN 4) (mgCons (mgN 3) mgNil))) (miQ (mV (mB ixF (mR (mVar 0)) (mR (mC (.int 3)))))) mYes (mV (mVar 4)))) (mFrz 1 (mRet (mAndV (mBi allF (mCons (mR (mComp [4] (mgN 4) (miV 1) mYes (mV (mCall Pg.d_is_name (mACons (mVar 4) mANil))))) mNil)) (mB eqF (mR (mU lenSetF (mR (mVar 1)))) (mR (mBi lenF (mCons (mR (mVar 1)) mNil)))))))))))))
noncomputable def d_is_place : F := mDef 5 1 b_is_place
noncomputable def L_last_words_1 : MS := (mSetI 3 (mR (mVar 9)) (mV (mC (.bool true))))
noncomputable def L_last_words_2 : MS := (mIf (mTest (mB eqF (mR (mVar 5)) (mR (mVar 1)))) (mSeq (mFor (mgN 9) (miV 8) Pg.L_last_words_1) (mIf (mTest (mB eqF (mR (mVar 6)) (mR (mVar 2)))) (mAsg 4 (mVar 7)) mNext)) mNext)
noncomputable def b_last_words : MS := (mSeq (mAsg 3 mDict0) (mSeq (mAsg 4 (mTup mNil)) (mSeq (mFor (mgT 4 (mgCons (mgN 5) (mgCons (mgN 6) (mgCons (mgN 7) (mgCons (mgN 8) mgNil))))) (miV 0) Pg.L_last_words_2) (mRet (mComp [10] (mgN 10) (miV 4) (mTest (mB (inG true) (mR (mTup (mCons (mV (mVar 2)) (mCons (mV (mVar 10)) mNil)))) (mR (mVar 3)))) (mV (mVar 10)))))))
noncomputable def d_last_words : F := mDef 11 3 b_last_words
noncomputable def b_put_at (rc : F) : MS := (mSeq (mIf (mTest (mB eqF (mR (mBi lenF (mCons (mR (mVar 1)) mNil))) (mR (mC (.int 0))))) (mRet (mTup (mCons (mV (mC (.str "end"))) (mCons (mV (mVar 2)) mNil)))) mNext) (mSeq (mAsg 3 (mBi listF (mCons (mR (mB ixF (mR (mVar 0)) (mR (mU negF (mR (mC (.int 1))))))) mNil))) (mSeq (mAsgG (mgT 2 (mgCons (mgN 4) (mgCons (mgN 5) mgNil))) (mV (mB ixF (mR (mVar 3)) (mR (mB ixF (mR (mVar 1)) (mR (mC (.int 0)))))))) (mSeq (mSetI 3 (mR (mB ixF (mR (mVar 1)) (mR (mC (.int 0))))) (mV (mTup (mCons (mV (mVar 4)) (mCons (mV (mCall rc (mACons (mVar 5) (mACons (mSl (mR (mVar 1)) (mO (mR (mC (.int 1)))) mO0) (mACons (mVar 2) mANil))))) mNil))))) (mRet (mB addF (mR (mSl (mR (mVar 0)) mO0 (mO (mR (mU negF (mR (mC (.int 1)))))))) (mR (mTup (mCons (mV (mBi tupleF (mCons (mR (mVar 3)) mNil))) mNil)))))))))
noncomputable def d_put_at : Nat → F
  | 0 => fun _ => .stuck
  | n + 1 => mDef 6 3 (b_put_at (d_put_at n))
noncomputable def L_places_of_1 : MS := (mApp 2 (mV (mTup (mCons (mV (mB addF (mR (mVar 3)) (mR (mTup (mCons (mV (mVar 6)) mNil))))) (mCons (mV (mB ixF (mR (mVar 5)) (mR (mVar 6)))) mNil)))))
noncomputable def C_places_of_2 : MT := (mTest (mB neF (mR (mVar 2)) (mR (mLst mNil))))
noncomputable def L_places_of_3 : MS := (mSeq (mPopG 2 (mgT 2 (mgCons (mgN 3) (mgCons (mgN 4) mgNil)))) (mSeq (mApp 1 (mV (mTup (mCons (mV (mVar 3)) (mCons (mV (mVar 4)) mNil))))) (mSeq (mAsg 5 (mCall Pg.d_parts_of (mACons (mVar 4) mANil))) (mFor (mgN 6) (mDwn (mV (mBi lenF (mCons (mR (mVar 5)) mNil)))) Pg.L_places_of_1))))
noncomputable def b_places_of : MS := (mSeq (mAsg 1 (mLst mNil)) (mSeq (mAsg 2 (mLst (mCons (mV (mTup (mCons (mV (mTup mNil)) (mCons (mV (mVar 0)) mNil)))) mNil))) (mSeq (mWhile Pg.C_places_of_2 Pg.L_places_of_3) (mRetN 1))))
noncomputable def d_places_of : F := mDef 7 1 b_places_of
noncomputable def C_is_game_1 : MT := (mTest (mB neG (mR (mVar 1)) (mR (mLst mNil))))
noncomputable def L_is_game_2 : MS := (mSeq (mPopG 1 (mgN 2)) (mSeq (mFrz 2 (mIf (mNot (mTest (mCall Pg.d_is_place (mACons (mVar 2) mANil)))) (mRet (mC (.bool false))) mNext)) (mFrz 2 (mAsg 1 (mB addF (mR (mVar 1)) (mR (mCall Pg.d_parts_of (mACons (mVar 2) mANil))))))))
noncomputable def b_is_game : MS := (mSeq (mAsg 1 (mLst (mCons (mV (mVar 0)) mNil))) (mSeq (mWhile Pg.C_is_game_1 Pg.L_is_game_2) (mRet (mC (.bool true)))))
noncomputable def d_is_game : F := mDef 3 1 b_is_game
end Pg
/-! DV: loops in plain Lean -/
namespace DL
open PySem L2
/-- m ends well with P -/
def Nx (o : Out) (P : DEnv → Prop) : Prop := ∃ δ, o = .nx δ ∧ P δ
theorem Nx.mono {o : Out} {P Q : DEnv → Prop} (h : Nx o P) (f : ∀ δ, P δ → Q δ) : Nx o Q := by
  obtain ⟨δ, e, p⟩ := h
  exact ⟨δ, e, f δ p⟩
theorem Nx.seq {m n : MS} {δ : DEnv} {P Q : DEnv → Prop} (h : Nx (m δ) P) (f : ∀ δ, P δ → Nx (n δ) Q) : Nx (mSeq m n δ) Q := by
  obtain ⟨δ', e, p⟩ := h
  rw [seq_nx e]
  exact f δ' p
theorem Nx.then {m n : MS} {δ : DEnv} {P : DEnv → Prop} {o : Out} (h : Nx (m δ) P) (f : ∀ δ, P δ → n δ = o) : mSeq m n δ = o := by
  obtain ⟨δ', e, p⟩ := h
  rw [seq_nx e]
  exact f δ' p
theorem Nx.thenP {m n : MS} {δ : DEnv} {P : DEnv → Prop} {T : Out → Prop} (h : Nx (m δ) P) (f : ∀ δ, P δ → T (n δ)) : T (mSeq m n δ) := by
  obtain ⟨δ', e, p⟩ := h
  rw [seq_nx e]
  exact f δ' p
theorem while_nx {c : MT} {b : MS} {I : Nat → DEnv → Prop} {Fin : DEnv → Prop}
    (h : ∀ k δ, I k δ → (c δ = .ok false ∧ Fin δ) ∨ (c δ = .ok true ∧ ∃ j, j < k ∧ Nx (b δ) (I j))) : ∀ (k : Nat) (δ : DEnv), I k δ → Nx (mWhile c b δ) Fin := by
  intro k
  induction k using Nat.strongRecOn with
  | _ k ih =>
    intro δ hi
    rw [mWhile_eq]
    rcases h k δ hi with ⟨e, f⟩ | ⟨e, j, hj, δ', e2, i2⟩
    · rw [e]; exact ⟨δ, rfl, f⟩
    · rw [e]
      show Nx (wgo (b δ) (mWhile c b)) Fin
      rw [e2]
      exact ih j hj δ' i2
theorem loop_ix {α : Type} {g : MG} {b : MS} {enc : α → PyData} : ∀ {xs : List α} {I : Nat → DEnv → Prop} {δ : DEnv}, (∀ (i : Nat) (hi : i < xs.length) δ, I i δ → ∃ δ1, g (enc xs[i]) δ = some δ1 ∧ Nx (b δ1) (I (i + 1))) → I 0 δ → Nx (loopO g b (xs.map enc) δ) (I xs.length)
  | [], _, δ, _, h0 => ⟨δ, rfl, h0⟩
  | x :: xs, I, δ, h, h0 => by
    obtain ⟨δ1, e1, δ2, e2, i2⟩ := h 0 (by simp) δ h0
    have := loop_ix (xs := xs) (I := fun i => I (i + 1)) (δ := δ2) (fun i hi δ hd => h (i + 1) (by simp; omega) δ hd) i2
    have e1' : g (enc x) δ = some δ1 := e1
    show Nx (loopO g b (enc x :: xs.map enc) δ) _
    simp only [loopO, e1', e2]
    exact this
theorem for_ix {α : Type} {g : MG} {it : ML} {b : MS} {enc : α → PyData} (xs : List α) (I : Nat → DEnv → Prop) {δ : DEnv} (hit : it δ = .ok (xs.map enc)) (h : ∀ (i : Nat) (hi : i < xs.length) δ, I i δ → ∃ δ1, g (enc xs[i]) δ = some δ1 ∧ Nx (b δ1) (I (i + 1))) (h0 : I 0 δ) : Nx (mFor g it b δ) (I xs.length) := by
  have := loop_ix h h0
  unfold mFor
  rw [hit]
  exact this
/-- a walk over 0 .. n-1 -/
theorem for_rng {g : MG} {it : ML} {b : MS} (n : Nat) (I : Nat → DEnv → Prop) {δ : DEnv} (hit : it δ = .ok (rng 0 n)) (h : ∀ (i : Nat) (hi : i < n) δ, I i δ → ∃ δ1, g (.int (i : Int)) δ = some δ1 ∧ Nx (b δ1) (I (i + 1))) (h0 : I 0 δ) : Nx (mFor g it b δ) (I n) := by
  have := for_ix (enc := fun i : Nat => .int (0 + (i : Int))) (List.range n) I (g := g) (it := it) (b := b) (δ := δ) hit (fun i hi δ hd => by
    have := h i (by simpa using hi) δ hd
    simpa using this) h0
  simpa using this
@[simp] theorem mgT_ap {n : Nat} {h : List PyData → DEnv → Option DEnv} {ds : List PyData} {δ : DEnv} : mgT n h (.tuple ds) δ = if ds.length = n then h ds δ else none := rfl
@[simp] theorem mgCons_ap {g : MG} {h : List PyData → DEnv → Option DEnv} {d : PyData} {ds : List PyData} {δ : DEnv} : mgCons g h (d :: ds) δ = (g d δ).bind (h ds) := rfl
@[simp] theorem mgNil_ap {δ : DEnv} : mgNil [] δ = some δ := rfl
/-- what may stand where a loop leaves its own -/
theorem any_of (o : Option DL.Slot) : ∃ o', o = o' := ⟨o, rfl⟩
end DL
/-! DW: dicts in plain Lean -/
namespace DL
open PySem L2
section
variable {α β : Type} [DecidableEq α] {enc : α → PyData} {f : β → PyData}
def encL (enc : α → PyData) (f : β → PyData) (L : List (α × β)) : List (PyData × PyData) := L.map fun x => (enc x.1, f x.2)
theorem encL_len {L : List (α × β)} : (encL enc f L).length = L.length := by simp [encL]
theorem dget_enc (hi : ∀ a b, kN (enc a) = kN (enc b) → a = b) (L : List (α × β)) (a : α) : dget (encL enc f L) (enc a) = (L.find? fun x => decide (x.1 = a)).map fun x => f x.2 := by
  unfold dget dgetN encL
  rw [List.find?_map, Option.map_map]
  have : ((fun p : PyData × PyData => decide (kN p.1 = kN (enc a))) ∘ fun x : α × β => (enc x.1, f x.2)) = fun x => decide (x.1 = a) := by
    funext x
    show decide (kN (enc x.1) = kN (enc a)) = _
    by_cases h : x.1 = a
    · simp [h]
    · rw [decide_eq_false h, decide_eq_false fun e => h (hi _ _ e)]
  rw [this]
  rfl
theorem find_none {L : List (α × β)} {a : α} (h : ∀ x ∈ L, x.1 ≠ a) : (L.find? fun x => decide (x.1 = a)) = none := by
  rw [List.find?_eq_none]
  intro x hx
  simpa using h x hx
theorem find_mem {L : List (α × β)} (hp : L.Pairwise fun x y => x.1 ≠ y.1) {x : α × β} (hx : x ∈ L) : (L.find? fun y => decide (y.1 = x.1)) = some x := by
  induction L with
  | nil => cases hx
  | cons y L ih =>
    rw [List.pairwise_cons] at hp
    rcases List.mem_cons.mp hx with rfl | hx
    · simp
    · rw [List.find?_cons_of_neg (by simpa using hp.1 x hx)]
      exact ih hp.2 hx
theorem dput_new (hi : ∀ a b, kN (enc a) = kN (enc b) → a = b) {L : List (α × β)} {a : α} {b : β} (h : ∀ x ∈ L, x.1 ≠ a) : dput (encL enc f L) (enc a) (f b) = encL enc f (L ++ [(a, b)]) := by
  unfold dput
  rw [dget_enc hi, find_none h]
  simp [encL]
theorem keyAt_enc {L : List (α × β)} {a : α} (ho : okKey (enc a) = true) (ht : ∀ x ∈ L, isTup (enc x.1) = isTup (enc a)) : keyAt (encL enc f L) (enc a) = true := by
  unfold keyAt
  rw [ho]
  simp only [kindOk, encL, List.all_map, Bool.true_and, List.all_eq_true]
  intro x hx
  simp [ht x hx]
end
/-! keys that are tuples of ints -/
theorem kNs_ints : ∀ w : List Int, kNs (w.map PyData.int) = w.map NestedKey.num
  | [] => rfl
  | i :: w => by simp [kNs, kN, kNs_ints w]
theorem isKeys_ints : ∀ w : List Int, isKeys (w.map PyData.int) = true
  | [] => rfl
  | i :: w => by simp [isKeys, isKey, isKeys_ints w]
theorem kN_ints {w u : List Int} (h : kN (.tuple (w.map PyData.int)) = kN (.tuple (u.map PyData.int))) : w = u := by
  have h' : NestedKey.tup (kNs (w.map PyData.int)) = NestedKey.tup (kNs (u.map PyData.int)) := h
  rw [kNs_ints, kNs_ints] at h'
  injection h' with h'
  exact (List.map_inj_right fun a b e => by injection e).mp h'
theorem depth_nums : ∀ w : List Int, NestedKey.depthAll (w.map NestedKey.num) = 0
  | [] => rfl
  | i :: w => by simp [NestedKey.depthAll, NestedKey.depth, depth_nums w]
theorem ok_ints (w : List Int) : okKey (.tuple (w.map PyData.int)) = true := by
  have e : kN (.tuple (w.map PyData.int)) = .tup (w.map NestedKey.num) := by
    show NestedKey.tup (kNs (w.map PyData.int)) = _
    rw [kNs_ints]
  unfold okKey
  rw [e]
  simp [isTup, isKey, isKeys_ints, NestedKey.depth, depth_nums, flatKey]
end DL
/-! DG: games as trees -/
namespace Pg
open PySem L2 DL
inductive Gm where
  | fin (q : Rat)
  | deal (nm : Str) (ws : List (Rat × Gm))
  | move (s : Int) (nm : Str) (ws : List (Str × Gm))
namespace Gm
def parts : Gm → List Gm
  | fin _ => []
  | deal _ ws => ws.map (·.2)
  | move _ _ ws => ws.map (·.2)
def rows : Gm → List (PyData × Gm)
  | fin _ => []
  | deal _ ws => ws.map fun w => (qD w.1, w.2)
  | move _ _ ws => ws.map fun w => (.str w.1, w.2)
def hd : Gm → List PyData
  | fin _ => [.str "end"]
  | deal nm _ => [.str "deal", .str nm]
  | move s nm _ => [.str "move", .int s, .str nm]
theorem parts_rows (g : Gm) : g.rows.map (·.2) = g.parts := by
  cases g <;> simp [rows, parts]
theorem part_lt {g p : Gm} (h : p ∈ g.parts) : sizeOf p < sizeOf g := by
  cases g with
  | fin q => simp [parts] at h
  | deal nm ws =>
    obtain ⟨w, hw, rfl⟩ := List.mem_map.mp h
    have := List.sizeOf_lt_of_mem hw
    obtain ⟨a, b⟩ := w
    simp at *
    omega
  | move s nm ws =>
    obtain ⟨w, hw, rfl⟩ := List.mem_map.mp h
    have := List.sizeOf_lt_of_mem hw
    obtain ⟨a, b⟩ := w
    simp at *
    omega
theorem row_lt {g : Gm} {w : PyData × Gm} (h : w ∈ g.rows) : sizeOf w.2 < sizeOf g := part_lt (by rw [← parts_rows]; exact List.mem_map.mpr ⟨_, h, rfl⟩)
theorem ind {P : Gm → Prop} (h : ∀ g, (∀ p ∈ g.parts, P p) → P g) (g : Gm) : P g :=
  h g fun p hp => ind h p
termination_by sizeOf g
decreasing_by exact part_lt hp
def isFin : Gm → Bool
  | fin _ => true
  | _ => false
/-- the data -/
def d (g : Gm) : PyData := match g with
  | fin q => .tuple [.str "end", qD q]
  | deal nm ws => .tuple [.str "deal", .str nm, .tuple (ws.attach.map fun w => .tuple [qD w.1.1, d w.1.2])]
  | move s nm ws => .tuple [.str "move", .int s, .str nm, .tuple (ws.attach.map fun w => .tuple [.str w.1.1, d w.1.2])]
termination_by sizeOf g
decreasing_by
  · have := List.sizeOf_lt_of_mem w.2
    obtain ⟨⟨a, b⟩, _⟩ := w
    simp at *
    omega
  · have := List.sizeOf_lt_of_mem w.2
    obtain ⟨⟨a, b⟩, _⟩ := w
    simp at *
    omega
def rowsD (g : Gm) : List PyData := g.rows.map fun w => .tuple [w.1, w.2.d]
theorem d_fin (q : Rat) : (fin q).d = .tuple [.str "end", qD q] := by rw [d]
theorem attach_map {α β : Type} (xs : List α) (f : α → β) : xs.attach.map (fun x => f x.1) = xs.map f := by
  have : xs.attach.map (fun x => f x.1) = (xs.attach.map Subtype.val).map f := by rw [List.map_map]; rfl
  rw [this, List.attach_map_subtype_val]
theorem d_deal (nm : Str) (ws : List (Rat × Gm)) : (deal nm ws).d = .tuple [.str "deal", .str nm, .tuple (ws.map fun w => .tuple [qD w.1, w.2.d])] := by
  rw [d, attach_map ws fun w => PyData.tuple [qD w.1, d w.2]]
theorem d_move (s : Int) (nm : Str) (ws : List (Str × Gm)) : (move s nm ws).d = .tuple [.str "move", .int s, .str nm, .tuple (ws.map fun w => .tuple [.str w.1, w.2.d])] := by
  rw [d, attach_map ws fun w => PyData.tuple [.str w.1, d w.2]]
theorem d_br {g : Gm} (h : g.isFin = false) : g.d = .tuple (g.hd ++ [.tuple g.rowsD]) := by
  cases g with
  | fin q => cases h
  | deal nm ws => rw [d_deal]; simp [hd, rowsD, rows, Function.comp_def]
  | move s nm ws => rw [d_move]; simp [hd, rowsD, rows, Function.comp_def]
theorem rows_len (g : Gm) : g.rows.length = g.parts.length := by cases g <;> simp [rows, parts]
theorem rowsD_len (g : Gm) : g.rowsD.length = g.parts.length := by simp [rowsD, rows_len]
def HdOk : Gm → Prop
  | fin _ => True
  | deal nm _ => PyData.strOk nm = true
  | move _ nm ws => PyData.strOk nm = true ∧ ∀ w ∈ ws, PyData.strOk w.1 = true
def Good : Nat → Gm → Prop
  | 0, g => g.isFin = true
  | n + 1, g => g.parts.length ≤ 64 ∧ g.HdOk ∧ ∀ p ∈ g.parts, Good n p
theorem Good.fin (n : Nat) (q : Rat) : Good n (.fin q) := by
  cases n <;> simp [Good, isFin, parts, HdOk]
theorem Good.len {n : Nat} {g : Gm} (h : Good n g) : g.parts.length ≤ 64 := by
  cases n with
  | zero => cases g <;> simp_all [Good, isFin, parts]
  | succ n => exact h.1
theorem Good.part {n : Nat} {g p : Gm} (h : Good n g) (hp : p ∈ g.parts) : ∃ m, n = m + 1 ∧ Good m p := by
  cases n with
  | zero => cases g <;> simp_all [Good, isFin, parts]
  | succ n => exact ⟨n, rfl, h.2.2 p hp⟩
theorem Good.mono : ∀ {n m : Nat} {g : Gm}, n ≤ m → Good n g → Good m g
  | 0, m, g, _, h => by
    cases g with
    | fin q => exact Good.fin _ _
    | deal _ _ => cases h
    | move _ _ _ => cases h
  | n + 1, m + 1, g, hm, h => ⟨h.1, h.2.1, fun p hp => Good.mono (by omega) (h.2.2 p hp)⟩
theorem can_all {xs : List PyData} {k : Nat} (h : ∀ x ∈ xs, x.canLay0 = true ∧ x.depth ≤ k) : PyData.canLayAll0 xs = true ∧ PyData.depthAll xs ≤ k + 1 := by
  induction xs with
  | nil => simp [PyData.canLayAll0, PyData.depthAll]
  | cons w ws ih =>
    obtain ⟨a1, a2⟩ := ih fun v hv => h v (List.mem_cons_of_mem _ hv)
    obtain ⟨b1, b2⟩ := h w List.mem_cons_self
    refine ⟨by simp [PyData.canLayAll0, a1, b1], ?_⟩
    simp only [PyData.depthAll]
    omega
theorem can_q (q : Rat) : (qD q).canLay0 = true ∧ (qD q).depth ≤ 3 := by
  refine ⟨by simp [qD, PyData.canLay0, PyData.canLayAll0], by simp [qD, PyData.depth, PyData.depthAll]⟩
theorem can_tag : PyData.strOk "end" = true ∧ PyData.strOk "deal" = true ∧ PyData.strOk "move" = true := by decide +kernel
theorem Good.can : ∀ {n : Nat} {g : Gm}, Good n g → g.d.canLay0 = true ∧ g.d.depth ≤ 6 * n + 6 := by
  intro n
  induction n with
  | zero =>
    intro g h
    cases g with
    | fin q =>
      rw [d_fin]
      have := can_q q
      refine ⟨by simp [PyData.canLay0, PyData.canLayAll0, this.1, can_tag.1], ?_⟩
      simp only [PyData.depth, PyData.depthAll]
      omega
    | deal _ _ => cases h
    | move _ _ _ => cases h
  | succ n ih =>
    intro g h
    cases g with
    | fin q =>
      rw [d_fin]
      have := can_q q
      refine ⟨by simp [PyData.canLay0, PyData.canLayAll0, this.1, can_tag.1], ?_⟩
      simp only [PyData.depth, PyData.depthAll]
      omega
    | deal nm ws =>
      rw [d_deal]
      have A := can_all (xs := ws.map fun w => PyData.tuple [qD w.1, w.2.d]) (k := 6 * n + 9) fun x hx => by
        obtain ⟨w, hw, rfl⟩ := List.mem_map.mp hx
        have a := ih (h.2.2 w.2 (List.mem_map.mpr ⟨w, hw, rfl⟩))
        have b := can_q w.1
        refine ⟨by simp [PyData.canLay0, PyData.canLayAll0, a.1, b.1], ?_⟩
        simp only [PyData.depth, PyData.depthAll]
        omega
      refine ⟨by simp [PyData.canLay0, PyData.canLayAll0, A.1, can_tag.2.1, show PyData.strOk nm = true from h.2.1], ?_⟩
      simp only [PyData.depth, PyData.depthAll]
      omega
    | move s nm ws =>
      rw [d_move]
      have A := can_all (xs := ws.map fun w => PyData.tuple [.str w.1, w.2.d]) (k := 6 * n + 9) fun x hx => by
        obtain ⟨w, hw, rfl⟩ := List.mem_map.mp hx
        have a := ih (h.2.2 w.2 (List.mem_map.mpr ⟨w, hw, rfl⟩))
        refine ⟨by simp [PyData.canLay0, PyData.canLayAll0, a.1, h.2.1.2 w hw], ?_⟩
        simp only [PyData.depth, PyData.depthAll]
        omega
      refine ⟨by simp [PyData.canLay0, PyData.canLayAll0, A.1, can_tag.2.2, show PyData.strOk nm = true from h.2.1.1], ?_⟩
      simp only [PyData.depth, PyData.depthAll]
      omega
theorem Good.shaped {n : Nat} {g : Gm} (hn : n ≤ 9) (h : Good n g) : SeqAt.shaped g.d = true := by
  have := h.can
  simp [SeqAt.shaped, this.1]
  omega
/-! how many places -/
def many (g : Gm) : Nat := 1 + (g.parts.attach.map fun p => many p.1).sum
termination_by sizeOf g
decreasing_by exact part_lt p.2
theorem many_eq (g : Gm) : g.many = 1 + (g.parts.map many).sum := by rw [many, attach_map g.parts many]
theorem sum_le {xs : List Nat} {k : Nat} (h : ∀ x ∈ xs, x ≤ k) : xs.sum ≤ xs.length * k := by
  induction xs with
  | nil => simp
  | cons a xs ih =>
    have := ih fun x hx => h x (List.mem_cons_of_mem _ hx)
    have := h a List.mem_cons_self
    simp only [List.sum_cons, List.length_cons, Nat.add_mul]
    omega
/-! the places in order -/
abbrev Pl := List Int × Gm
def kidsAt (w : List Int) : Nat → List Gm → List Pl
  | _, [] => []
  | i, p :: ps => (w ++ [(i : Int)], p) :: kidsAt w (i + 1) ps
def kids (x : Pl) : List Pl := kidsAt x.1 0 x.2.parts
theorem kidsAt_len (w : List Int) : ∀ (i : Nat) (ps : List Gm), (kidsAt w i ps).length = ps.length
  | _, [] => rfl
  | i, p :: ps => by simp [kidsAt, kidsAt_len w (i + 1) ps]
theorem kidsAt_mem {w : List Int} : ∀ {i : Nat} {ps : List Gm} {y : Pl}, y ∈ kidsAt w i ps → ∃ j, j < ps.length ∧ y.1 = w ++ [((i + j : Nat) : Int)] ∧ ps[j]? = some y.2
  | _, [], y, h => by simp [kidsAt] at h
  | i, p :: ps, y, h => by
    simp only [kidsAt, List.mem_cons] at h
    rcases h with rfl | h
    · exact ⟨0, by simp, by simp, by simp⟩
    · obtain ⟨j, hj, e1, e2⟩ := kidsAt_mem h
      exact ⟨j + 1, by simp; omega, by rw [e1, show i + (j + 1) = i + 1 + j by omega], by simpa using e2⟩
theorem kids_mem {x y : Pl} (h : y ∈ kids x) : y.2 ∈ x.2.parts := by
  obtain ⟨j, hj, _, e⟩ := kidsAt_mem h
  exact List.mem_of_getElem? e
def places (x : Pl) : List Pl := x :: (kids x).attach.flatMap fun y => places y.1
termination_by sizeOf x.2
decreasing_by exact part_lt (kids_mem y.2)
theorem places_eq (x : Pl) : places x = x :: (kids x).flatMap places := by
  rw [places]
  congr 1
  have : (kids x).attach.flatMap (fun y => places y.1) = ((kids x).attach.map Subtype.val).flatMap places := by rw [List.flatMap_map]
  rw [this, List.attach_map_subtype_val]
theorem kidsAt_map2 (w : List Int) : ∀ (i : Nat) (ps : List Gm), (kidsAt w i ps).map (·.2) = ps
  | _, [] => rfl
  | i, p :: ps => by simp [kidsAt, kidsAt_map2 w (i + 1) ps]
theorem places_len (x : Pl) : (places x).length = x.2.many := by
  obtain ⟨w, g⟩ := x
  induction g using ind generalizing w with
  | h g ih =>
    rw [places_eq, many_eq, List.length_cons, List.length_flatMap]
    have : (kids (w, g)).map (fun a => (places a).length) = g.parts.map many := by
      rw [← kidsAt_map2 w 0 g.parts, List.map_map]
      refine List.map_congr_left fun y hy => ?_
      exact ih y.2 (kids_mem (x := (w, g)) hy) y.1
    rw [this, Nat.add_comm]
end Gm
/-! what is behind a place -/
@[simp] theorem ok_end : PyData.strOk "end" = true := Gm.can_tag.1
@[simp] theorem ok_deal : PyData.strOk "deal" = true := Gm.can_tag.2.1
@[simp] theorem ok_move : PyData.strOk "move" = true := Gm.can_tag.2.2
@[simp] theorem b_ee : (("end" : Str) == ("end" : Str)) = true := by decide +kernel
@[simp] theorem b_dd : (("deal" : Str) == ("deal" : Str)) = true := by decide +kernel
@[simp] theorem b_mm : (("move" : Str) == ("move" : Str)) = true := by decide +kernel
@[simp] theorem b_de : (("deal" : Str) == ("end" : Str)) = false := by decide +kernel
@[simp] theorem b_me : (("move" : Str) == ("end" : Str)) = false := by decide +kernel
@[simp] theorem b_md : (("move" : Str) == ("deal" : Str)) = false := by decide +kernel
@[simp] theorem b_dm : (("deal" : Str) == ("move" : Str)) = false := by decide +kernel
@[simp] theorem b_em : (("end" : Str) == ("move" : Str)) = false := by decide +kernel
@[simp] theorem b_ed : (("end" : Str) == ("deal" : Str)) = false := by decide +kernel
theorem tag_at {g : Gm} : ∃ t, ixF g.d (.int 0) = .ok (.val (.str t)) ∧ (t == ("end" : Str)) = g.isFin ∧ PyData.strOk t = true := by
  cases g with
  | fin q => rw [Gm.d_fin]; exact ⟨"end", by simp, b_ee, Gm.can_tag.1⟩
  | deal nm ws => rw [Gm.d_deal]; exact ⟨"deal", by simp, b_de, Gm.can_tag.2.1⟩
  | move s nm ws => rw [Gm.d_move]; exact ⟨"move", by simp, b_me, Gm.can_tag.2.2⟩
theorem last_at {g : Gm} (h : g.isFin = false) : ixF g.d (.int (-1)) = .ok (.val (.tuple g.rowsD)) := by
  rw [Gm.d_br h]
  cases g with
  | fin q => cases h
  | deal nm ws => simp [Gm.hd]
  | move s nm ws => simp [Gm.hd]
theorem parts_ok {n : Nat} {g : Gm} (h : g.Good n) : d_parts_of [.val g.d] = .ok (.own (.list (g.parts.map Gm.d))) := by
  obtain ⟨t, e1, e2, e3⟩ := tag_at (g := g)
  have hl := h.len
  cases hf : g.isFin with
  | true =>
    rw [hf] at e2
    have : t = "end" := by simpa using e2
    subst this
    have hp : g.parts = [] := by cases g <;> simp_all [Gm.isFin, Gm.parts]
    simp [d_parts_of, mDef, b_parts_of, start0, e1, hp]
  | false =>
    have e4 := last_at hf
    have c : compR (mgT 2 (mgCons (mgN 1) (mgCons (mgN 2) mgNil))) mYes (mV (mVar 2)) [some (.val g.d), none, none] (g.rows.map fun w => PyData.tuple [w.1, w.2.d]) = .ok (g.rows.map fun w => w.2.d) := compR_map fun w hw => ⟨_, rfl, rfl, by simp⟩
    have hfit : fits (g.rows.map fun w => PyData.tuple [w.1, w.2.d]) = true := fits_of (by simp [Gm.rows_len]; omega)
    have hm : (g.rows.map fun w => w.2.d) = g.parts.map Gm.d := by rw [← Gm.parts_rows, List.map_map]; rfl
    rw [hf] at e2
    rw [Gm.rowsD] at e4
    rw [hm] at c
    simp [d_parts_of, mDef, b_parts_of, start0, e1, e4, e2, c, hfit, Gm.can_tag, e3]
end Pg
/-! DG2: places_of, at_way -/
namespace Pg
open PySem L2 DL
def wayD (w : List Int) : PyData := .tuple (w.map PyData.int)
def plD (x : Gm.Pl) : PyData := .tuple [wayD x.1, x.2.d]
theorem can_way (w : List Int) : (wayD w).canLay0 = true ∧ (wayD w).depth ≤ 3 := by
  have := Gm.can_all (xs := w.map PyData.int) (k := 1) fun x hx => by
    obtain ⟨i, hi, rfl⟩ := List.mem_map.mp hx
    exact ⟨by simp [PyData.canLay0], by simp [PyData.depth]⟩
  refine ⟨by simp [wayD, PyData.canLay0, this.1], ?_⟩
  simp only [wayD, PyData.depth]
  omega
/-- a place in a game: how deep it may go on -/
def Gp (n : Nat) (x : Gm.Pl) : Prop := ∃ m, x.2.Good m ∧ x.1.length + m ≤ n
theorem Gp.kid {n : Nat} {x y : Gm.Pl} (h : Gp n x) (hy : y ∈ Gm.kids x) : Gp n y := by
  obtain ⟨m, hg, hl⟩ := h
  obtain ⟨k, rfl, hk⟩ := hg.part (Gm.kids_mem hy)
  obtain ⟨j, _, e, _⟩ := Gm.kidsAt_mem hy
  refine ⟨k, hk, ?_⟩
  rw [e]
  simp
  omega
theorem Gp.all {n : Nat} {x : Gm.Pl} (h : Gp n x) : ∀ y ∈ Gm.places x, Gp n y := by
  obtain ⟨w, g⟩ := x
  induction g using Gm.ind generalizing w with
  | h g ih =>
    intro y hy
    rw [Gm.places_eq] at hy
    rcases List.mem_cons.mp hy with rfl | hy
    · exact h
    · obtain ⟨z, hz, hy⟩ := List.mem_flatMap.mp hy
      exact ih z.2 (Gm.kids_mem hz) z.1 (h.kid hz) y hy
theorem can_pl {n : Nat} {x : Gm.Pl} (h : Gp n x) : (plD x).canLay0 = true ∧ (plD x).depth ≤ 6 * n + 8 := by
  obtain ⟨m, hg, hl⟩ := h
  have a := can_way x.1
  have b := hg.can
  refine ⟨by simp [plD, PyData.canLay0, PyData.canLayAll0, a.1, b.1], ?_⟩
  simp only [plD, PyData.depth, PyData.depthAll]
  omega
theorem shaped_pls {n : Nat} (hn : n ≤ 8) {L : List Gm.Pl} (h : ∀ x ∈ L, Gp n x) : SeqAt.shaped (.list (L.map plD)) = true := by
  have := Gm.can_all (xs := L.map plD) (k := 6 * n + 8) fun x hx => by
    obtain ⟨y, hy, rfl⟩ := List.mem_map.mp hx
    exact can_pl (h y hy)
  have h2 := this.2
  simp [SeqAt.shaped, PyData.canLay0, this.1, PyData.depth]
  omega
theorem shaped_nil : SeqAt.shaped (.list []) = true := by simp [SeqAt.shaped, PyData.canLay0, PyData.canLayAll0, PyData.depth, PyData.depthAll]
theorem neF_empty {ds : List PyData} (h : SeqAt.shaped (.list ds) = true) : neF (.list ds) (.list []) = .ok (.val (.bool (!ds.isEmpty))) := by
  rw [neF_of h shaped_nil]
  cases ds <;> rfl
theorem wayD_snoc {w : List Int} {i : Int} (h : w.length ≤ 9000) : addF (wayD w) (.tuple [.int i]) = .ok (.val (wayD (w ++ [i]))) := by
  have : (w.map PyData.int).length + [PyData.int i].length ≤ 10000 := by simp; omega
  simp only [wayD, addF_tup this, List.map_append, List.map_cons, List.map_nil]
theorem down_succ (n : Nat) : down (n + 1) = .int (n : Int) :: down n := by
  unfold down
  rw [List.range_succ_eq_map, List.map_cons, List.map_map]
  refine congr (congrArg _ (by simp)) (List.map_congr_left fun i _ => ?_)
  simp
  omega
theorem kids_get {w : List Int} : ∀ {i j : Nat} {ps : List Gm} {p : Gm}, ps[j]? = some p → (Gm.kidsAt w i ps)[j]? = some (w ++ [((i + j : Nat) : Int)], p)
  | i, 0, q :: ps, p, h => by simp at h; subst h; simp [Gm.kidsAt]
  | i, j + 1, q :: ps, p, h => by
    have := kids_get (w := w) (i := i + 1) (j := j) (ps := ps) (p := p) (by simpa using h)
    simp only [Gm.kidsAt, List.getElem?_cons_succ, this, show i + 1 + j = i + (j + 1) by omega]
  | i, j, [], p, h => by simp at h
theorem places_in {G : PyData} {F : List PyData} {g : Gm} {w : List Int} (hw : w.length ≤ 9000) (hl : g.parts.length ≤ 64) : ∀ (n : Nat) (W : List PyData) (o : Option DL.Slot), n ≤ g.parts.length → W.length + n < sizeLine → ∃ o', loopO (mgN 6) L_places_of_1 (down n) [some (.val G), some (.own (.list F)), some (.own (.list W)), some (.val (wayD w)), some (.val g.d), some (.own (.list (g.parts.map Gm.d))), o] = .nx [some (.val G), some (.own (.list F)), some (.own (.list (W ++ (((Gm.kids (w, g)).take n).reverse.map plD)))), some (.val (wayD w)), some (.val g.d), some (.own (.list (g.parts.map Gm.d))), o']
  | 0, W, o, _, _ => ⟨o, by simp [down, loopO]⟩
  | n + 1, W, o, h, hz => by
    obtain ⟨o', e⟩ := places_in (G := G) (F := F) (g := g) (w := w) hw hl n (W ++ [plD (w ++ [(n : Int)], g.parts[n])]) (some (.val (.int (n : Int)))) (by omega) (by simp; omega)
    refine ⟨o', ?_⟩
    have a1 : atI (g.parts.map Gm.d) (n : Int) = some (g.parts[n]).d := by rw [atI_of (by simp; omega)]; simp
    have a2 : (Gm.kids (w, g)).take (n + 1) = (Gm.kids (w, g)).take n ++ [(w ++ [(n : Int)], g.parts[n])] := by
      have := kids_get (w := w) (i := 0) (j := n) (ps := g.parts) (p := g.parts[n]) (List.getElem?_eq_getElem (by omega))
      rw [List.take_add_one, Gm.kids, this]
      simp
    have a3 := wayD_snoc (i := (n : Int)) hw
    have a4 : W.length < sizeLine := by omega
    rw [down_succ, a2]
    simp only [List.reverse_append, List.map_append, List.reverse_cons, List.reverse_nil, List.nil_append, List.map_cons, List.map_nil, List.cons_append]
    rw [List.append_assoc, List.cons_append, List.nil_append] at e
    rw [← e]
    simp [L_places_of_1, a1, a3, a4, fits_of, plD]
/-- what the walk over the places has come to -/
def PlI (G : PyData) (n : Nat) (R : List PyData) (k : Nat) (δ : DEnv) : Prop := ∃ (L : List Gm.Pl) (F : List PyData) (o3 o4 o5 o6 : Option DL.Slot), δ = [some (.val G), some (.own (.list F)), some (.own (.list (L.reverse.map plD))), o3, o4, o5, o6] ∧ (L.flatMap Gm.places).length ≤ k ∧ (∀ x ∈ L, Gp n x) ∧ F.length + 65 * k + L.length + 65 < sizeLine ∧ R = F ++ (L.flatMap Gm.places).map plD
theorem places_loop {G : PyData} {n : Nat} {R : List PyData} (hn : n ≤ 8) (k : Nat) (δ : DEnv) (h : PlI G n R k δ) : Nx (mWhile C_places_of_2 L_places_of_3 δ) fun δ => ∃ o2 o3 o4 o5 o6, δ = [some (.val G), some (.own (.list R)), o2, o3, o4, o5, o6] := by
  refine while_nx (I := PlI G n R) ?_ k δ h
  rintro k δ ⟨L, F, o3, o4, o5, o6, rfl, hk, hg, hz, rfl⟩
  cases L with
  | nil =>
    left
    refine ⟨by simp [C_places_of_2, neF_empty shaped_nil], ?_⟩
    exact ⟨_, o3, o4, o5, o6, by simp; rfl⟩
  | cons x L =>
    right
    obtain ⟨w, g⟩ := x
    have hgx := hg _ List.mem_cons_self
    obtain ⟨m, hgm, hlm⟩ : ∃ m, g.Good m ∧ w.length + m ≤ n := hgx
    have hl := hgm.len
    have ef : ((w, g) :: L).flatMap Gm.places = (w, g) :: (Gm.kids (w, g) ++ L).flatMap Gm.places := by
      rw [List.flatMap_cons, Gm.places_eq, List.flatMap_append]; rfl
    rw [ef, List.length_cons] at hk
    have sh := shaped_pls hn (L := (((w, g) :: L).reverse)) fun x hx => hg x (List.mem_reverse.mp hx)
    have hkl : (Gm.kids (w, g)).length = g.parts.length := Gm.kidsAt_len _ _ _
    have hln : L.length + 1 + 65 * k < sizeLine := by simp at hz; omega
    have hw : w.length ≤ 9000 := by omega
    obtain ⟨o', e⟩ := places_in (G := G) (F := F ++ [plD (w, g)]) (g := g) (w := w) hw hl g.parts.length (L.reverse.map plD) o6 (by omega) (by simp; omega)
    have ht : (Gm.kids (w, g)).take g.parts.length = Gm.kids (w, g) := List.take_of_length_le (by omega)
    rw [ht] at e
    have ed : dwn (.int (g.parts.length : Int)) = .ok (down g.parts.length) := dwn_of (by omega)
    have hlz : L.length < sizeLine := by omega
    have hfz : F.length < sizeLine := by omega
    have ep := parts_ok hgm
    have sh' : SeqAt.shaped (.list ((L.map plD).reverse ++ [plD (w, g)])) = true := by simpa using sh
    have ne := neF_empty sh'
    refine ⟨by simp [C_places_of_2, ne], k - 1, by omega, ?_⟩
    refine ⟨[some (.val G), some (.own (.list (F ++ [plD (w, g)]))), some (.own (.list ((Gm.kids (w, g) ++ L).reverse.map plD))), some (.val (wayD w)), some (.val g.d), some (.own (.list (g.parts.map Gm.d))), o'], ?_, ?_⟩
    · unfold L_places_of_3
      have e' : ((Gm.kids (w, g) ++ L).reverse.map plD) = L.reverse.map plD ++ (Gm.kids (w, g)).reverse.map plD := by simp
      rw [e', ← e]
      simp [plD, mPopG, popD, tgtO, hfz, fits_of, ep, ed]
    · refine ⟨Gm.kids (w, g) ++ L, F ++ [plD (w, g)], _, _, _, _, rfl, by omega, ?_, ?_, ?_⟩
      · intro x hx
        rcases List.mem_append.mp hx with hx | hx
        · exact (hg _ List.mem_cons_self).kid hx
        · exact hg _ (List.mem_cons_of_mem _ hx)
      · have e1 : (F ++ [plD (w, g)]).length = F.length + 1 := by simp
        have e2 : (Gm.kids (w, g) ++ L).length = g.parts.length + L.length := by rw [List.length_append, hkl]
        rw [e1, e2]
        simp only [List.length_cons] at hz
        omega
      · rw [ef]
        simp
theorem places_ok {n : Nat} {g : Gm} (hn : n ≤ 8) (h : g.Good n) (hm : g.many ≤ 200000) : d_places_of [.val g.d] = .ok (.own (.list ((Gm.places ([], g)).map plD))) := by
  have A := places_loop (G := g.d) (R := (Gm.places ([], g)).map plD) hn g.many [some (.val g.d), some (.own (.list [])), some (.own (.list [plD ([], g)])), none, none, none, none]
    ⟨[([], g)], [], none, none, none, none, by simp, by simp [Gm.places_len], by
      intro x hx
      rw [List.mem_singleton.mp hx]
      exact ⟨n, h, by simp⟩, by simp; exact Nat.lt_of_le_of_lt (Nat.mul_le_mul_left 65 hm |> fun z => Nat.add_le_add_right z 66) (by decide), by simp⟩
  unfold d_places_of
  obtain ⟨δ, e, o2, o3, o4, o5, o6, rfl⟩ := A
  have ew : wayD [] = .tuple [] := rfl
  rw [plD, ew] at e
  simp [mDef, b_places_of, start0, fits_of, e]
end Pg
/-! DG3: ways in order, at_way, a dict of places -/
namespace Pg
open PySem L2 DL
theorem lex_app : ∀ (w a b : List Int), HT.lexLt (w ++ a) (w ++ b) = HT.lexLt a b
  | [], _, _ => rfl
  | i :: w, a, b => by
    rw [List.cons_append, List.cons_append, HT.lexLt_cons, if_pos rfl, lex_app w]
theorem lex_irr : ∀ w : List Int, HT.lexLt w w = false
  | [] => rfl
  | i :: w => by rw [HT.lexLt_cons, if_pos rfl, lex_irr w]
namespace Gm
theorem places_pre {x y : Pl} (h : y ∈ places x) : ∃ u, y.1 = x.1 ++ u := by
  obtain ⟨w, g⟩ := x
  induction g using ind generalizing w with
  | h g ih =>
    rw [places_eq] at h
    rcases List.mem_cons.mp h with rfl | h
    · exact ⟨[], by simp⟩
    · obtain ⟨z, hz, h⟩ := List.mem_flatMap.mp h
      obtain ⟨u, e⟩ := ih z.2 (kids_mem hz) z.1 h
      obtain ⟨j, _, e2, _⟩ := kidsAt_mem hz
      exact ⟨[((0 + j : Nat) : Int)] ++ u, by rw [e, e2]; simp⟩
theorem kids_pair (w : List Int) : ∀ (i : Nat) (ps : List Gm), (kidsAt w i ps).Pairwise fun x y => ∃ a b : Int, a < b ∧ x.1 = w ++ [a] ∧ y.1 = w ++ [b]
  | _, [] => .nil
  | i, p :: ps => by
    refine .cons (fun y hy => ?_) (kids_pair w (i + 1) ps)
    obtain ⟨j, _, e, _⟩ := kidsAt_mem hy
    exact ⟨_, _, by omega, rfl, e⟩
theorem places_lex (x : Pl) : (places x).Pairwise fun y z => HT.lexLt y.1 z.1 = true := by
  obtain ⟨w, g⟩ := x
  induction g using ind generalizing w with
  | h g ih =>
    rw [places_eq]
    refine .cons (fun y hy => ?_) ?_
    · obtain ⟨z, hz, hy⟩ := List.mem_flatMap.mp hy
      obtain ⟨u, e⟩ := places_pre hy
      obtain ⟨j, _, e2, _⟩ := kidsAt_mem hz
      rw [e, e2]
      show HT.lexLt w (w ++ _ ++ u) = true
      have : HT.lexLt (w ++ []) (w ++ ([((0 + j : Nat) : Int)] ++ u)) = true := by rw [lex_app]; rfl
      simpa using this
    · rw [List.pairwise_flatMap]
      refine ⟨fun z hz => ih z.2 (kids_mem hz) z.1, ?_⟩
      refine (kids_pair w 0 g.parts).imp ?_
      rintro a b ⟨i, j, hij, e1, e2⟩ x hx y hy
      obtain ⟨u, e⟩ := places_pre hx
      obtain ⟨v, e'⟩ := places_pre hy
      rw [e, e', e1, e2]
      simp only [List.append_assoc, lex_app]
      show HT.lexLt (i :: u) (j :: v) = true
      rw [HT.lexLt_cons, if_neg (by omega)]
      exact decide_eq_true hij
theorem places_ne (x : Pl) : (places x).Pairwise fun y z => y.1 ≠ z.1 := (places_lex x).imp fun {a b} h e => by
  rw [e, lex_irr] at h
  cases h
theorem places_kid {x y z : Pl} (h : y ∈ places x) (hz : z ∈ kids y) : z ∈ places x := by
  obtain ⟨w, g⟩ := x
  induction g using ind generalizing w with
  | h g ih =>
    rw [places_eq] at h ⊢
    rcases List.mem_cons.mp h with rfl | h
    · refine List.mem_cons_of_mem _ (List.mem_flatMap.mpr ⟨z, hz, ?_⟩)
      rw [places_eq]
      exact List.mem_cons_self
    · obtain ⟨t, ht, h⟩ := List.mem_flatMap.mp h
      exact List.mem_cons_of_mem _ (List.mem_flatMap.mpr ⟨t, ht, ih t.2 (kids_mem ht) t.1 h⟩)
theorem places_self (x : Pl) : x ∈ places x := by rw [places_eq]; exact List.mem_cons_self
/-- the game at a way -/
def at? : List Int → Gm → Option Gm
  | [], g => some g
  | i :: w, g => if 0 ≤ i ∧ i < g.parts.length then (g.parts[i.toNat]?).bind (at? w) else none
theorem at_app : ∀ (w u : List Int) (g : Gm), at? (w ++ u) g = (at? w g).bind (at? u)
  | [], _, _ => rfl
  | i :: w, u, g => by
    simp only [List.cons_append, at?]
    split
    · cases g.parts[i.toNat]? with
      | none => rfl
      | some p => exact at_app w u p
    · rfl
theorem places_at {g0 : Gm} {x : Pl} (h : x ∈ places ([], g0)) : at? x.1 g0 = some x.2 := by
  have : ∀ (y : Pl), at? y.1 g0 = some y.2 → ∀ x ∈ places y, at? x.1 g0 = some x.2 := by
    rintro ⟨w, g⟩
    induction g using ind generalizing w with
    | h g ih =>
      intro hy x hx
      rw [places_eq] at hx
      rcases List.mem_cons.mp hx with rfl | hx
      · exact hy
      · obtain ⟨z, hz, hx⟩ := List.mem_flatMap.mp hx
        refine ih z.2 (kids_mem hz) z.1 ?_ x hx
        obtain ⟨j, hj, e, e2⟩ := kidsAt_mem hz
        rw [e, at_app]
        have hy' : at? w g0 = some g := hy
        show (at? w g0).bind _ = _
        rw [hy']
        show (if 0 ≤ ((0 + j : Nat) : Int) ∧ ((0 + j : Nat) : Int) < g.parts.length then (g.parts[((0 + j : Nat) : Int).toNat]?).bind (at? []) else none) = _
        have hj' : j < g.parts.length := hj
        rw [if_pos (by omega)]
        have : ((0 + j : Nat) : Int).toNat = j := by omega
        have e2' : g.parts[j]? = some z.2 := e2
        rw [this, e2']
        rfl
  exact this ([], g0) rfl x h
end Gm
/-! at_way -/
theorem at_way_loop {n : Nat} {W : PyData} : ∀ (w : List Int) (g : Gm) (o2 o3 : Option DL.Slot), g.Good n → (match g.at? w with
    | some p => ∃ o2' o3', loopO (mgN 2) (mSeq (mAsg 3 (mCall Pg.d_parts_of (mACons (mVar 0) mANil))) (mSeq (mIf (mNot (mTest (mChain leF ltF (mR (mC (.int 0))) (mR (mVar 2)) (mR (mBi lenF (mCons (mR (mVar 3)) mNil)))))) (mRaise ⟨.NoPlace, []⟩) mNext) (mAsg 0 (mB ixF (mR (mVar 3)) (mR (mVar 2)))))) (w.map PyData.int) [some (.val g.d), some (.val W), o2, o3] = .nx [some (.val p.d), some (.val W), o2', o3']
    | none => ∃ δ, loopO (mgN 2) (mSeq (mAsg 3 (mCall Pg.d_parts_of (mACons (mVar 0) mANil))) (mSeq (mIf (mNot (mTest (mChain leF ltF (mR (mC (.int 0))) (mR (mVar 2)) (mR (mBi lenF (mCons (mR (mVar 3)) mNil)))))) (mRaise ⟨.NoPlace, []⟩) mNext) (mAsg 0 (mB ixF (mR (mVar 3)) (mR (mVar 2)))))) (w.map PyData.int) [some (.val g.d), some (.val W), o2, o3] = .ex ⟨.NoPlace, []⟩ δ)
  | [], g, o2, o3, h => ⟨o2, o3, rfl⟩
  | i :: w, g, o2, o3, h => by
    have ep := parts_ok h
    by_cases hc : 0 ≤ i ∧ i < g.parts.length
    · obtain ⟨j, rfl⟩ : ∃ j : Nat, i = (j : Int) := ⟨i.toNat, by omega⟩
      have hj : j < g.parts.length := by omega
      have a1 : atI (g.parts.map Gm.d) (j : Int) = some (g.parts[j]).d := by rw [atI_of (by simpa using hj)]; simp
      obtain ⟨m, rfl, hm⟩ := h.part (List.getElem_mem hj)
      have ih := at_way_loop (W := W) w g.parts[j] (some (.val (.int (j : Int)))) (some (.own (.list (g.parts.map Gm.d)))) (hm.mono (Nat.le_succ m))
      have ea : g.at? ((j : Int) :: w) = (g.parts[j]).at? w := by
        simp only [Gm.at?]
        rw [if_pos hc, Int.toNat_natCast, List.getElem?_eq_getElem hj]
        rfl
      rw [ea]
      have h0 : (0 : Int) ≤ (j : Int) := hc.1
      have h1 : (j : Int) < g.parts.length := hc.2
      have st : loopO (mgN 2) (mSeq (mAsg 3 (mCall Pg.d_parts_of (mACons (mVar 0) mANil))) (mSeq (mIf (mNot (mTest (mChain leF ltF (mR (mC (.int 0))) (mR (mVar 2)) (mR (mBi lenF (mCons (mR (mVar 3)) mNil)))))) (mRaise ⟨.NoPlace, []⟩) mNext) (mAsg 0 (mB ixF (mR (mVar 3)) (mR (mVar 2)))))) (((j : Int) :: w).map PyData.int) [some (.val g.d), some (.val W), o2, o3] = loopO (mgN 2) (mSeq (mAsg 3 (mCall Pg.d_parts_of (mACons (mVar 0) mANil))) (mSeq (mIf (mNot (mTest (mChain leF ltF (mR (mC (.int 0))) (mR (mVar 2)) (mR (mBi lenF (mCons (mR (mVar 3)) mNil)))))) (mRaise ⟨.NoPlace, []⟩) mNext) (mAsg 0 (mB ixF (mR (mVar 3)) (mR (mVar 2)))))) (w.map PyData.int) [some (.val (g.parts[j]).d), some (.val W), some (.val (.int (j : Int))), some (.own (.list (g.parts.map Gm.d)))] := by
        simp [ep, hj, a1]
      rw [st]
      exact ih
    · have ea : g.at? (i :: w) = none := by
        simp only [Gm.at?]
        rw [if_neg hc]
      rw [ea]
      refine ⟨[some (.val g.d), some (.val W), some (.val (.int i)), some (.own (.list (g.parts.map Gm.d)))], ?_⟩
      by_cases h0 : 0 ≤ i
      · have h1 : ¬ i < g.parts.length := fun z => hc ⟨h0, z⟩
        simp [ep, h0, h1]
      · simp [ep, h0]
theorem at_way_ok {n : Nat} {g : Gm} (h : g.Good n) (w : List Int) : d_at_way [.val g.d, .val (wayD w)] = (match g.at? w with
    | some p => .ok (.val p.d)
    | none => .exc ⟨.NoPlace, []⟩) := by
  have A := at_way_loop (W := wayD w) w g none none h
  have hit : miV 1 [some (.val g.d), some (.val (wayD w)), none, none] = .ok (w.map PyData.int) := rfl
  rw [show d_at_way [.val g.d, .val (wayD w)] = (b_at_way [some (.val g.d), some (.val (wayD w)), none, none]).res from rfl]
  unfold b_at_way
  cases e : g.at? w with
  | some p =>
    rw [e] at A
    obtain ⟨o2, o3, A⟩ := A
    rw [seq_nx (by unfold mFor; rw [hit]; exact A)]
    rfl
  | none =>
    rw [e] at A
    obtain ⟨δ, A⟩ := A
    rw [seq_ex (by unfold mFor; rw [hit]; exact A)]
    rfl
/-! a dict of places -/
theorem wayD_inj : ∀ a b : List Int, kN (wayD a) = kN (wayD b) → a = b := fun a b h => kN_ints h
theorem wayD_ok (w : List Int) : okKey (wayD w) = true := ok_ints w
end Pg
set_option exponentiation.threshold 20000
/-! DN: names and numbers that laws draw -/
namespace Pg
open PySem L2 DL TL
noncomputable def bName : MS := (mSeq (mAsg 1 (mC (.str "abcdefghijklmnopqrstuvwxyz0123456789"))) (mRet (mM1 joinF (mR (mC (.str ""))) (mR (mComp [2] (mgN 2) (mRng1 (mCons (mV (mB addF (mR (mC (.int 1))) (mR (mB modF (mR (mVar 0)) (mR (mC (.int 8))))))) mNil)) mYes (mV (mB ixF (mR (mVar 1)) (mR (mB modF (mR (mB addF (mR (mB divF (mR (mVar 0)) (mR (mB addF (mR (mVar 2)) (mR (mC (.int 1))))))) (mR (mB mulF (mR (mB mulF (mR (mVar 2)) (mR (mVar 2)))) (mR (mC (.int 5))))))) (mR (mC (.int 36))))))))))))
abbrev S36 : Str := "abcdefghijklmnopqrstuvwxyz0123456789"
theorem s36 : (tl S36).length = 36 ∧ ∀ c ∈ tl S36, c < 128 := by decide +kernel
theorem sign_at (i : Int) (h0 : 0 ≤ i) (h1 : i < 36) : ∃ c : Nat, c < 128 ∧ ixF (.str S36) (.int i) = .ok (.val (.str ⟨#[c]⟩)) := by
  obtain ⟨c, hc, e⟩ := atI_mem (xs := tl S36) h0 (by rw [s36.1]; exact h1)
  refine ⟨c, s36.2 c hc, ?_⟩
  have hl : S36.length ≤ sizeLine := Nat.le_trans (by rw [len_tl, s36.1]; decide : S36.length ≤ 100) (by decide)
  show (if S36.length ≤ sizeLine then (match atI (tl S36) i with
    | some c => okV (.str ⟨#[c]⟩)
    | none => .stuck) else .stuck) = _
  rw [if_pos hl, e]
  rfl
theorem joinL_nil : ∀ L : List (List Nat), joinL [] L = L.flatten
  | [] => rfl
  | [a] => by simp [joinL]
  | a :: b :: r => by
    have := joinL_nil (b :: r)
    simp only [joinL, List.flatten_cons] at this ⊢
    simp [this]
theorem name_ok (x : Int) : ∃ nm : Str, PyData.strOk nm = true ∧ mDef 3 1 bName [.val (.int x)] = .ok (.val (.str nm)) := by
  obtain ⟨k, hk, hk2⟩ : ∃ k : Nat, 1 + x % 8 = (k : Int) ∧ k ≤ 8 := ⟨(1 + x % 8).toNat, by omega, by omega⟩
  have F := fun j : Nat => sign_at ((x / ((j : Int) + 1) + (j : Int) * (j : Int) * 5) % 36) (by omega) (by omega)
  let g : Nat → Nat := fun j => Classical.choose (F j)
  have hg : ∀ j, g j < 128 ∧ ixF (.str S36) (.int ((x / ((j : Int) + 1) + (j : Int) * (j : Int) * 5) % 36)) = .ok (.val (.str ⟨#[g j]⟩)) := fun j => Classical.choose_spec (F j)
  let ys : List Str := (List.range k).map fun j => (⟨#[g j]⟩ : Str)
  have hsum : ∀ l : List Nat, ((l.map fun j => (⟨#[g j]⟩ : Str)).map (·.length)).sum = l.length := by
    intro l
    induction l with
    | nil => rfl
    | cons a l ih => simp only [List.map_cons, List.sum_cons, ih, List.length_cons]; show 1 + l.length = _; omega
  refine ⟨Txt.join "" ys, digits_ok fun c hc => ?_, ?_⟩
  · rw [join_eq, tl_join, show tl ("" : Str) = [] from by decide, joinL_nil] at hc
    obtain ⟨l, hl, hc⟩ := List.mem_flatten.mp hc
    obtain ⟨y, hy, rfl⟩ := List.mem_map.mp hl
    obtain ⟨j, hj, rfl⟩ := List.mem_map.mp hy
    have : c = g j := by simpa [tl] using hc
    rw [this]
    exact (hg j).1
  · have ec : compR (mgN 2) mYes (mV (mB ixF (mR (mVar 1)) (mR (mB modF (mR (mB addF (mR (mB divF (mR (mVar 0)) (mR (mB addF (mR (mVar 2)) (mR (mC (.int 1))))))) (mR (mB mulF (mR (mB mulF (mR (mVar 2)) (mR (mVar 2)))) (mR (mC (.int 5))))))) (mR (mC (.int 36))))))) [some (.val (.int x)), some (.val (.str S36)), none] (rng 0 k) = .ok ((List.range k).map fun j => PyData.str ⟨#[g j]⟩) := by
      refine compR_map fun j hj => ⟨_, rfl, rfl, ?_⟩
      have hj' : j < k := List.mem_range.mp hj
      have a1 : 0 < (j : Int) + 1 := by omega
      have a2 : (j : Int) + 1 < 18446744073709551616 := by omega
      have a3 : -18446744073709551616 < (j : Int) := by omega
      have a4 : (j : Int) < 18446744073709551616 := by omega
      simp [a1, a2, a3, a4, (hg j).2]
    have e1 : rng1 [.int (k : Int)] = .ok (rng 0 k) := rng1_simp (by omega)
    have e2 : fits (rng 0 k) = true := fits_of (by simp [rng]; omega)
    have em : ((List.range k).map fun j => PyData.str ⟨#[g j]⟩) = ys.map PyData.str := by simp [ys, Function.comp_def]
    have ej : joinF (.str "") (.list (ys.map PyData.str)) = .ok (.val (.str (Txt.join "" ys))) := by
      show (match strsOf (ys.map PyData.str) with
        | some ys => if (ys.map (fun s : Str => s.length)).sum + ys.length * ("" : Str).length ≤ 16777216 then okV (.str (Txt.join "" ys)) else .stuck
        | none => .stuck) = _
      rw [strsOf_map]
      have h0 : ("" : Str).length = 0 := by decide
      have hs := hsum (List.range k)
      have hb : (ys.map (fun s : Str => s.length)).sum + ys.length * ("" : Str).length ≤ 16777216 := by
        rw [h0]
        show ((List.map (fun j => (⟨#[g j]⟩ : Str)) (List.range k)).map (fun s : Str => s.length)).sum + _ ≤ _
        rw [hs]
        simp
        omega
      simp only [if_pos hb]
      rfl
    rw [em] at ec
    simp [mDef, bName, start0, hk, e1, e2, ec, ej]
noncomputable def lNums (A B C D : Int) : MS := (mApp 1 (mV (mB modF (mR (mB mulF (mR (mB addF (mR (mB addF (mR (mB addF (mR (mB modF (mR (mB ixF (mR (mVar 0)) (mR (mVar 2)))) (mR (mC (.int 1000000007))))) (mR (mB mulF (mR (mB mulF (mR (mC (.int A))) (mR (mVar 2)))) (mR (mVar 2)))))) (mR (mB mulF (mR (mC (.int B))) (mR (mVar 2)))))) (mR (mC (.int C))))) (mR (mC (.int D))))) (mR (mC (.int 1000003))))))
noncomputable def bNums (A B C D L : Int) : MS := (mSeq (mAsg 1 (mLst mNil)) (mSeq (mFor (mgN 2) (mRng1 (mCons (mV (mBi lenF (mCons (mR (mSl (mR (mVar 0)) mO0 (mO (mR (mC (.int L)))))) mNil))) mNil)) (lNums A B C D)) (mRetN 1)))
theorem numbers_ok (ns : List Int) (hl : ns.length ≤ 63) (A B C D : Int) (L : Nat) (hL : L ≤ 63) (hA : 0 ≤ A ∧ A < 18446744073709551616) (hB : 0 ≤ B ∧ B < 18446744073709551616) (hD : 0 ≤ D ∧ D < 18446744073709551616) : ∃ xs : List Int, mDef 3 1 (bNums A B C D (L : Int)) [.val (.list (ns.map PyData.int))] = .ok (.own (.list (xs.map PyData.int))) ∧ xs.length = min L ns.length ∧ ∀ x ∈ xs, 0 ≤ x ∧ x < 1000003 := by
  have b1 : -18446744073709551616 < A := by omega
  have b2 := hA.2
  have b3 : -18446744073709551616 < B := by omega
  have b4 := hB.2
  have b5 : -18446744073709551616 < D := by omega
  have b6 := hD.2
  have lp : ∀ (js : List Nat) (xs : List Int) (o : Option DL.Slot), (∀ j ∈ js, j < ns.length) → xs.length + js.length ≤ 100 → (∀ x ∈ xs, 0 ≤ x ∧ x < 1000003) → ∃ (ys : List Int) (o' : Option DL.Slot), loopO (mgN 2) (lNums A B C D) (js.map fun (i : Nat) => PyData.int (0 + (i : Int))) [some (.val (.list (ns.map PyData.int))), some (.own (.list (xs.map PyData.int))), o] = .nx [some (.val (.list (ns.map PyData.int))), some (.own (.list (ys.map PyData.int))), o'] ∧ ys.length = xs.length + js.length ∧ ∀ x ∈ ys, 0 ≤ x ∧ x < 1000003 := by
    intro js
    induction js with
    | nil => intro xs o _ _ hx; exact ⟨xs, o, rfl, by simp, hx⟩
    | cons j js ih =>
      intro xs o hj hb hx
      have hj0 := hj j List.mem_cons_self
      have ek : atI (ns.map PyData.int) (j : Int) = some (.int ns[j]) := by rw [atI_of (by simpa using hj0)]; simp
      have a3 : -18446744073709551616 < (j : Int) := by omega
      have a4 : (j : Int) < 18446744073709551616 := by omega
      have hz : xs.length < sizeLine := lt_sizeLine (by simp at hb; omega)
      obtain ⟨ys, o', e, e2, e3⟩ := ih (xs ++ [(ns[j] % 1000000007 + A * (j : Int) * (j : Int) + B * (j : Int) + C) * D % 1000003]) (some (.val (.int (j : Int)))) (fun i hi => hj i (List.mem_cons_of_mem _ hi)) (by simp at hb ⊢; omega) (by
        intro x hx'
        rcases List.mem_append.mp hx' with h | h
        · exact hx x h
        · rw [List.mem_singleton.mp h]
          exact ⟨Int.emod_nonneg _ (by decide), Int.emod_lt_of_pos _ (by decide)⟩)
      refine ⟨ys, o', ?_, by rw [e2]; simp; omega, e3⟩
      simp [lNums, ek, a3, a4, hz, b1, b2, b3, b4, b5, b6]
      simpa [lNums] using e
  obtain ⟨ys, o', e, e2, e3⟩ := lp (List.range (min L ns.length)) [] none (fun j hj => by have := List.mem_range.mp hj; omega) (by simp; omega) (by simp)
  have e1 : rng1 [.int ((min L ns.length : Nat) : Int)] = .ok (rng 0 (min L ns.length)) := rng1_simp (by omega)
  refine ⟨ys, ?_, by simpa using e2, e3⟩
  have e' : loopO (mgN 2) _ (rng 0 (min L ns.length)) _ = _ := e
  have hc : cutD (ns.map PyData.int) none (some (L : Int)) = (ns.map PyData.int).take L := by rw [cutD_to (by omega), Int.toNat_natCast]
  simp [mDef, bNums, start0, hc]
  rw [e1]
  simp at e'
  simp [e']
end Pg
/-! DN2: names out of numbers; lowest terms -/
namespace Pg
open PySem L2 DL TL
def sgn (i : Nat) : Str := ⟨#[(tl S36).getD i 0]⟩
theorem sgn_lt (i : Nat) : (tl S36).getD i 0 < 128 := by
  rw [List.getD_eq_getElem?_getD]
  cases e : (tl S36)[i]? with
  | none => decide
  | some c => exact s36.2 c (List.mem_of_getElem? e)
theorem sgn_at {i : Nat} (h1 : i < 36) : ixF (.str S36) (.int (i : Int)) = .ok (.val (.str (sgn i))) := by
  have hl : S36.length ≤ sizeLine := Nat.le_trans (by rw [len_tl, s36.1]; decide : S36.length ≤ 100) (by decide)
  have h1' : i < (tl S36).length := by rw [s36.1]; exact h1
  show (if S36.length ≤ sizeLine then (match atI (tl S36) (i : Int) with
    | some c => okV (.str ⟨#[c]⟩)
    | none => .stuck) else .stuck) = _
  rw [if_pos hl, atI_of h1', sgn, List.getD_eq_getElem?_getD, List.getElem?_eq_getElem h1']
  rfl
def nameS (is : List Nat) : Str := Txt.join "" (is.map sgn)
theorem tl_nameS (is : List Nat) : tl (nameS is) = is.map fun i => (tl S36).getD i 0 := by
  rw [nameS, join_eq, tl_join, show tl ("" : Str) = [] from by decide, joinL_nil]
  induction is with
  | nil => rfl
  | cons i is ih => simp only [List.map_cons, List.flatten_cons, ih]; rfl
theorem nameS_ok (is : List Nat) : PyData.strOk (nameS is) = true := digits_ok fun c hc => by
  rw [tl_nameS] at hc
  obtain ⟨i, _, rfl⟩ := List.mem_map.mp hc
  exact sgn_lt i
theorem join_sgn {is : List Nat} (hl : is.length ≤ 10000) : joinF (.str "") (.list (is.map fun i => PyData.str (sgn i))) = .ok (.val (.str (nameS is))) := by
  have e : (is.map fun i => PyData.str (sgn i)) = (is.map sgn).map PyData.str := by simp [Function.comp_def]
  rw [e]
  show (match strsOf ((is.map sgn).map PyData.str) with
    | some ys => if (ys.map (fun s : Str => s.length)).sum + ys.length * ("" : Str).length ≤ 16777216 then okV (.str (Txt.join "" ys)) else .stuck
    | none => .stuck) = _
  rw [strsOf_map]
  have h0 : ("" : Str).length = 0 := by decide
  have hs : ((is.map sgn).map (fun s : Str => s.length)).sum = is.length := by
    induction is with
    | nil => rfl
    | cons a l ih =>
      have := ih (by simp at hl; omega) (by simp [Function.comp_def])
      simp only [List.map_cons, List.sum_cons, this, List.length_cons]
      show 1 + l.length = _
      omega
  have hb : ((is.map sgn).map (fun s : Str => s.length)).sum + (is.map sgn).length * ("" : Str).length ≤ 16777216 := by
    rw [h0, hs]
    omega
  simp only [if_pos hb]
  rfl
/-- a name by its signs' numbers -/
theorem name_comp {g : MG} {m : MD} {δ : DEnv} {k : Nat} (f : Nat → Nat) (h : ∀ j < k, ∃ δ1, g (.int (0 + (j : Int))) δ = some δ1 ∧ m δ1 = .ok (.str (sgn (f j)))) : compR g mYes m δ (rng 0 k) = .ok (((List.range k).map f).map fun i => PyData.str (sgn i)) := by
  rw [List.map_map]
  exact compR_map fun j hj => by
    obtain ⟨δ1, e1, e2⟩ := h j (List.mem_range.mp hj)
    exact ⟨δ1, e1, rfl, e2⟩
/-! lowest terms by the law's own divisor -/
abbrev dvC : MT := mTest (mB neF (mR (mVar 1)) (mR (mC (.int 0))))
abbrev dvB : MS := mPar 0 1 (mCons (mV (mVar 1)) (mCons (mV (mB modF (mR (mVar 0)) (mR (mVar 1)))) mNil))
theorem dv_loop {r : DEnv} : ∀ (y x : Nat), mWhile dvC dvB (some (.val (.int (x : Int))) :: some (.val (.int (y : Int))) :: r) = .nx (some (.val (.int (Nat.gcd x y : Nat))) :: some (.val (.int 0)) :: r) := by
  intro y
  induction y using Nat.strongRecOn with
  | _ y ih =>
    intro x
    rw [mWhile_eq]
    by_cases h : y = 0
    · subst h
      simp
    · have hp : (0 : Int) < (y : Int) := by omega
      have hm : modF (.int (x : Int)) (.int (y : Int)) = .ok (.val (.int ((x % y : Nat) : Int))) := by rw [modF_pos hp]; rfl
      have e := ih (x % y) (Nat.mod_lt _ (by omega)) y
      have eg : Nat.gcd x y = Nat.gcd y (x % y) := by rw [Nat.gcd_comm x y, Nat.gcd_rec y x, Nat.gcd_comm]
      have c : dvC (some (.val (.int (x : Int))) :: some (.val (.int (y : Int))) :: r) = .ok true := by simp [h]
      have b : dvB (some (.val (.int (x : Int))) :: some (.val (.int (y : Int))) :: r) = .nx (some (.val (.int (y : Int))) :: some (.val (.int ((x % y : Nat) : Int))) :: r) := by simp [hm]
      rw [eg, ← e, c, out_ok', if_pos rfl, b]
      rfl
theorem dv_int {r : DEnv} (t : Int) {b : Int} (hb : 0 < b) : mWhile dvC dvB (some (.val (.int t)) :: some (.val (.int b)) :: r) = .nx (some (.val (.int (Int.gcd t b : Nat))) :: some (.val (.int 0)) :: r) := by
  obtain ⟨y, rfl⟩ : ∃ y : Nat, b = (y : Int) := ⟨b.toNat, by omega⟩
  rw [mWhile_eq]
  have hm : modF (.int t) (.int (y : Int)) = .ok (.val (.int (((t % (y : Int)).toNat : Nat) : Int))) := by
    rw [modF_pos hb, Int.toNat_of_nonneg (Int.emod_nonneg _ (by omega))]
  have e := dv_loop (r := r) (t % (y : Int)).toNat y
  have eg : Int.gcd t (y : Int) = Nat.gcd y (t % (y : Int)).toNat := by
    have : (((t % (y : Int)).toNat : Nat) : Int) = t % (y : Int) := Int.toNat_of_nonneg (Int.emod_nonneg _ (by omega))
    have e2 : Int.gcd (y : Int) (t % (y : Int)) = Nat.gcd y (t % (y : Int)).toNat := by
      rw [← this]; rfl
    rw [← e2, Int.gcd_comm t, Int.emod_def]
    simp
  have c : dvC (some (.val (.int t)) :: some (.val (.int (y : Int))) :: r) = .ok true := by
    have h0 : ¬ y = 0 := by omega
    simp [h0]
  have b : dvB (some (.val (.int t)) :: some (.val (.int (y : Int))) :: r) = .nx (some (.val (.int (y : Int))) :: some (.val (.int (((t % (y : Int)).toNat : Nat) : Int))) :: r) := by simp [hm]
  rw [eg, ← e, c, out_ok', if_pos rfl, b]
  rfl
end Pg
/-! DI: what is a name, a place, a game -/
namespace Pg
open PySem L2 DL TL
/-- a walk that stops at the first that is none -/
theorem loop_chk {α : Type} {g : MG} {b : MS} {enc : α → PyData} {p : α → Bool} {mk : Option DL.Slot → DEnv} : ∀ {xs : List α} (o : Option DL.Slot), (∀ x ∈ xs, ∀ o, ∃ δ1, g (enc x) (mk o) = some δ1 ∧ b δ1 = if p x = true then .nx (mk (some (.val (enc x)))) else .rt (.val (.bool false)) (mk (some (.val (enc x))))) → ∃ o', loopO g b (xs.map enc) (mk o) = if xs.all p = true then .nx (mk o') else .rt (.val (.bool false)) (mk o')
  | [], o, _ => ⟨o, by simp⟩
  | x :: xs, o, h => by
    obtain ⟨δ1, e1, e2⟩ := h x List.mem_cons_self o
    rw [List.map_cons, loopO_cons, e1]
    simp only [e2]
    by_cases hp : p x = true
    · obtain ⟨o', e⟩ := loop_chk (xs := xs) (some (.val (enc x))) fun y hy => h y (List.mem_cons_of_mem _ hy)
      refine ⟨o', ?_⟩
      simp only [hp, if_true, e, List.all_cons, Bool.true_and]
    · refine ⟨some (.val (enc x)), ?_⟩
      simp [hp]
def sgnB (c : Nat) : Bool := strIn ⟨#[c]⟩ S36
def isNameB : PyData → Bool
  | .str z => decide (1 ≤ z.length ∧ z.length ≤ 8) && (tl z).all sgnB
  | _ => false
def shortB : PyData → Bool
  | .str z => decide (z.length ≤ 10000)
  | _ => true
theorem name_any {d : PyData} (h : shortB d = true) : d_is_name [.val d] = .ok (.val (.bool (isNameB d))) := by
  cases d with
  | str z =>
    have hz : z.length ≤ 10000 := of_decide_eq_true h
    have el := lenF_str hz
    have e0 : d_is_name [.val (.str z)] = (b_is_name [some (.val (.str z)), none]).res := rfl
    rw [e0]
    unfold b_is_name
    by_cases hl : 1 ≤ z.length ∧ z.length ≤ 8
    · rw [seq_nx (δ' := [some (.val (.str z)), none]) (by
        have h1 : (1 : Int) ≤ (z.length : Int) := by omega
        have h2 : (z.length : Int) ≤ 8 := by omega
        have h3 := hl.1
        have h4 := hl.2
        simp [el, h1, h2])]
      obtain ⟨o', e⟩ := loop_chk (g := mgN 1) (b := mIf (mTest (mB (inF true) (mR (mVar 1)) (mR (mC (.str S36))))) (mRet (mC (.bool false))) mNext) (enc := fun c : Nat => .str ⟨#[c]⟩) (p := sgnB) (mk := fun o => [some (.val (.str z)), o]) (xs := tl z) none (by
        intro c _ o
        refine ⟨_, rfl, ?_⟩
        cases hs : sgnB c <;> simp [inF_str, show strIn ⟨#[c]⟩ S36 = sgnB c from rfl, hs])
      have e' : mFor (mgN 1) (miV 0) (mIf (mTest (mB (inF true) (mR (mVar 1)) (mR (mC (.str S36))))) (mRet (mC (.bool false))) mNext) [some (.val (.str z)), none] = if (tl z).all sgnB = true then .nx [some (.val (.str z)), o'] else .rt (.val (.bool false)) [some (.val (.str z)), o'] := e
      cases hall : (tl z).all sgnB
      · rw [seq_rt (by rw [e', hall, if_neg (by decide)])]
        simp [isNameB, hall]
      · rw [seq_nx (by rw [e', hall, if_pos rfl])]
        simp [isNameB, hall, hl.1, hl.2]
    · have eb : isNameB (.str z) = false := by simp [isNameB, hl]
      rw [eb]
      rw [seq_rt (s := .val (.bool false)) (δ' := [some (.val (.str z)), none]) (by
        by_cases h1 : 1 ≤ z.length
        · have h2 : ¬ z.length ≤ 8 := fun q => hl ⟨h1, q⟩
          have h1' : (1 : Int) ≤ (z.length : Int) := by omega
          have h2' : ¬ (z.length : Int) ≤ 8 := by omega
          simp [el, h1', h2']
        · have h1' : ¬ (1 : Int) ≤ (z.length : Int) := by omega
          simp [el, h1'])]
      rfl
  | none => simp [d_is_name, mDef, b_is_name, start0, isNameB]
  | bool _ => simp [d_is_name, mDef, b_is_name, start0, isNameB]
  | int _ => simp [d_is_name, mDef, b_is_name, start0, isNameB]
  | list _ => simp [d_is_name, mDef, b_is_name, start0, isNameB]
  | tuple _ => simp [d_is_name, mDef, b_is_name, start0, isNameB]
  | dict _ => simp [d_is_name, mDef, b_is_name, start0, isNameB]
def pairO : PyData → Option (PyData × PyData)
  | .tuple [a, b] => some (a, b)
  | _ => none
def pairsB (d : PyData) (most : Nat) : Bool := match d with
  | .tuple ds => decide (1 ≤ ds.length ∧ ds.length ≤ most) && ds.all fun x => (pairO x).isSome
  | _ => false
theorem pairO_len {ds : List PyData} : (pairO (.tuple ds)).isSome = decide (ds.length = 2) := by
  match ds with
  | [] => rfl
  | [_] => rfl
  | [_, _] => rfl
  | _ :: _ :: _ :: _ => simp [pairO]
theorem pairs_any (d : PyData) (most : Nat) : d_are_pairs [.val d, .val (.int (most : Int))] = .ok (.val (.bool (pairsB d most))) := by
  cases d with
  | tuple ds =>
    have e0 : d_are_pairs [.val (.tuple ds), .val (.int (most : Int))] = (b_are_pairs [some (.val (.tuple ds)), some (.val (.int (most : Int))), none]).res := rfl
    rw [e0]
    unfold b_are_pairs
    by_cases hl : 1 ≤ ds.length ∧ ds.length ≤ most
    · rw [seq_nx (δ' := [some (.val (.tuple ds)), some (.val (.int (most : Int))), none]) (by
        have h1 : (1 : Int) ≤ (ds.length : Int) := by omega
        have h3 := hl.2
        simp [h1, h3])]
      obtain ⟨o', e⟩ := loop_chk (g := mgN 2) (b := mIf (mOr (mNot (mTest (mIsi "tuple" (mR (mVar 2))))) (mTest (mB neF (mR (mBi lenF (mCons (mR (mVar 2)) mNil))) (mR (mC (.int 2)))))) (mRet (mC (.bool false))) mNext) (enc := fun x : PyData => x) (p := fun x => (pairO x).isSome) (mk := fun o => [some (.val (.tuple ds)), some (.val (.int (most : Int))), o]) (xs := ds) none (by
        intro x _ o
        refine ⟨_, rfl, ?_⟩
        cases x with
        | tuple zs =>
          rw [pairO_len]
          by_cases hz : zs.length = 2
          · simp [hz]
          · have hz' : ¬ (zs.length : Int) = 2 := by omega
            simp [hz, hz']
        | none => simp [pairO]
        | bool _ => simp [pairO]
        | int _ => simp [pairO]
        | str _ => simp [pairO]
        | list _ => simp [pairO]
        | dict _ => simp [pairO])
      rw [List.map_id'] at e
      have e' : mFor (mgN 2) (miV 0) (mIf (mOr (mNot (mTest (mIsi "tuple" (mR (mVar 2))))) (mTest (mB neF (mR (mBi lenF (mCons (mR (mVar 2)) mNil))) (mR (mC (.int 2)))))) (mRet (mC (.bool false))) mNext) [some (.val (.tuple ds)), some (.val (.int (most : Int))), none] = if (ds.all fun x => (pairO x).isSome) = true then .nx [some (.val (.tuple ds)), some (.val (.int (most : Int))), o'] else .rt (.val (.bool false)) [some (.val (.tuple ds)), some (.val (.int (most : Int))), o'] := e
      cases hall : (ds.all fun x => (pairO x).isSome)
      · rw [seq_rt (by rw [e', hall, if_neg (by decide)])]
        simp [pairsB, hall]
      · rw [seq_nx (by rw [e', hall, if_pos rfl])]
        simp [pairsB, hall, hl.1, hl.2]
    · have eb : pairsB (.tuple ds) most = false := by simp [pairsB, hl]
      rw [eb]
      rw [seq_rt (s := .val (.bool false)) (δ' := [some (.val (.tuple ds)), some (.val (.int (most : Int))), none]) (by
        by_cases h1 : 1 ≤ ds.length
        · have h2 : ¬ ds.length ≤ most := fun q => hl ⟨h1, q⟩
          have h1' : (1 : Int) ≤ (ds.length : Int) := by omega
          simp [h1', h2]
        · have h1' : ¬ (1 : Int) ≤ (ds.length : Int) := by omega
          simp [h1'])]
      rfl
  | none => simp [d_are_pairs, mDef, b_are_pairs, start0, pairsB]
  | bool _ => simp [d_are_pairs, mDef, b_are_pairs, start0, pairsB]
  | int _ => simp [d_are_pairs, mDef, b_are_pairs, start0, pairsB]
  | str _ => simp [d_are_pairs, mDef, b_are_pairs, start0, pairsB]
  | list _ => simp [d_are_pairs, mDef, b_are_pairs, start0, pairsB]
  | dict _ => simp [d_are_pairs, mDef, b_are_pairs, start0, pairsB]
def wholeB : PyData → Bool
  | .int _ => true
  | _ => false
theorem whole_any (d : PyData) : d_is_whole [.val d] = .ok (.val (.bool (wholeB d))) := by
  cases d <;> simp [wholeB]
def ratioB : PyData → Bool
  | .tuple [.int t, .int b] => decide (1 ≤ b ∧ Int.gcd t b = 1)
  | _ => false
theorem ratio_any (d : PyData) : d_is_ratio [.val d] = .ok (.val (.bool (ratioB d))) := by
  cases d with
  | tuple ds =>
    by_cases hl : ds.length = 2
    · obtain ⟨x, y, rfl⟩ : ∃ x y, ds = [x, y] := by
        match ds, hl with
        | [x, y], _ => exact ⟨x, y, rfl⟩
      cases hx : wholeB x
      · rw [is_ratio_no (.inl (by rw [whole_any, hx]))]
        cases x <;> first | rfl | (cases hx)
      · cases hy : wholeB y
        · rw [is_ratio_no (.inr ⟨by rw [whole_any, hx], by rw [whole_any, hy]⟩)]
          cases x <;> first | (cases hx; done) | skip
          cases y <;> first | rfl | (cases hy)
        · cases x <;> first | (cases hx; done) | skip
          cases y <;> first | (cases hy; done) | skip
          rw [is_ratio_two]
          rfl
    · rw [is_ratio_len hl]
      match ds, hl with
      | [], _ => rfl
      | [_], _ => simp [ratioB]
      | [_, _], h => exact absurd rfl h
      | _ :: _ :: _ :: _, _ => simp [ratioB]
  | none => simp [ratioB]
  | bool _ => simp [ratioB]
  | int _ => simp [ratioB]
  | str _ => simp [ratioB]
  | list _ => simp [ratioB]
  | dict _ => simp [ratioB]
/-! a place -/
def rowsOf : PyData → List (PyData × PyData)
  | .tuple ds => ds.filterMap pairO
  | _ => []
def textO : PyData → Option Str
  | .str z => some z
  | _ => none
def sideB : PyData → Bool
  | .int i => decide (i = 1 ∨ i = 2)
  | _ => false
def labelsOf (W : PyData) : List PyData := (rowsOf W).map (·.1)
def wordsOf (W : PyData) : List Str := (labelsOf W).filterMap textO
def isPlaceB : PyData → Bool
  | .tuple (.str t :: r) =>
    if (t == ("end" : Str)) = true then (match r with | [q] => ratioB q | _ => false)
    else if (t == ("deal" : Str)) = true then (match r with | [nm, W] => isNameB nm && (pairsB W 64 && (labelsOf W).all ratioB) | _ => false)
    else if (t == ("move" : Str)) = true then (match r with | [s, nm, W] => sideB s && (isNameB nm && (pairsB W 6 && ((labelsOf W).all isNameB && decide (wordsOf W).Nodup))) | _ => false)
    else false
  | _ => false
/-- what the walk over it can read -/
def okPB : PyData → Bool
  | .tuple (.str t :: r) => PyData.strOk t && r.all fun x => shortB x && (labelsOf x).all shortB
  | _ => true
theorem filterPair {ds : List PyData} (h : (ds.all fun x => (pairO x).isSome) = true) : ds = (ds.filterMap pairO).map fun p => .tuple [p.1, p.2] := by
  induction ds with
  | nil => rfl
  | cons x ds ih =>
    simp only [List.all_cons, Bool.and_eq_true] at h
    obtain ⟨p, hp⟩ := Option.isSome_iff_exists.mp h.1
    rw [List.filterMap_cons_some hp, List.map_cons, ← ih h.2]
    congr 1
    match x, hp with
    | .tuple [a, b], hp => simp only [pairO, Option.some.injEq] at hp; subst hp; rfl
theorem pairs_rows {W : PyData} {most : Nat} (h : pairsB W most = true) : W = .tuple ((rowsOf W).map fun p => .tuple [p.1, p.2]) ∧ 1 ≤ (rowsOf W).length ∧ (rowsOf W).length ≤ most := by
  cases W with
  | tuple ds =>
    simp only [pairsB, Bool.and_eq_true, decide_eq_true_eq] at h
    have e := filterPair h.2
    refine ⟨by rw [rowsOf, ← e], ?_⟩
    have : (rowsOf (.tuple ds)).length = ds.length := by
      conv => rhs; rw [e, List.length_map]
      rfl
    rw [this]
    exact h.1
  | none => cases h
  | bool _ => cases h
  | int _ => cases h
  | str _ => cases h
  | list _ => cases h
  | dict _ => cases h
theorem all_texts : ∀ {ls : List PyData}, ls.all isNameB = true → ls = (ls.filterMap textO).map PyData.str
  | [], _ => rfl
  | x :: ls, h => by
    simp only [List.all_cons, Bool.and_eq_true] at h
    cases x with
    | str z =>
      have e : (PyData.str z :: ls).filterMap textO = z :: ls.filterMap textO := rfl
      rw [e, List.map_cons, ← all_texts h.2]
    | none => exact absurd h.1 (by simp [isNameB])
    | bool _ => exact absurd h.1 (by simp [isNameB])
    | int _ => exact absurd h.1 (by simp [isNameB])
    | list _ => exact absurd h.1 (by simp [isNameB])
    | tuple _ => exact absurd h.1 (by simp [isNameB])
    | dict _ => exact absurd h.1 (by simp [isNameB])
theorem in12 {i : Int} : inF true (.int i) (.tuple [.int 1, .int 2]) = .ok (.val (.bool (!decide (i = 1 ∨ i = 2)))) := by
  have h1 : SeqAt.shaped (.tuple [.int 1, .int 2]) = true := by simp [SeqAt.shaped, PyData.canLay0, PyData.canLayAll0, PyData.depth, PyData.depthAll]
  show (if SeqAt.shaped (.int i) = true ∧ SeqAt.shaped (.tuple [.int 1, .int 2]) = true then okB (true != [PyData.int 1, .int 2].any fun z => PyData.eqv z (.int i)) else .stuck) = _
  rw [if_pos ⟨shaped_int i, h1⟩]
  have e : ∀ a : Int, PyData.eqv (.int a) (.int i) = (a == i) := fun a => rfl
  simp only [List.any_cons, List.any_nil, e, Bool.or_false]
  by_cases a : i = 1
  · subst a; rfl
  · by_cases b : i = 2
    · subst b; rfl
    · have a' : ((1 : Int) == i) = false := beq_false_of_ne fun z => a z.symm
      have b' : ((2 : Int) == i) = false := beq_false_of_ne fun z => b z.symm
      rw [a', b']
      simp [a, b]
@[simp] theorem at_43 {α : Type} {x y z w : α} : atI [x, y, z, w] 3 = some w := rfl
theorem place_eq (d : PyData) : d_is_place [.val d] = (b_is_place [some (.val d), none, none, none, none]).res := rfl
theorem comp_map {g : MG} {m : MD} {δ : DEnv} {α : Type} {f h : α → PyData} {xs : List α} (H : ∀ x ∈ xs, ∃ δ1, g (f x) δ = some δ1 ∧ m δ1 = .ok (h x)) : compR g mYes m δ (xs.map f) = .ok (xs.map h) := compR_map fun x hx => by
  obtain ⟨δ1, e1, e2⟩ := H x hx
  exact ⟨δ1, e1, rfl, e2⟩
theorem place_deal {nm W : PyData} (hn : shortB nm = true) : d_is_place [.val (.tuple [.str "deal", nm, W])] = .ok (.val (.bool (isNameB nm && (pairsB W 64 && (labelsOf W).all ratioB)))) := by
  have e1 := name_any hn
  have e2 := pairs_any W 64
  have e2' : d_are_pairs [.val W, .val (.int 64)] = .ok (.val (.bool (pairsB W 64))) := e2
  rw [place_eq]
  cases h1 : isNameB nm
  · rw [h1] at e1
    simp [b_is_place, e1]
  · rw [h1] at e1
    cases h2 : pairsB W 64
    · rw [h2] at e2'
      simp [b_is_place, e1, e2']
    · rw [h2] at e2'
      obtain ⟨ew, l1, l2⟩ := pairs_rows h2
      have c : ∀ D : PyData, compR (mgT 2 (mgCons (mgN 2) (mgCons (mgN 3) mgNil))) mYes (mV (mCall Pg.d_is_ratio (mACons (mVar 2) mANil))) [some (.val D), none, none, none, none] ((rowsOf W).map fun p => .tuple [p.1, p.2]) = .ok ((rowsOf W).map fun p => .bool (ratioB p.1)) := fun D => comp_map fun p hp => ⟨_, rfl, by simp [ratio_any]⟩
      have ha := allF_map ((rowsOf W).map fun p => ratioB p.1)
      have ea : ((rowsOf W).map fun p => ratioB p.1).all id = (labelsOf W).all ratioB := by simp [labelsOf, List.all_map, Function.comp_def]
      rw [ea, List.map_map] at ha
      have hf : fits ((rowsOf W).map fun p => PyData.tuple [p.1, p.2]) = true := fits_of (by simp; omega)
      have ha' : allF [.list ((rowsOf W).map fun p => .bool (ratioB p.1))] = .ok (.val (.bool ((labelsOf W).all ratioB))) := ha
      have c' := c (.tuple [.str "deal", nm, W])
      have es : seqOf W = .ok ((rowsOf W).map fun p => .tuple [p.1, p.2]) := by
        conv => lhs; rw [ew]
        rfl
      generalize ((rowsOf W).map fun p => PyData.tuple [p.1, p.2]) = rs at *
      generalize ((rowsOf W).map fun p => PyData.bool (ratioB p.1)) = bs at *
      simp [b_is_place, e1, e2', es, hf, c', ha']
theorem place_move {s nm W : PyData} (hn : shortB nm = true) (hw : (labelsOf W).all shortB = true) : d_is_place [.val (.tuple [.str "move", s, nm, W])] = .ok (.val (.bool (sideB s && (isNameB nm && (pairsB W 6 && ((labelsOf W).all isNameB && decide (wordsOf W).Nodup)))))) := by
  have e0 := whole_any s
  have e1 := name_any hn
  have e2 : d_are_pairs [.val W, .val (.int 6)] = .ok (.val (.bool (pairsB W 6))) := pairs_any W 6
  rw [place_eq]
  cases hs : sideB s
  · have : wholeB s = false ∨ ∃ i, s = .int i ∧ ¬ (i = 1 ∨ i = 2) := by
      cases s <;> first | exact .inl rfl | exact .inr ⟨_, rfl, by simpa [sideB] using hs⟩
    rcases this with h | ⟨i, rfl, h⟩
    · rw [h] at e0
      simp [b_is_place, e0]
    · have e3 := in12 (i := i)
      rw [decide_eq_false h] at e3
      simp [b_is_place, e3, fits_of]
  · obtain ⟨i, rfl, hi⟩ : ∃ i, s = .int i ∧ (i = 1 ∨ i = 2) := by
      cases s <;> first | exact ⟨_, rfl, by simpa [sideB] using hs⟩ | (exact absurd hs (by simp [sideB]))
    have e3 := in12 (i := i)
    rw [decide_eq_true hi] at e3
    cases h1 : isNameB nm
    · rw [h1] at e1
      simp [b_is_place, e3, e1, fits_of]
    · rw [h1] at e1
      cases h2 : pairsB W 6
      · rw [h2] at e2
        simp [b_is_place, e3, e1, e2, fits_of]
      · rw [h2] at e2
        obtain ⟨ew, l1, l2⟩ := pairs_rows h2
        have hf : fits ((rowsOf W).map fun p => PyData.tuple [p.1, p.2]) = true := fits_of (by simp; omega)
        have es : seqOf W = .ok ((rowsOf W).map fun p => .tuple [p.1, p.2]) := by
          conv => lhs; rw [ew]
          rfl
        have c1 : compR (mgT 2 (mgCons (mgN 4) (mgCons (mgN 3) mgNil))) mYes (mV (mVar 4)) [some (.val (.tuple [.str "move", .int i, nm, W])), none, none, none, none] ((rowsOf W).map fun p => .tuple [p.1, p.2]) = .ok ((rowsOf W).map fun p => p.1) := comp_map fun p hp => ⟨_, rfl, by simp⟩
        have hl : (labelsOf W).length ≤ 6 := by rw [labelsOf, List.length_map]; exact l2
        have c1' : compR (mgT 2 (mgCons (mgN 4) (mgCons (mgN 3) mgNil))) mYes (mV (mVar 4)) [some (.val (.tuple [.str "move", .int i, nm, W])), none, none, none, none] ((rowsOf W).map fun p => .tuple [p.1, p.2]) = .ok (labelsOf W) := c1
        have c2 : compR (mgN 4) mYes (mV (mCall Pg.d_is_name (mACons (mVar 4) mANil))) [some (.val (.tuple [.str "move", .int i, nm, W])), some (.val (.list (labelsOf W))), none, none, none] ((labelsOf W).map fun x => x) = .ok ((labelsOf W).map fun x => .bool (isNameB x)) := comp_map fun x hx => ⟨_, rfl, by simp [name_any (List.all_eq_true.mp hw x hx)]⟩
        rw [List.map_id'] at c2
        have ha := allF_map ((labelsOf W).map isNameB)
        have ea : ((labelsOf W).map isNameB).all id = (labelsOf W).all isNameB := by simp [List.all_map, Function.comp_def]
        rw [ea, List.map_map] at ha
        have ha' : allF [.list ((labelsOf W).map fun x => .bool (isNameB x))] = .ok (.val (.bool ((labelsOf W).all isNameB))) := ha
        have hf2 : fits (labelsOf W) = true := fits_of (by omega)
        have hls : (labelsOf W).all isNameB = true → lenSetF (.list (labelsOf W)) = .ok (.val (.int (unl (wordsOf W) (wordsOf W).length : Nat))) ∧ (labelsOf W).length = (wordsOf W).length := fun h => by
          have e := all_texts h
          have e3 : (labelsOf W).length = (wordsOf W).length := by
            conv => lhs; rw [e, List.length_map]
            rfl
          refine ⟨?_, e3⟩
          conv => lhs; rw [e]
          exact lenSetF_map (by show (wordsOf W).length ≤ 1000; omega)
        generalize labelsOf W = ls at *
        generalize ((rowsOf W).map fun p => PyData.tuple [p.1, p.2]) = rs at *
        generalize (ls.map fun x => PyData.bool (isNameB x)) = bs at *
        cases h3 : ls.all isNameB
        · rw [h3] at ha'
          simp [b_is_place, e3, e1, e2, fits_of, es, hf, c1', frz, hf2, c2, ha']
        · rw [h3] at ha'
          obtain ⟨q1, q2⟩ := hls h3
          have q3 := unl_nodup (xs := wordsOf W)
          have q4 : ((unl (wordsOf W) (wordsOf W).length : Nat) : Int) = (ls.length : Int) ↔ (wordsOf W).Nodup := by rw [q2, ← q3]; omega
          generalize ((unl (wordsOf W) (wordsOf W).length : Nat) : Int) = k at *
          by_cases hn : (wordsOf W).Nodup
          · have := q4.2 hn
            simp [b_is_place, e3, e1, e2, fits_of, es, hf, c1', frz, hf2, c2, ha', q1, this, hn]
          · have : ¬ k = (ls.length : Int) := fun z => hn (q4.1 z)
            simp [b_is_place, e3, e1, e2, fits_of, es, hf, c1', frz, hf2, c2, ha', q1, this, hn]
theorem place_any {d : PyData} (h : okPB d = true) : d_is_place [.val d] = .ok (.val (.bool (isPlaceB d))) := by
  cases d with
  | tuple ds =>
    match ds, h with
    | [], _ => rw [place_eq]; simp [b_is_place, isPlaceB]
    | [x], _ =>
      have e : isPlaceB (.tuple [x]) = false := by
        cases x <;> first | rfl | skip
        simp only [isPlaceB]
        split <;> (try split) <;> (try split) <;> rfl
      rw [place_eq, e]; simp [b_is_place]
    | x :: y :: r, h =>
      have hl2 : ¬ ((x :: y :: r).length : Int) < 2 := by simp only [List.length_cons]; omega
      by_cases hx : ∃ t, x = .str t
      · obtain ⟨t, rfl⟩ := hx
        simp only [okPB, Bool.and_eq_true] at h
        obtain ⟨ht, hr⟩ := h
        have hlt : lenF [.tuple (.str t :: y :: r)] = .ok (.val (.int ((r.length + 1 + 1 : Nat) : Int))) := rfl
        have hk : ¬ ((r.length + 1 + 1 : Nat) : Int) < 2 := by omega
        by_cases h1 : (t == ("end" : Str)) = true
        · have et : t = "end" := by simpa using h1
          subst et
          match r, hr with
          | [], hr =>
            have e : isPlaceB (.tuple [.str "end", y]) = ratioB y := by simp [isPlaceB]
            rw [place_eq, e]
            simp [b_is_place, ratio_any]
          | z :: r, hr =>
            have e : isPlaceB (.tuple (.str "end" :: y :: z :: r)) = false := by simp [isPlaceB]
            have hk2 : ¬ ((z :: r).length + 1 + 1 : Nat) = 2 := by simp
            rw [place_eq, e]
            have hn : ¬ (r.length : Int) + 1 + 1 + 1 < 2 := by omega
            have hn2 : ¬ (r.length : Int) + 1 + 1 + 1 = 2 := by omega
            simp [b_is_place, hn, hn2]
        · have h1' : (t == ("end" : Str)) = false := by simpa using h1
          by_cases h2 : (t == ("deal" : Str)) = true
          · have et : t = "deal" := by simpa using h2
            subst et
            match r, hr with
            | [W], hr =>
              simp only [List.all_cons, List.all_nil, Bool.and_eq_true] at hr
              have e : isPlaceB (.tuple [.str "deal", y, W]) = (isNameB y && (pairsB W 64 && (labelsOf W).all ratioB)) := by simp [isPlaceB]
              rw [e, place_deal hr.1.1]
            | [], hr =>
              have e : isPlaceB (.tuple [.str "deal", y]) = false := by simp [isPlaceB]
              rw [place_eq, e]
              simp [b_is_place]
            | a :: b :: r, hr =>
              have e : isPlaceB (.tuple (.str "deal" :: y :: a :: b :: r)) = false := by simp [isPlaceB]
              rw [place_eq, e]
              have hn : ¬ (r.length : Int) + 1 + 1 + 1 + 1 < 2 := by omega
              have hn2 : ¬ (r.length : Int) + 1 + 1 + 1 + 1 = 3 := by omega
              simp [b_is_place, hn, hn2]
          · have h2' : (t == ("deal" : Str)) = false := by simpa using h2
            have hn0 : ¬ (r.length : Int) + 1 + 1 < 2 := by omega
            by_cases h3 : (t == ("move" : Str)) = true
            · have et : t = "move" := by simpa using h3
              subst et
              match r, hr with
              | [nm, W], hr =>
                simp only [List.all_cons, List.all_nil, Bool.and_eq_true] at hr
                have e : isPlaceB (.tuple [.str "move", y, nm, W]) = (sideB y && (isNameB nm && (pairsB W 6 && ((labelsOf W).all isNameB && decide (wordsOf W).Nodup)))) := by simp [isPlaceB]
                rw [e, place_move hr.2.1.1 hr.2.2.1.2]
              | [], hr =>
                have e : isPlaceB (.tuple [.str "move", y]) = false := by simp [isPlaceB]
                rw [place_eq, e]
                simp [b_is_place]
              | [a], hr =>
                have e : isPlaceB (.tuple [.str "move", y, a]) = false := by simp [isPlaceB]
                rw [place_eq, e]
                simp [b_is_place]
              | a :: b :: c :: r, hr =>
                have e : isPlaceB (.tuple (.str "move" :: y :: a :: b :: c :: r)) = false := by simp [isPlaceB]
                rw [place_eq, e]
                have hn : ¬ (r.length : Int) + 1 + 1 + 1 + 1 + 1 < 2 := by omega
                have hn2 : ¬ (r.length : Int) + 1 + 1 + 1 + 1 + 1 = 4 := by omega
                simp [b_is_place, hn, hn2]
            · have h3' : (t == ("move" : Str)) = false := by simpa using h3
              have e : isPlaceB (.tuple (.str t :: y :: r)) = false := by simp only [isPlaceB, h1', h2', h3']; simp
              rw [place_eq, e]
              simp [b_is_place, hn0, ht, h1', h2', h3']
      · have e : isPlaceB (.tuple (x :: y :: r)) = false := by
          cases x <;> first | rfl | exact absurd ⟨_, rfl⟩ hx
        have hn0 : ¬ (r.length : Int) + 1 + 1 < 2 := by omega
        rw [place_eq, e]
        cases x <;> first | exact absurd ⟨_, rfl⟩ hx | simp [b_is_place, hn0]
  | none => rw [place_eq]; simp [b_is_place, isPlaceB]
  | bool _ => rw [place_eq]; simp [b_is_place, isPlaceB]
  | int _ => rw [place_eq]; simp [b_is_place, isPlaceB]
  | str _ => rw [place_eq]; simp [b_is_place, isPlaceB]
  | list _ => rw [place_eq]; simp [b_is_place, isPlaceB]
  | dict _ => rw [place_eq]; simp [b_is_place, isPlaceB]
/-! what stands behind a place -/
def partsB : PyData → List PyData
  | .tuple [.str _, _, W] => (rowsOf W).map (·.2)
  | .tuple [.str _, _, _, W] => (rowsOf W).map (·.2)
  | _ => []
theorem parts_eq (d : PyData) : d_parts_of [.val d] = (b_parts_of [some (.val d), none, none]).res := rfl
theorem parts_any {d : PyData} (h : isPlaceB d = true) : d_parts_of [.val d] = .ok (.own (.list (partsB d))) := by
  cases d with
  | tuple ds =>
    match ds, h with
    | .str t :: r, h =>
      have go : ∀ {W : PyData} {most : Nat}, most ≤ 64 → pairsB W most = true → ∀ D : PyData, seqOf W = .ok ((rowsOf W).map fun p => .tuple [p.1, p.2]) ∧ fits ((rowsOf W).map fun p => PyData.tuple [p.1, p.2]) = true ∧ compR (mgT 2 (mgCons (mgN 1) (mgCons (mgN 2) mgNil))) mYes (mV (mVar 2)) [some (.val D), none, none] ((rowsOf W).map fun p => .tuple [p.1, p.2]) = .ok ((rowsOf W).map fun p => p.2) := fun {W most} hm h2 D => by
        obtain ⟨ew, l1, l2⟩ := pairs_rows h2
        refine ⟨?_, fits_of (by simp; omega), comp_map fun p hp => ⟨_, rfl, by simp⟩⟩
        conv => lhs; rw [ew]
        rfl
      simp only [isPlaceB] at h
      by_cases h1 : (t == ("end" : Str)) = true
      · have et : t = "end" := by simpa using h1
        subst et
        rw [if_pos h1] at h
        match r, h with
        | [q], _ => rw [parts_eq]; simp [b_parts_of, partsB]
      · rw [if_neg h1] at h
        by_cases h2 : (t == ("deal" : Str)) = true
        · have et : t = "deal" := by simpa using h2
          subst et
          rw [if_pos h2] at h
          match r, h with
          | [nm, W], h =>
            simp only [Bool.and_eq_true] at h
            obtain ⟨a, b, c⟩ := go (by decide) h.2.1 (.tuple [.str "deal", nm, W])
            rw [parts_eq]
            have e : partsB (.tuple [.str "deal", nm, W]) = (rowsOf W).map fun p => p.2 := rfl
            rw [e]
            generalize ((rowsOf W).map fun p => PyData.tuple [p.1, p.2]) = rs at *
            simp [b_parts_of, a, b, c]
        · rw [if_neg h2] at h
          by_cases h3 : (t == ("move" : Str)) = true
          · have et : t = "move" := by simpa using h3
            subst et
            rw [if_pos h3] at h
            match r, h with
            | [s, nm, W], h =>
              simp only [Bool.and_eq_true] at h
              obtain ⟨a, b, c⟩ := go (by decide) h.2.2.1 (.tuple [.str "move", s, nm, W])
              rw [parts_eq]
              have e : partsB (.tuple [.str "move", s, nm, W]) = (rowsOf W).map fun p => p.2 := rfl
              rw [e]
              generalize ((rowsOf W).map fun p => PyData.tuple [p.1, p.2]) = rs at *
              simp [b_parts_of, a, b, c]
          · rw [if_neg h3] at h; cases h
  | none => cases h
  | bool _ => cases h
  | int _ => cases h
  | str _ => cases h
  | list _ => cases h
  | dict _ => cases h
/-! a game -/
def isGameF : Nat → PyData → Bool
  | 0, _ => false
  | n + 1, d => isPlaceB d && (partsB d).all (isGameF n)
def fitF : Nat → PyData → Bool
  | 0, _ => false
  | n + 1, d => okPB d && (!isPlaceB d || (partsB d).all (fitF n))
def nodesF : Nat → PyData → Nat
  | 0, _ => 1
  | n + 1, d => 1 + if isPlaceB d = true then ((partsB d).map (nodesF n)).sum else 0
theorem nodes_pos : ∀ n d, 1 ≤ nodesF n d
  | 0, _ => Nat.le_refl 1
  | n + 1, d => by show 1 ≤ 1 + _; omega
abbrev Wt := List (Nat × PyData)
def wsum (ps : Wt) : Nat := (ps.map fun p => nodesF p.1 p.2).sum
theorem wsum_app (a b : Wt) : wsum (a ++ b) = wsum a + wsum b := by simp [wsum]
theorem wsum_len : ∀ ps : Wt, ps.length ≤ wsum ps
  | [] => Nat.le_refl 0
  | p :: ps => by
    have := wsum_len ps
    have := nodes_pos p.1 p.2
    simp only [wsum, List.map_cons, List.sum_cons, List.length_cons] at *
    omega
theorem can_mem : ∀ {ds : List PyData} {x : PyData}, x ∈ ds → PyData.canLayAll0 ds = true → x.canLay0 = true
  | y :: ds, x, h, c => by
    simp only [PyData.canLayAll0, Bool.and_eq_true] at c
    rcases List.mem_cons.mp h with rfl | h
    · exact c.1
    · exact can_mem h c.2
theorem depth_mem : ∀ {ds : List PyData} {x : PyData}, x ∈ ds → x.depth ≤ PyData.depthAll ds
  | y :: ds, x, h => by
    simp only [PyData.depthAll]
    rcases List.mem_cons.mp h with rfl | h
    · omega
    · have := depth_mem h
      omega
theorem rows_mem {W : PyData} {p : PyData × PyData} (h : p ∈ rowsOf W) (c : W.canLay0 = true) : p.2.canLay0 = true ∧ p.2.depth ≤ W.depth := by
  cases W with
  | tuple ds =>
    obtain ⟨x, hx, e⟩ := List.mem_filterMap.mp h
    match x, e with
    | .tuple [a, b], e =>
      simp only [pairO, Option.some.injEq] at e
      subst e
      simp only [PyData.canLay0] at c
      have c1 := can_mem hx c
      simp only [PyData.canLay0] at c1
      have d1 := depth_mem hx
      have d2 : b.depth ≤ PyData.depthAll [a, b] := depth_mem (by simp)
      refine ⟨can_mem (x := b) (by simp) c1, ?_⟩
      simp only [PyData.depth] at d1 ⊢
      omega
  | none => cases h
  | bool _ => cases h
  | int _ => cases h
  | str _ => cases h
  | list _ => cases h
  | dict _ => cases h
theorem parts_can {d x : PyData} (h : x ∈ partsB d) (c : d.canLay0 = true) : x.canLay0 = true ∧ x.depth ≤ d.depth := by
  match d, h with
  | .tuple [.str t, nm, W], h =>
    obtain ⟨p, hp, rfl⟩ := List.mem_map.mp h
    simp only [PyData.canLay0] at c
    obtain ⟨a, b⟩ := rows_mem hp (can_mem (x := W) (by simp) c)
    have d2 : W.depth ≤ PyData.depthAll [.str t, nm, W] := depth_mem (by simp)
    refine ⟨a, ?_⟩
    simp only [PyData.depth] at *
    omega
  | .tuple [.str t, s, nm, W], h =>
    obtain ⟨p, hp, rfl⟩ := List.mem_map.mp h
    simp only [PyData.canLay0] at c
    obtain ⟨a, b⟩ := rows_mem hp (can_mem (x := W) (by simp) c)
    have d2 : W.depth ≤ PyData.depthAll [.str t, s, nm, W] := depth_mem (by simp)
    refine ⟨a, ?_⟩
    simp only [PyData.depth] at *
    omega
theorem game_loop {G : PyData} : ∀ (N : Nat) (ps : Wt) (o : Option DL.Slot), wsum ps ≤ N → N ≤ 9990 → (∀ p ∈ ps, fitF p.1 p.2 = true) →
    ∃ δ, mWhile C_is_game_1 L_is_game_2 [some (.val G), some (.own (.list (ps.map (·.2)))), o] = if (ps.all fun p => isGameF p.1 p.2) = true then .nx δ else .rt (.val (.bool false)) δ := by
  intro N
  induction N with
  | zero =>
    intro ps o hN h9 hf
    have hl := wsum_len ps
    have : ps = [] := List.eq_nil_of_length_eq_zero (by omega)
    subst this
    refine ⟨[some (.val G), some (.own (.list [])), o], ?_⟩
    rw [mWhile_eq, List.map_nil]
    have e : C_is_game_1 [some (.val G), some (.own (.list [])), o] = .ok false := by simp [C_is_game_1, neG_nil]
    rw [e]
    rfl
  | succ N ih =>
    intro ps o hN h9 hf
    rcases List.eq_nil_or_concat ps with rfl | ⟨qs, p, rfl⟩
    · refine ⟨[some (.val G), some (.own (.list [])), o], ?_⟩
      rw [mWhile_eq, List.map_nil]
      have e : C_is_game_1 [some (.val G), some (.own (.list [])), o] = .ok false := by simp [C_is_game_1, neG_nil]
      rw [e]
      rfl
    · rw [List.concat_eq_append] at hN hf ⊢
      obtain ⟨n, d⟩ := p
      have hfp := hf (n, d) (by simp)
      cases n with
      | zero => cases hfp
      | succ n =>
        simp only [fitF, Bool.and_eq_true, Bool.or_eq_true, Bool.not_eq_true'] at hfp
        have ep := place_any hfp.1
        have ne := neG_nil (ds := (qs ++ [(n + 1, d)]).map (·.2))
        have ec : C_is_game_1 [some (.val G), some (.own (.list ((qs ++ [(n + 1, d)]).map (·.2)))), o] = .ok true := by
          have h0 : ((qs ++ [(n + 1, d)]).map (·.2)).isEmpty = false := by simp
          rw [h0] at ne
          generalize (qs ++ [(n + 1, d)]).map (·.2) = L at ne
          simp [C_is_game_1, ne]
        have hpop : mPopG 1 (mgN 2) [some (.val G), some (.own (.list ((qs ++ [(n + 1, d)]).map (·.2)))), o] = .nx [some (.val G), some (.own (.list (qs.map (·.2)))), some (.val d)] := by
          simp [mPopG, popD, tgtO]
        rw [mWhile_eq, ec, out_ok', if_pos rfl]
        cases hp : isPlaceB d
        · rw [hp] at ep
          refine ⟨[some (.val G), some (.own (.list (qs.map (·.2)))), some (.val d)], ?_⟩
          have eb : L_is_game_2 [some (.val G), some (.own (.list ((qs ++ [(n + 1, d)]).map (·.2)))), o] = .rt (.val (.bool false)) [some (.val G), some (.own (.list (qs.map (·.2)))), some (.val d)] := by
            unfold L_is_game_2
            rw [seq_nx hpop]
            simp [frz, ep]
          rw [eb]
          have ef : ((qs ++ [(n + 1, d)]).all fun p => isGameF p.1 p.2) = false := by simp [isGameF, hp]
          rw [ef, if_neg (by decide)]
          rfl
        · rw [hp] at ep
          have eq := parts_any hp
          have hfx : ∀ x ∈ partsB d, fitF n x = true := by
            rcases hfp.2 with h | h
            · rw [hp] at h; cases h
            · exact List.all_eq_true.mp h
          have hsum : wsum (qs ++ (partsB d).map fun x => (n, x)) + 1 = wsum (qs ++ [(n + 1, d)]) := by
            rw [wsum_app, wsum_app]
            have e1 : wsum ((partsB d).map fun x => (n, x)) = ((partsB d).map (nodesF n)).sum := by simp [wsum, Function.comp_def]
            have e2 : wsum [(n + 1, d)] = 1 + ((partsB d).map (nodesF n)).sum := by simp [wsum, nodesF, hp]
            rw [e1, e2]
            omega
          have hlen := wsum_len (qs ++ (partsB d).map fun x => (n, x))
          have hlen2 : qs.length + (partsB d).length ≤ 10000 := by
            rw [List.length_append, List.length_map] at hlen
            omega
          obtain ⟨δ, e⟩ := ih (qs ++ (partsB d).map fun x => (n, x)) (some (.val d)) (by omega) (by omega) (fun p hp => by
            rcases List.mem_append.mp hp with hp | hp
            · exact hf p (List.mem_append_left _ hp)
            · obtain ⟨x, hx, rfl⟩ := List.mem_map.mp hp
              exact hfx x hx)
          refine ⟨δ, ?_⟩
          have eb : L_is_game_2 [some (.val G), some (.own (.list ((qs ++ [(n + 1, d)]).map (·.2)))), o] = .nx [some (.val G), some (.own (.list ((qs ++ (partsB d).map fun x => (n, x)).map (·.2)))), some (.val d)] := by
            unfold L_is_game_2
            rw [seq_nx hpop]
            have hm : (qs ++ (partsB d).map fun x => (n, x)).map (·.2) = qs.map (·.2) ++ partsB d := by simp [Function.comp_def]
            rw [hm]
            simp [frz, ep, eq, hlen2]
          rw [eb]
          show mWhile _ _ _ = _
          rw [e]
          have ef : ((qs ++ [(n + 1, d)]).all fun p => isGameF p.1 p.2) = ((qs ++ (partsB d).map fun x => (n, x)).all fun p => isGameF p.1 p.2) := by
            simp [isGameF, hp, List.all_map, Function.comp_def]
          rw [ef]
theorem game_any {n : Nat} {d : PyData} (hf : fitF n d = true) (hn : nodesF n d ≤ 9990) : d_is_game [.val d] = .ok (.val (.bool (isGameF n d))) := by
  obtain ⟨δ, e⟩ := game_loop (G := d) 9990 [(n, d)] none (by simpa [wsum] using hn) (Nat.le_refl _) (by simpa using hf)
  have e0 : d_is_game [.val d] = (b_is_game [some (.val d), none, none]).res := rfl
  rw [e0]
  unfold b_is_game
  rw [seq_nx (δ' := [some (.val d), some (.own (.list [d])), none]) (by simp)]
  have e1 : ([(n, d)] : Wt).map (·.2) = [d] := rfl
  rw [e1] at e
  have e2 : (([(n, d)] : Wt).all fun p => isGameF p.1 p.2) = isGameF n d := by simp
  rw [e2] at e
  cases h : isGameF n d
  · rw [h, if_neg (by decide)] at e
    rw [seq_rt e]
    rfl
  · rw [h, if_pos rfl] at e
    rw [seq_nx e]
    simp
end Pg
/-! DI2: good games, and games with something put in -/
namespace Pg
open PySem L2 DL TL
theorem fit_mono : ∀ {n m : Nat} {d : PyData}, n ≤ m → fitF n d = true → fitF m d = true ∧ isGameF m d = isGameF n d ∧ nodesF m d = nodesF n d
  | 0, _, _, _, h => by cases h
  | n + 1, m + 1, d, hm, h => by
    simp only [fitF, Bool.and_eq_true, Bool.or_eq_true, Bool.not_eq_true'] at h ⊢
    cases hp : isPlaceB d
    · exact ⟨⟨h.1, .inl rfl⟩, by simp [isGameF, hp], by simp [nodesF, hp]⟩
    · have hall : ∀ x ∈ partsB d, fitF n x = true := by
        rcases h.2 with h | h
        · rw [hp] at h; cases h
        · exact List.all_eq_true.mp h
      have ih : ∀ x ∈ partsB d, fitF m x = true ∧ isGameF m x = isGameF n x ∧ nodesF m x = nodesF n x := fun x hx => fit_mono (by omega) (hall x hx)
      refine ⟨⟨h.1, .inr (List.all_eq_true.mpr fun x hx => (ih x hx).1)⟩, ?_, ?_⟩
      · simp only [isGameF, hp, Bool.true_and]
        rw [Bool.eq_iff_iff, List.all_eq_true, List.all_eq_true]
        exact ⟨fun q x hx => by rw [← (ih x hx).2.1]; exact q x hx, fun q x hx => by rw [(ih x hx).2.1]; exact q x hx⟩
      · simp only [nodesF, hp, if_true]
        rw [List.map_congr_left fun x hx => (ih x hx).2.2]
/-- what is told of a thing -/
structure Thg (n : Nat) (b : Bool) (c k : Nat) (d : PyData) : Prop where
  fit : fitF n d = true
  is : isGameF n d = b
  few : nodesF n d ≤ c
theorem Thg.mono {n m c c' k k' : Nat} {b : Bool} {d : PyData} (h : Thg n b c k d) (hn : n ≤ m) (hc : c ≤ c') (hk : k ≤ k') : Thg m b c' k' d := by
  obtain ⟨e1, e2, e3⟩ := fit_mono hn h.fit
  exact ⟨e1, e2.trans h.is, by rw [e3]; exact Nat.le_trans h.few hc⟩
theorem Thg.game {n c k : Nat} {b : Bool} {d : PyData} (h : Thg n b c k d) (hc : c ≤ 9990) : d_is_game [.val d] = .ok (.val (.bool b)) := by
  rw [game_any h.fit (Nat.le_trans h.few hc), h.is]
/-- a branching place by its head and its rows -/
abbrev Rw := List (PyData × PyData)
def rwD (h : List PyData) (rs : Rw) : PyData := .tuple (h ++ [.tuple (rs.map fun r => .tuple [r.1, r.2])])
inductive Hd : List PyData → Rw → Prop
  | deal (nm : Str) (rs : Rw) : PyData.strOk nm = true → isNameB (.str nm) = true → 1 ≤ rs.length → rs.length ≤ 64 → (∀ r ∈ rs, ratioB r.1 = true ∧ r.1.canLay0 = true ∧ r.1.depth ≤ 2) → Hd [.str "deal", .str nm] rs
  | move (s : Int) (nm : Str) (rs : Rw) (ws : List Str) : (s = 1 ∨ s = 2) → PyData.strOk nm = true → isNameB (.str nm) = true → 1 ≤ rs.length → rs.length ≤ 6 → rs.map (·.1) = ws.map PyData.str → (∀ w ∈ ws, isNameB (.str w) = true ∧ PyData.strOk w = true) → ws.Nodup → Hd [.str "move", .int s, .str nm] rs
theorem rowsOf_map (rs : Rw) : rowsOf (.tuple (rs.map fun r => .tuple [r.1, r.2])) = rs := by
  rw [rowsOf, List.filterMap_map]
  have : (pairO ∘ fun r : PyData × PyData => PyData.tuple [r.1, r.2]) = some := by funext r; rfl
  rw [this, List.filterMap_some]
theorem labelsOf_map (rs : Rw) : labelsOf (.tuple (rs.map fun r => .tuple [r.1, r.2])) = rs.map (·.1) := by rw [labelsOf, rowsOf_map]
theorem pairsB_map {rs : Rw} {k : Nat} (h1 : 1 ≤ rs.length) (h2 : rs.length ≤ k) : pairsB (.tuple (rs.map fun r => .tuple [r.1, r.2])) k = true := by
  simp only [pairsB, List.length_map, Bool.and_eq_true, decide_eq_true_eq]
  refine ⟨⟨h1, h2⟩, List.all_eq_true.mpr fun x hx => ?_⟩
  obtain ⟨r, _, rfl⟩ := List.mem_map.mp hx
  rfl
theorem short_of_name {d : PyData} (h : isNameB d = true) : shortB d = true := by
  cases d with
  | str z =>
    simp only [isNameB, Bool.and_eq_true, decide_eq_true_eq] at h
    exact decide_eq_true (by omega)
  | _ => rfl
theorem short_of_ratio {d : PyData} (h : ratioB d = true) : shortB d = true := by
  cases d <;> first | rfl | cases h
theorem filterText (ws : List Str) : (ws.map PyData.str).filterMap textO = ws := by
  rw [List.filterMap_map]
  have : (textO ∘ PyData.str) = some := by funext r; rfl
  rw [this, List.filterMap_some]
theorem Hd.place {h : List PyData} {rs : Rw} (q : Hd h rs) : isPlaceB (rwD h rs) = true ∧ okPB (rwD h rs) = true ∧ partsB (rwD h rs) = rs.map (·.2) := by
  cases q with
  | deal nm _ ho hn h1 h2 hr =>
    have hal : (rs.map (·.1)).all ratioB = true := List.all_eq_true.mpr fun x hx => by
      obtain ⟨r, hr', rfl⟩ := List.mem_map.mp hx
      exact (hr r hr').1
    refine ⟨?_, ?_, ?_⟩
    · simp only [rwD, List.cons_append, List.nil_append, isPlaceB, b_de, b_dd, hn, pairsB_map h1 h2, labelsOf_map, hal]
      rfl
    · have hsh : (rs.map (·.1)).all shortB = true := List.all_eq_true.mpr fun x hx => short_of_ratio (List.all_eq_true.mp hal x hx)
      simp only [rwD, List.cons_append, List.nil_append, okPB, ok_deal, List.all_cons, List.all_nil, labelsOf_map, hsh, short_of_name hn]
      rfl
    · show (rowsOf _).map (·.2) = _
      rw [rowsOf_map]
  | move s nm _ ws hs ho hn h1 h2 hw hall hnd =>
    have hal : (ws.map PyData.str).all isNameB = true := List.all_eq_true.mpr fun x hx => by
      obtain ⟨w, hw', rfl⟩ := List.mem_map.mp hx
      exact (hall w hw').1
    have hs' : sideB (.int s) = true := decide_eq_true hs
    refine ⟨?_, ?_, ?_⟩
    · have hwd : wordsOf (.tuple (rs.map fun r => .tuple [r.1, r.2])) = ws := by rw [wordsOf, labelsOf_map, hw, filterText]
      simp only [rwD, List.cons_append, List.nil_append, isPlaceB, b_me, b_md, b_mm, hs', hn, pairsB_map h1 h2, labelsOf_map, hw, hal, hwd, decide_eq_true hnd]
      rfl
    · have hsh : (ws.map PyData.str).all shortB = true := List.all_eq_true.mpr fun x hx => short_of_name (List.all_eq_true.mp hal x hx)
      simp only [rwD, List.cons_append, List.nil_append, okPB, ok_move, List.all_cons, List.all_nil, labelsOf_map, hw, hsh, short_of_name hn]
      rfl
    · show (rowsOf _).map (·.2) = _
      rw [rowsOf_map]
theorem Hd.same {h : List PyData} {rs rs' : Rw} (q : Hd h rs) (e : rs'.map (·.1) = rs.map (·.1)) : Hd h rs' := by
  have hl : rs'.length = rs.length := by rw [← List.length_map (f := (·.1)), e, List.length_map]
  cases q with
  | deal nm _ ho hn h1 h2 hr =>
    refine .deal nm rs' ho hn (by omega) (by omega) fun r hr' => ?_
    have : r.1 ∈ rs.map (·.1) := by rw [← e]; exact List.mem_map.mpr ⟨r, hr', rfl⟩
    obtain ⟨r2, h2, e2⟩ := List.mem_map.mp this
    rw [← e2]
    exact hr r2 h2
  | move s nm _ ws hs ho hn h1 h2 hw hall hnd => exact .move s nm rs' ws hs ho hn (by omega) (by omega) (e.trans hw) hall hnd
theorem Hd.labels {h : List PyData} {rs : Rw} (q : Hd h rs) : ∀ r ∈ rs, r.1.canLay0 = true ∧ r.1.depth ≤ 2 := by
  cases q with
  | deal nm _ ho hn h1 h2 hr => exact fun r hr' => (hr r hr').2
  | move s nm _ ws hs ho hn h1 h2 hw hall hnd =>
    intro r hr
    have : r.1 ∈ ws.map PyData.str := by rw [← hw]; exact List.mem_map.mpr ⟨r, hr, rfl⟩
    obtain ⟨w, hw', e⟩ := List.mem_map.mp this
    rw [← e]
    exact ⟨by simpa [PyData.canLay0] using (hall w hw').2, by simp [PyData.depth]⟩
theorem sum_map_le {α : Type} {f : α → Nat} {c : Nat} : ∀ {xs : List α}, (∀ x ∈ xs, f x ≤ c) → (xs.map f).sum ≤ xs.length * c
  | [], _ => by simp
  | x :: xs, h => by
    have := sum_map_le (xs := xs) fun y hy => h y (List.mem_cons_of_mem _ hy)
    have := h x List.mem_cons_self
    simp only [List.map_cons, List.sum_cons, List.length_cons, Nat.succ_mul]
    omega
/-- a branching place, what stands behind it being told -/
theorem thg_rows {h : List PyData} {rs : Rw} (q : Hd h rs) {n k c : Nat} {b : Bool} (hk : 2 ≤ k) (hp : ∀ r ∈ rs, fitF n r.2 = true) (hb : (rs.all fun r => isGameF n r.2) = b) (hc : (rs.map fun r => nodesF n r.2).sum ≤ c) : Thg (n + 1) b (c + 1) (k + 5) (rwD h rs) := by
  obtain ⟨e1, e2, e3⟩ := q.place
  refine ⟨?_, ?_, ?_⟩
  · simp only [fitF, e1, e2, e3, Bool.true_and, Bool.not_true, Bool.false_or]
    refine List.all_eq_true.mpr fun x hx => ?_
    obtain ⟨r, hr, rfl⟩ := List.mem_map.mp hx
    exact hp r hr
  · simp only [isGameF, e1, e3, Bool.true_and, List.all_map]
    exact hb
  · simp only [nodesF, e1, e3, if_true, List.map_map]
    have : (rs.map (nodesF n ∘ fun r => r.2)).sum ≤ c := hc
    omega
end Pg
namespace Gk06
open PySem L2 DL
/-! ### the text by places -/
def top (i : Nat) : Stmt := PySem.Challenge.pw_hushduel_k06_what_is_a_game.main.body.getD i (.Pass ⟨0, 0, 0, 0⟩)
abbrev s_is_whole : Stmt := top 1
abbrev N_is_whole : List Str := ["thing"]
abbrev P_is_whole : List Str := ["thing"]
theorem sc_is_whole : FnScope N_is_whole P_is_whole (defScope s_is_whole) := ⟨rfl, rfl, rfl, by decide +kernel, rfl, by decide +kernel, by decide +kernel⟩
abbrev s_divisor : Stmt := top 2
abbrev N_divisor : List Str := ["first", "second", "rest"]
abbrev P_divisor : List Str := ["first", "second"]
theorem sc_divisor : FnScope N_divisor P_divisor (defScope s_divisor) := ⟨rfl, rfl, rfl, by decide +kernel, rfl, by decide +kernel, by decide +kernel⟩
abbrev s_is_ratio : Stmt := top 3
abbrev N_is_ratio : List Str := ["thing"]
abbrev P_is_ratio : List Str := ["thing"]
theorem sc_is_ratio : FnScope N_is_ratio P_is_ratio (defScope s_is_ratio) := ⟨rfl, rfl, rfl, by decide +kernel, rfl, by decide +kernel, by decide +kernel⟩
abbrev s_is_name : Stmt := top 9
abbrev N_is_name : List Str := ["thing", "sign"]
abbrev P_is_name : List Str := ["thing"]
theorem sc_is_name : FnScope N_is_name P_is_name (defScope s_is_name) := ⟨rfl, rfl, rfl, by decide +kernel, rfl, by decide +kernel, by decide +kernel⟩
abbrev s_are_pairs : Stmt := top 10
abbrev N_are_pairs : List Str := ["thing", "most", "pair"]
abbrev P_are_pairs : List Str := ["thing", "most"]
theorem sc_are_pairs : FnScope N_are_pairs P_are_pairs (defScope s_are_pairs) := ⟨rfl, rfl, rfl, by decide +kernel, rfl, by decide +kernel, by decide +kernel⟩
abbrev s_is_place : Stmt := top 11
abbrev N_is_place : List Str := ["thing", "words", "share", "part", "word"]
abbrev P_is_place : List Str := ["thing"]
theorem sc_is_place : FnScope N_is_place P_is_place (defScope s_is_place) := ⟨rfl, rfl, rfl, by decide +kernel, rfl, by decide +kernel, by decide +kernel⟩
abbrev s_parts_of : Stmt := top 12
abbrev N_parts_of : List Str := ["game", "label", "part"]
abbrev P_parts_of : List Str := ["game"]
theorem sc_parts_of : FnScope N_parts_of P_parts_of (defScope s_parts_of) := ⟨rfl, rfl, rfl, by decide +kernel, rfl, by decide +kernel, by decide +kernel⟩
abbrev s_is_game : Stmt := top 13
abbrev N_is_game : List Str := ["thing", "waiting", "place"]
abbrev P_is_game : List Str := ["thing"]
theorem sc_is_game : FnScope N_is_game P_is_game (defScope s_is_game) := ⟨rfl, rfl, rfl, by decide +kernel, rfl, by decide +kernel, by decide +kernel⟩
abbrev s__law_cell_at : Stmt := top 15
abbrev N__law_cell_at : List Str := ["_law_script", "_law_k"]
abbrev P__law_cell_at : List Str := ["_law_script", "_law_k"]
theorem sc__law_cell_at : FnScope N__law_cell_at P__law_cell_at (defScope s__law_cell_at) := ⟨rfl, rfl, rfl, by decide +kernel, rfl, by decide +kernel, by decide +kernel⟩
abbrev s__law_numbers : Stmt := top 16
abbrev N__law_numbers : List Str := ["_law_script", "_law_found", "_law_k"]
abbrev P__law_numbers : List Str := ["_law_script"]
theorem sc__law_numbers : FnScope N__law_numbers P__law_numbers (defScope s__law_numbers) := ⟨rfl, rfl, rfl, by decide +kernel, rfl, by decide +kernel, by decide +kernel⟩
abbrev s__law_name : Stmt := top 17
abbrev N__law_name : List Str := ["_law_x", "_law_signs", "_law_j"]
abbrev P__law_name : List Str := ["_law_x"]
theorem sc__law_name : FnScope N__law_name P__law_name (defScope s__law_name) := ⟨rfl, rfl, rfl, by decide +kernel, rfl, by decide +kernel, by decide +kernel⟩
abbrev s__law_ratio : Stmt := top 18
abbrev N__law_ratio : List Str := ["_law_x"]
abbrev P__law_ratio : List Str := ["_law_x"]
theorem sc__law_ratio : FnScope N__law_ratio P__law_ratio (defScope s__law_ratio) := ⟨rfl, rfl, rfl, by decide +kernel, rfl, by decide +kernel, by decide +kernel⟩
abbrev s__law_words : Stmt := top 19
abbrev N__law_words : List Str := ["_law_x", "_law_many", "_law_words_here", "_law_k", "_law_word"]
abbrev P__law_words : List Str := ["_law_x", "_law_many"]
theorem sc__law_words : FnScope N__law_words P__law_words (defScope s__law_words) := ⟨rfl, rfl, rfl, by decide +kernel, rfl, by decide +kernel, by decide +kernel⟩
abbrev s__law_grown : Stmt := top 20
abbrev N__law_grown : List Str := ["_law_xs", "_law_deep", "_law_x", "_law_shares", "_law_words_here", "_law_ways", "_law_k", "_law_share", "_law_word"]
abbrev P__law_grown : List Str := ["_law_xs", "_law_deep"]
theorem sc__law_grown : FnScope N__law_grown P__law_grown (defScope s__law_grown) := ⟨rfl, rfl, rfl, by decide +kernel, rfl, by decide +kernel, by decide +kernel⟩
abbrev s__law_spoil : Stmt := top 21
abbrev N__law_spoil : List Str := ["_law_x", "_law_end", "_law_deal", "_law_some", "_law_seven", "_law_k"]
abbrev P__law_spoil : List Str := ["_law_x"]
theorem sc__law_spoil : FnScope N__law_spoil P__law_spoil (defScope s__law_spoil) := ⟨rfl, rfl, rfl, by decide +kernel, rfl, by decide +kernel, by decide +kernel⟩
abbrev s__law_bent : Stmt := top 22
abbrev N__law_bent : List Str := ["_law_x", "_law_end", "_law_many", "_law_at", "_law_ways", "_law_odd", "_law_k"]
abbrev P__law_bent : List Str := ["_law_x"]
theorem sc__law_bent : FnScope N__law_bent P__law_bent (defScope s__law_bent) := ⟨rfl, rfl, rfl, by decide +kernel, rfl, by decide +kernel, by decide +kernel⟩
abbrev s__law_put : Stmt := top 23
abbrev N__law_put : List Str := ["_law_game", "_law_xs", "_law_part", "_law_ways", "_law_at"]
abbrev P__law_put : List Str := ["_law_game", "_law_xs", "_law_part"]
theorem sc__law_put : FnScope N__law_put P__law_put (defScope s__law_put) := ⟨rfl, rfl, rfl, by decide +kernel, rfl, by decide +kernel, by decide +kernel⟩
abbrev s__law_no_name : Stmt := top 24
abbrev N__law_no_name : List Str := ["_law_name_here", "_law_x", "_law_signs", "_law_at", "_law_some", "_law_sign"]
abbrev P__law_no_name : List Str := ["_law_name_here", "_law_x"]
theorem sc__law_no_name : FnScope N__law_no_name P__law_no_name (defScope s__law_no_name) := ⟨rfl, rfl, rfl, by decide +kernel, rfl, by decide +kernel, by decide +kernel⟩
abbrev s_law : Stmt := top 25
abbrev N_law : List Str := ["_law_script", "_law_numbers_here", "_law_game", "_law_xs", "_law_wrong", "_law_k", "_law_x", "_law_name_here", "_law_j"]
abbrev P_law : List Str := ["_law_script"]
theorem sc_law : FnScope N_law P_law (defScope s_law) := ⟨rfl, rfl, rfl, by decide +kernel, rfl, by decide +kernel, by decide +kernel⟩
/-! ### what each def does -/
abbrev caught : List EC := []
noncomputable def b__law_cell_at : MS := (mSeq (mIf (mTest (mB ltF (mR (mVar 1)) (mR (mBi lenF (mCons (mR (mVar 0)) mNil))))) (mRet (mB ixF (mR (mVar 0)) (mR (mVar 1)))) mNext) (mRet (mC (.int 0))))
noncomputable def d__law_cell_at : F := mDef 2 2 b__law_cell_at
noncomputable def L__law_numbers_1 : MS := (mApp 1 (mV (mB modF (mR (mB mulF (mR (mB addF (mR (mB addF (mR (mB addF (mR (mB modF (mR (mB ixF (mR (mVar 0)) (mR (mVar 2)))) (mR (mC (.int 1000000007))))) (mR (mB mulF (mR (mB mulF (mR (mC (.int 31))) (mR (mVar 2)))) (mR (mVar 2)))))) (mR (mB mulF (mR (mC (.int 7))) (mR (mVar 2)))))) (mR (mC (.int 1))))) (mR (mC (.int 48271))))) (mR (mC (.int 1000003))))))
noncomputable def b__law_numbers : MS := (mSeq (mAsg 1 (mLst mNil)) (mSeq (mFor (mgN 2) (mRng1 (mCons (mV (mBi lenF (mCons (mR (mSl (mR (mVar 0)) mO0 (mO (mR (mC (.int 40)))))) mNil))) mNil)) L__law_numbers_1) (mRetN 1)))
noncomputable def d__law_numbers : F := mDef 3 1 b__law_numbers
noncomputable def b__law_name : MS := (mSeq (mAsg 1 (mC (.str "abcdefghijklmnopqrstuvwxyz0123456789"))) (mRet (mM1 joinF (mR (mC (.str ""))) (mR (mComp [2] (mgN 2) (mRng1 (mCons (mV (mB addF (mR (mC (.int 1))) (mR (mB modF (mR (mVar 0)) (mR (mC (.int 8))))))) mNil)) mYes (mV (mB ixF (mR (mVar 1)) (mR (mB modF (mR (mB addF (mR (mB divF (mR (mVar 0)) (mR (mB addF (mR (mVar 2)) (mR (mC (.int 1))))))) (mR (mB mulF (mR (mB mulF (mR (mVar 2)) (mR (mVar 2)))) (mR (mC (.int 5))))))) (mR (mC (.int 36))))))))))))
noncomputable def d__law_name : F := mDef 3 1 b__law_name
noncomputable def b__law_ratio : MS := (mSeq (mIf (mTest (mB eqF (mR (mB modF (mR (mVar 0)) (mR (mC (.int 4))))) (mR (mC (.int 3))))) (mRet (mTup (mCons (mV (mB subF (mR (mB subF (mR (mC (.int 0))) (mR (mB powF (mR (mC (.int 10))) (mR (mC (.int 24))))))) (mR (mVar 0)))) (mCons (mV (mC (.int 1))) mNil)))) mNext) (mSeq (mIf (mTest (mB eqF (mR (mB modF (mR (mVar 0)) (mR (mC (.int 4))))) (mR (mC (.int 2))))) (mRet (mTup (mCons (mV (mB subF (mR (mB mulF (mR (mC (.int 2))) (mR (mB modF (mR (mB divF (mR (mVar 0)) (mR (mC (.int 4))))) (mR (mC (.int 20))))))) (mR (mC (.int 19))))) (mCons (mV (mC (.int 2))) mNil)))) mNext) (mRet (mTup (mCons (mV (mB subF (mR (mB modF (mR (mB divF (mR (mVar 0)) (mR (mC (.int 4))))) (mR (mC (.int 17))))) (mR (mC (.int 8))))) (mCons (mV (mC (.int 1))) mNil))))))
noncomputable def d__law_ratio : F := mDef 1 1 b__law_ratio
noncomputable def L__law_words_1 : MS := (mSeq (mAsg 4 (mCall d__law_name (mACons (mB addF (mR (mB divF (mR (mVar 0)) (mR (mB addF (mR (mVar 3)) (mR (mC (.int 1))))))) (mR (mB mulF (mR (mC (.int 11))) (mR (mVar 3))))) mANil))) (mSeq (mIf (mTest (mB (inF false) (mR (mVar 4)) (mR (mVar 2)))) (mAsg 4 (mB addF (mR (mC (.str "w"))) (mR (mBi strF (mCons (mR (mVar 3)) mNil))))) mNext) (mIf (mTest (mB (inF true) (mR (mVar 4)) (mR (mVar 2)))) (mFrz 4 (mApp 2 (mV (mVar 4)))) mNext)))
noncomputable def b__law_words : MS := (mSeq (mAsg 2 (mLst mNil)) (mSeq (mFor (mgN 3) (mRng1 (mCons (mV (mVar 1)) mNil)) L__law_words_1) (mRetN 2)))
noncomputable def d__law_words : F := mDef 5 2 b__law_words
noncomputable def b__law_grown (rc : FM) : MS := (mSeq (mAsg 2 (mC (.int 0))) (mSeq (mIf (mTest (mB gtF (mR (mBi lenF (mCons (mR (mVar 0)) mNil))) (mR (mC (.int 0))))) (mPopG 0 (mgN 2)) mNext) (mSeq (mIf (mOr (mTest (mB eqF (mR (mVar 1)) (mR (mC (.int 0))))) (mOr (mTest (mB eqF (mR (mBi lenF (mCons (mR (mVar 0)) mNil))) (mR (mC (.int 0))))) (mTest (mB eqF (mR (mB modF (mR (mVar 2)) (mR (mC (.int 6))))) (mR (mC (.int 0))))))) (mRet (mTup (mCons (mV (mC (.str "end"))) (mCons (mV (mCall d__law_ratio (mACons (mB divF (mR (mVar 2)) (mR (mC (.int 6)))) mANil))) mNil)))) mNext) (mSeq (mIf (mTest (mB ltF (mR (mB modF (mR (mVar 2)) (mR (mC (.int 6))))) (mR (mC (.int 3))))) (mSeq (mIf (mAnd (mTest (mB eqF (mR (mVar 1)) (mR (mC (.int 5))))) (mTest (mB eqF (mR (mB modF (mR (mB divF (mR (mVar 2)) (mR (mC (.int 6))))) (mR (mC (.int 5))))) (mR (mC (.int 3)))))) (mFrz 2 (mRet (mTup (mCons (mV (mC (.str "deal"))) (mCons (mV (mCall d__law_name (mACons (mVar 2) mANil))) (mCons (mV (mBi tupleF (mCons (mR (mComp [6] (mgN 6) (mRng1 (mCons (mV (mC (.int 64))) mNil)) mYes (mV (mTup (mCons (mV (mTup (mCons (mV (mC (.int 1))) (mCons (mV (mC (.int 64))) mNil)))) (mCons (mV (mTup (mCons (mV (mC (.str "end"))) (mCons (mV (mTup (mCons (mV (mVar 6)) (mCons (mV (mC (.int 1))) mNil)))) mNil)))) mNil)))))) mNil))) mNil)))))) mNext) (mSeq (mAsg 3 (mComp [6] (mgN 6) (mRng1 (mCons (mV (mB addF (mR (mC (.int 1))) (mR (mB modF (mR (mB divF (mR (mVar 2)) (mR (mC (.int 6))))) (mR (mC (.int 3))))))) mNil)) mYes (mV (mCall d__law_ratio (mACons (mB divF (mR (mVar 2)) (mR (mB addF (mR (mVar 6)) (mR (mC (.int 2)))))) mANil))))) (mFrz 3 (mRetM (emTup (emCons (emP (mC (.str "deal"))) (emCons (emP (mCall d__law_name (mACons (mB divF (mR (mVar 2)) (mR (mC (.int 2)))) mANil))) (emCons (emBi tupleF (emCons (emComp [7] (mgN 7) (miV 3) (emTup (emCons (emP (mVar 7)) (emCons (emCall 0 0 rc (amLent 0 (amVal (mV (mB subF (mR (mVar 1)) (mR (mC (.int 1))))) mANil))) emNil)))) emNil)) emNil)))))))) mNext) (mSeq (mAsg 4 (mCall d__law_words (mACons (mB divF (mR (mVar 2)) (mR (mC (.int 7)))) (mACons (mB addF (mR (mB addF (mR (mC (.int 1))) (mR (mB modF (mR (mB divF (mR (mVar 2)) (mR (mC (.int 6))))) (mR (mC (.int 3))))))) (mR (mB mulF (mR (mC (.int 3))) (mR (mBi intSF (mCons (mR (mB eqF (mR (mB modF (mR (mB divF (mR (mVar 2)) (mR (mC (.int 18))))) (mR (mC (.int 5))))) (mR (mC (.int 1))))) mNil)))))) mANil)))) (mSeq (mFrz 4 (mAsgM 5 (emBi tupleF (emCons (emComp [8] (mgN 8) (miV 4) (emTup (emCons (emP (mVar 8)) (emCons (emCall 0 0 rc (amLent 0 (amVal (mV (mB subF (mR (mVar 1)) (mR (mC (.int 1))))) mANil))) emNil)))) emNil)))) (mRet (mTup (mCons (mV (mC (.str "move"))) (mCons (mV (mB addF (mR (mC (.int 1))) (mR (mB modF (mR (mB divF (mR (mVar 2)) (mR (mC (.int 3))))) (mR (mC (.int 2))))))) (mCons (mV (mCall d__law_name (mACons (mB divF (mR (mVar 2)) (mR (mC (.int 5)))) mANil))) (mCons (mV (mVar 5)) mNil))))))))))))
noncomputable def d__law_grown : Nat → FM
  | 0 => fun _ => .stuck
  | n + 1 => mDefM 9 2 0 (b__law_grown (d__law_grown n))
noncomputable def b__law_spoil : MS := (mSeq (mAsg 1 (mTup (mCons (mV (mC (.str "end"))) (mCons (mV (mTup (mCons (mV (mC (.int 1))) (mCons (mV (mC (.int 1))) mNil)))) mNil)))) (mSeq (mAsg 2 (mTup (mCons (mV (mC (.str "deal"))) (mCons (mV (mC (.str "d"))) (mCons (mV (mTup (mCons (mV (mTup (mCons (mV (mTup (mCons (mV (mC (.int 1))) (mCons (mV (mC (.int 1))) mNil)))) (mCons (mV (mVar 1)) mNil)))) mNil))) mNil))))) (mSeq (mAsg 3 (mLst (mCons (mV (mTup (mCons (mV (mC (.str "end"))) (mCons (mV (mTup (mCons (mV (mC (.int 2))) (mCons (mV (mC (.int 4))) mNil)))) mNil)))) (mCons (mV (mTup (mCons (mV (mC (.str "end"))) (mCons (mV (mTup (mCons (mV (mC (.int 1))) (mCons (mV (mC (.int 0))) mNil)))) mNil)))) (mCons (mV (mTup (mCons (mV (mC (.str "end"))) (mCons (mV (mLst (mCons (mV (mC (.int 1))) (mCons (mV (mC (.int 1))) mNil)))) mNil)))) (mCons (mV (mTup (mCons (mV (mC (.str "end"))) (mCons (mV (mC (.int 1))) mNil)))) (mCons (mV (mTup (mCons (mV (mC (.str "end"))) mNil))) (mCons (mV (mLst (mCons (mV (mC (.str "end"))) (mCons (mV (mTup (mCons (mV (mC (.int 1))) (mCons (mV (mC (.int 1))) mNil)))) mNil)))) (mCons (mV (mTup (mCons (mV (mC (.str "fin"))) (mCons (mV (mTup (mCons (mV (mC (.int 1))) (mCons (mV (mC (.int 1))) mNil)))) mNil)))) mNil))))))))) (mSeq (mAsg 3 (mB addF (mR (mVar 3)) (mR (mLst (mCons (mV (mTup (mCons (mV (mC (.str "deal"))) (mCons (mV (mC (.str "d"))) (mCons (mV (mTup mNil)) mNil))))) (mCons (mV (mTup (mCons (mV (mC (.str "deal"))) (mCons (mV (mC (.str "D"))) (mCons (mV (mB ixF (mR (mVar 2)) (mR (mC (.int 2))))) mNil))))) (mCons (mV (mTup (mCons (mV (mC (.str "deal"))) (mCons (mV (mC (.str "d"))) (mCons (mV (mLst (mCons (mV (mTup (mCons (mV (mTup (mCons (mV (mC (.int 1))) (mCons (mV (mC (.int 1))) mNil)))) (mCons (mV (mVar 1)) mNil)))) mNil))) mNil))))) mNil))))))) (mSeq (mAsg 3 (mB addF (mR (mVar 3)) (mR (mLst (mCons (mV (mTup (mCons (mV (mC (.str "deal"))) (mCons (mV (mC (.str "d"))) (mCons (mV (mTup (mCons (mV (mTup (mCons (mV (mC (.int 1))) (mCons (mV (mVar 1)) mNil)))) mNil))) mNil))))) (mCons (mV (mTup (mCons (mV (mC (.str "end"))) (mCons (mV (mTup (mCons (mV (mC (.int 1))) (mCons (mV (mC (.int 1))) mNil)))) (mCons (mV (mC (.int 1))) mNil))))) (mCons (mV (mB addF (mR (mVar 2)) (mR (mTup (mCons (mV (mC (.int 1))) mNil))))) (mCons (mV (mTup (mCons (mV (mC (.str "deal"))) (mCons (mV (mC (.str "d"))) (mCons (mV (mTup (mCons (mV (mLst (mCons (mV (mTup (mCons (mV (mC (.int 1))) (mCons (mV (mC (.int 1))) mNil)))) (mCons (mV (mVar 1)) mNil)))) mNil))) mNil))))) mNil)))))))) (mSeq (mAsg 3 (mB addF (mR (mVar 3)) (mR (mLst (mCons (mV (mTup (mCons (mV (mC (.str "deal"))) (mCons (mV (mC (.str "d"))) (mCons (mV (mTup (mCons (mV (mTup (mCons (mV (mTup (mCons (mV (mC (.int 1))) (mCons (mV (mC (.int 1))) mNil)))) (mCons (mV (mVar 1)) (mCons (mV (mVar 1)) mNil))))) mNil))) mNil))))) (mCons (mV (mTup (mCons (mV (mC (.str "deal"))) (mCons (mV (mC (.str "d"))) (mCons (mV (mBi tupleF (mCons (mR (mRep (mLst (mCons (mV (mTup (mCons (mV (mTup (mCons (mV (mC (.int 1))) (mCons (mV (mC (.int 65))) mNil)))) (mCons (mV (mVar 1)) mNil)))) mNil)) (mR (mC (.int 65))))) mNil))) mNil))))) (mCons (mV (mTup (mCons (mV (mC (.str "deal"))) (mCons (mV (mC (.str "d"))) mNil)))) mNil))))))) (mSeq (mAsg 3 (mB addF (mR (mVar 3)) (mR (mLst (mCons (mV (mTup (mCons (mV (mC (.str "move"))) (mCons (mV (mC (.int 3))) (mCons (mV (mC (.str "s"))) (mCons (mV (mTup (mCons (mV (mTup (mCons (mV (mC (.str "a"))) (mCons (mV (mVar 1)) mNil)))) mNil))) mNil)))))) (mCons (mV (mTup (mCons (mV (mC (.str "move"))) (mCons (mV (mC (.bool true))) (mCons (mV (mC (.str "s"))) (mCons (mV (mTup (mCons (mV (mTup (mCons (mV (mC (.str "a"))) (mCons (mV (mVar 1)) mNil)))) mNil))) mNil)))))) (mCons (mV (mC .none)) (mCons (mV (mC (.str "end 1"))) mNil)))))))) (mSeq (mAsg 4 (mBi tupleF (mCons (mR (mComp [5] (mgN 5) (mRng1 (mCons (mV (mC (.int 7))) mNil)) mYes (mV (mTup (mCons (mV (mB addF (mR (mC (.str "a"))) (mR (mBi strF (mCons (mR (mVar 5)) mNil))))) (mCons (mV (mVar 1)) mNil)))))) mNil))) (mSeq (mAsg 3 (mB addF (mR (mVar 3)) (mR (mLst (mCons (mV (mTup (mCons (mV (mC (.str "move"))) (mCons (mV (mC (.int 1))) (mCons (mV (mC (.str "s"))) (mCons (mV (mTup (mCons (mV (mTup (mCons (mV (mC (.str "a"))) (mCons (mV (mVar 1)) mNil)))) (mCons (mV (mTup (mCons (mV (mC (.str "a"))) (mCons (mV (mVar 1)) mNil)))) mNil)))) mNil)))))) (mCons (mV (mTup (mCons (mV (mC (.str "move"))) (mCons (mV (mC (.int 1))) (mCons (mV (mC (.str "s"))) (mCons (mV (mVar 4)) mNil)))))) mNil)))))) (mSeq (mAsg 3 (mB addF (mR (mVar 3)) (mR (mLst (mCons (mV (mTup (mCons (mV (mC (.str "move"))) (mCons (mV (mC (.int 1))) (mCons (mV (mC (.str "abcdefghi"))) (mCons (mV (mTup (mCons (mV (mTup (mCons (mV (mC (.str "a"))) (mCons (mV (mVar 1)) mNil)))) mNil))) mNil)))))) (mCons (mV (mTup (mCons (mV (mC (.str "move"))) (mCons (mV (mC (.int 2))) (mCons (mV (mC (.str "s"))) (mCons (mV (mTup (mCons (mV (mTup (mCons (mV (mC (.str ""))) (mCons (mV (mVar 1)) mNil)))) mNil))) mNil)))))) (mCons (mV (mTup (mCons (mV (mC (.str "move"))) (mCons (mV (mC (.int 2))) (mCons (mV (mC (.str "s"))) (mCons (mV (mTup mNil)) mNil)))))) mNil))))))) (mSeq (mAsg 3 (mB addF (mR (mVar 3)) (mR (mLst (mCons (mV (mTup (mCons (mV (mC (.str "move"))) (mCons (mV (mC (.int 1))) (mCons (mV (mC (.str "s"))) (mCons (mV (mTup (mCons (mV (mTup (mCons (mV (mC (.str "a"))) (mCons (mV (mVar 1)) mNil)))) mNil))) (mCons (mV (mC (.int 1))) mNil))))))) (mCons (mV (mTup (mCons (mV (mC (.str "move"))) (mCons (mV (mC (.int 1))) (mCons (mV (mC (.str "s"))) (mCons (mV (mLst (mCons (mV (mTup (mCons (mV (mC (.str "a"))) (mCons (mV (mVar 1)) mNil)))) mNil))) mNil)))))) (mCons (mV (mTup (mCons (mV (mC (.str "move"))) (mCons (mV (mC (.int 1))) (mCons (mV (mC .none)) (mCons (mV (mTup (mCons (mV (mTup (mCons (mV (mC (.str "a"))) (mCons (mV (mVar 1)) mNil)))) mNil))) mNil)))))) mNil))))))) (mSeq (mAsg 3 (mB addF (mR (mVar 3)) (mR (mLst (mCons (mV (mTup (mCons (mV (mC (.str "move"))) (mCons (mV (mC (.int 1))) (mCons (mV (mC (.str "s"))) (mCons (mV (mTup (mCons (mV (mTup (mCons (mV (mC (.int 5))) (mCons (mV (mVar 1)) mNil)))) mNil))) mNil)))))) (mCons (mV (mTup (mCons (mV (mC (.str "move"))) (mCons (mV (mC (.str "1"))) (mCons (mV (mC (.str "s"))) (mCons (mV (mTup (mCons (mV (mTup (mCons (mV (mC (.str "a"))) (mCons (mV (mVar 1)) mNil)))) mNil))) mNil)))))) (mCons (mV (mTup (mCons (mV (mC (.str "move"))) (mCons (mV (mC (.int 1))) (mCons (mV (mC (.str "s"))) (mCons (mV (mTup (mCons (mV (mLst (mCons (mV (mC (.str "a"))) (mCons (mV (mVar 1)) mNil)))) mNil))) mNil)))))) mNil))))))) (mSeq (mAsg 3 (mB addF (mR (mVar 3)) (mR (mLst (mCons (mV (mTup (mCons (mV (mC (.str "deal"))) (mCons (mV (mC (.str "d"))) (mCons (mV (mTup (mCons (mV (mTup (mCons (mV (mTup (mCons (mV (mC (.int 2))) (mCons (mV (mC (.int 4))) mNil)))) (mCons (mV (mVar 1)) mNil)))) mNil))) mNil))))) (mCons (mV (mTup (mCons (mV (mC (.str "deal"))) (mCons (mV (mC (.str "d"))) (mCons (mV (mTup (mCons (mV (mTup (mCons (mV (mTup (mCons (mV (mC (.int 1))) (mCons (mV (mC (.int 0))) mNil)))) (mCons (mV (mVar 1)) mNil)))) mNil))) mNil))))) mNil)))))) (mSeq (mApp 3 (mV (mTup (mCons (mV (mC (.str "move"))) (mCons (mV (mC (.int 1))) (mCons (mV (mC (.str "s"))) (mCons (mV (mTup (mCons (mV (mTup (mCons (mV (mC (.str "a"))) (mCons (mV (mVar 1)) mNil)))) (mCons (mV (mTup (mCons (mV (mC (.str "b"))) (mCons (mV (mVar 1)) mNil)))) (mCons (mV (mTup (mCons (mV (mC (.str "a"))) (mCons (mV (mVar 1)) mNil)))) mNil))))) mNil))))))) (mRet (mB ixF (mR (mB addF (mR (mVar 3)) (mR (mLst (mCons (mV (mTup (mCons (mV (mC (.str "move"))) (mCons (mV (mC (.int 0))) (mCons (mV (mC (.str "s"))) (mCons (mV (mTup (mCons (mV (mTup (mCons (mV (mC (.str "a"))) (mCons (mV (mVar 1)) mNil)))) mNil))) mNil)))))) mNil))))) (mR (mB modF (mR (mVar 0)) (mR (mC (.int 36)))))))))))))))))))))
noncomputable def d__law_spoil : F := mDef 6 1 b__law_spoil
noncomputable def b__law_bent : MS := (mSeq (mAsg 1 (mTup (mCons (mV (mC (.str "end"))) (mCons (mV (mTup (mCons (mV (mC (.int 1))) (mCons (mV (mC (.int 1))) mNil)))) mNil)))) (mSeq (mAsg 2 (mB addF (mR (mC (.int 2))) (mR (mB modF (mR (mVar 0)) (mR (mC (.int 3))))))) (mSeq (mAsg 3 (mB modF (mR (mB divF (mR (mVar 0)) (mR (mC (.int 3))))) (mR (mVar 2)))) (mSeq (mIf (mTest (mB eqF (mR (mB modF (mR (mB divF (mR (mVar 0)) (mR (mC (.int 12))))) (mR (mC (.int 2))))) (mR (mC (.int 0))))) (mSeq (mAsg 4 (mComp [6] (mgN 6) (mRng1 (mCons (mV (mVar 2)) mNil)) mYes (mV (mTup (mCons (mV (mTup (mCons (mV (mC (.int 1))) (mCons (mV (mVar 2)) mNil)))) (mCons (mV (mVar 1)) mNil)))))) (mSeq (mAsg 5 (mLst (mCons (mV (mTup (mCons (mV (mTup (mCons (mV (mC (.int 2))) (mCons (mV (mC (.int 4))) mNil)))) (mCons (mV (mVar 1)) mNil)))) (mCons (mV (mTup (mCons (mV (mTup (mCons (mV (mC (.int 1))) (mCons (mV (mC (.int 0))) mNil)))) (mCons (mV (mVar 1)) mNil)))) (mCons (mV (mTup (mCons (mV (mLst (mCons (mV (mC (.int 1))) (mCons (mV (mC (.int 2))) mNil)))) (mCons (mV (mVar 1)) mNil)))) (mCons (mV (mTup (mCons (mV (mC (.bool true))) (mCons (mV (mVar 1)) mNil)))) (mCons (mV (mTup (mCons (mV (mC (.str "a"))) (mCons (mV (mVar 1)) mNil)))) (mCons (mV (mTup (mCons (mV (mC .none)) (mCons (mV (mVar 1)) mNil)))) (mCons (mV (mTup (mCons (mV (mTup (mCons (mV (mC (.int 1))) (mCons (mV (mC (.int 2))) mNil)))) (mCons (mV (mVar 1)) (mCons (mV (mVar 1)) mNil))))) mNil))))))))) (mSeq (mAsg 5 (mB addF (mR (mVar 5)) (mR (mLst (mCons (mV (mLst (mCons (mV (mTup (mCons (mV (mC (.int 1))) (mCons (mV (mC (.int 2))) mNil)))) (mCons (mV (mVar 1)) mNil)))) (mCons (mV (mTup (mCons (mV (mTup (mCons (mV (mC (.int 1))) (mCons (mV (mC (.int 2))) mNil)))) mNil))) (mCons (mV (mC (.int 5))) (mCons (mV (mC .none)) (mCons (mV (mTup mNil)) (mCons (mV (mC (.str "ab"))) (mCons (mV (mTup (mCons (mV (mTup (mCons (mV (mC (.int 1))) (mCons (mV (mC (.int 2))) mNil)))) (mCons (mV (mC (.int 5))) mNil)))) (mCons (mV (mTup (mCons (mV (mTup (mCons (mV (mC (.int 1))) (mCons (mV (mC (.int 2))) mNil)))) (mCons (mV (mTup (mCons (mV (mC (.str "end"))) (mCons (mV (mTup (mCons (mV (mC (.int 2))) (mCons (mV (mC (.int 4))) mNil)))) mNil)))) mNil)))) mNil)))))))))))) (mSeq (mSetI 4 (mR (mVar 3)) (mV (mB ixF (mR (mB addF (mR (mVar 5)) (mR (mLst (mCons (mV (mTup (mCons (mV (mTup (mCons (mV (mTup (mCons (mV (mC (.int 1))) (mCons (mV (mC (.int 2))) mNil)))) mNil))) (mCons (mV (mVar 1)) mNil)))) mNil))))) (mR (mB modF (mR (mB divF (mR (mVar 0)) (mR (mC (.int 24))))) (mR (mC (.int 16)))))))) (mRet (mTup (mCons (mV (mC (.str "deal"))) (mCons (mV (mC (.str "d"))) (mCons (mV (mBi tupleF (mCons (mR (mVar 4)) mNil))) mNil))))))))) mNext) (mSeq (mAsg 4 (mComp [6] (mgN 6) (mRng1 (mCons (mV (mVar 2)) mNil)) mYes (mV (mTup (mCons (mV (mB ixF (mR (mC (.str "abcd"))) (mR (mVar 6)))) (mCons (mV (mVar 1)) mNil)))))) (mSeq (mAsg 5 (mLst (mCons (mV (mTup (mCons (mV (mC (.str "B"))) (mCons (mV (mVar 1)) mNil)))) (mCons (mV (mTup (mCons (mV (mC (.str ""))) (mCons (mV (mVar 1)) mNil)))) (mCons (mV (mTup (mCons (mV (mC (.str "abcdefghi"))) (mCons (mV (mVar 1)) mNil)))) (mCons (mV (mTup (mCons (mV (mC (.int 5))) (mCons (mV (mVar 1)) mNil)))) (mCons (mV (mTup (mCons (mV (mC .none)) (mCons (mV (mVar 1)) mNil)))) (mCons (mV (mTup (mCons (mV (mLst (mCons (mV (mC (.str "z"))) mNil))) (mCons (mV (mVar 1)) mNil)))) (mCons (mV (mTup (mCons (mV (mTup (mCons (mV (mC (.str "z"))) mNil))) (mCons (mV (mVar 1)) mNil)))) (mCons (mV (mTup (mCons (mV mDict0) (mCons (mV (mVar 1)) mNil)))) mNil)))))))))) (mSeq (mAsg 5 (mB addF (mR (mVar 5)) (mR (mLst (mCons (mV (mTup (mCons (mV (mC (.str "z"))) (mCons (mV (mVar 1)) (mCons (mV (mVar 1)) mNil))))) (mCons (mV (mLst (mCons (mV (mC (.str "z"))) (mCons (mV (mVar 1)) mNil)))) (mCons (mV (mTup (mCons (mV (mC (.str "z"))) mNil))) (mCons (mV (mC (.int 5))) (mCons (mV (mC .none)) (mCons (mV (mC (.str "za"))) (mCons (mV (mTup (mCons (mV (mC (.str "z"))) (mCons (mV (mTup (mCons (mV (mC (.str "end"))) (mCons (mV (mLst (mCons (mV (mC (.int 1))) (mCons (mV (mC (.int 1))) mNil)))) mNil)))) mNil)))) mNil))))))))))) (mSeq (mSetI 4 (mR (mVar 3)) (mV (mB ixF (mR (mB addF (mR (mVar 5)) (mR (mLst (mCons (mV (mTup (mCons (mV (mB ixF (mR (mC (.str "abcd"))) (mR (mB modF (mR (mB addF (mR (mVar 3)) (mR (mC (.int 1))))) (mR (mVar 2)))))) (mCons (mV (mVar 1)) mNil)))) mNil))))) (mR (mB modF (mR (mB divF (mR (mVar 0)) (mR (mC (.int 24))))) (mR (mC (.int 16)))))))) (mRet (mTup (mCons (mV (mC (.str "move"))) (mCons (mV (mB addF (mR (mC (.int 1))) (mR (mB modF (mR (mB divF (mR (mVar 0)) (mR (mC (.int 384))))) (mR (mC (.int 2))))))) (mCons (mV (mC (.str "s"))) (mCons (mV (mBi tupleF (mCons (mR (mVar 4)) mNil))) mNil))))))))))))))
noncomputable def d__law_bent : F := mDef 7 1 b__law_bent
noncomputable def b__law_put (rc : F) : MS := (mSeq (mIf (mOr (mTest (mB eqF (mR (mB ixF (mR (mVar 0)) (mR (mC (.int 0))))) (mR (mC (.str "end"))))) (mOr (mTest (mB eqF (mR (mB modF (mR (mB ixF (mR (mVar 1)) (mR (mC (.int 0))))) (mR (mC (.int 3))))) (mR (mC (.int 0))))) (mTest (mB eqF (mR (mBi lenF (mCons (mR (mVar 1)) mNil))) (mR (mC (.int 1))))))) (mRetN 2) mNext) (mSeq (mAsg 3 (mBi listF (mCons (mR (mB ixF (mR (mVar 0)) (mR (mU negF (mR (mC (.int 1))))))) mNil))) (mSeq (mAsg 4 (mB modF (mR (mB divF (mR (mB ixF (mR (mVar 1)) (mR (mC (.int 0))))) (mR (mC (.int 3))))) (mR (mBi lenF (mCons (mR (mVar 3)) mNil))))) (mSeq (mSetI 3 (mR (mVar 4)) (mV (mTup (mCons (mV (mB ixF (mR (mB ixF (mR (mVar 3)) (mR (mVar 4)))) (mR (mC (.int 0))))) (mCons (mV (mCall rc (mACons (mB ixF (mR (mB ixF (mR (mVar 3)) (mR (mVar 4)))) (mR (mC (.int 1)))) (mACons (mSl (mR (mVar 1)) (mO (mR (mC (.int 1)))) mO0) (mACons (mVar 2) mANil))))) mNil))))) (mRet (mB addF (mR (mSl (mR (mVar 0)) mO0 (mO (mR (mU negF (mR (mC (.int 1)))))))) (mR (mTup (mCons (mV (mBi tupleF (mCons (mR (mVar 3)) mNil))) mNil)))))))))
noncomputable def d__law_put : Nat → F
  | 0 => fun _ => .stuck
  | n + 1 => mDef 5 3 (b__law_put (d__law_put n))
noncomputable def b__law_no_name : MS := (mSeq (mAsg 2 (mC (.str " !#$&'()*+,-./:;<=>?@ABCDEFGHIJKLMNOPQRSTUVWXYZ[]^_`{|}~"))) (mSeq (mAsg 3 (mB modF (mR (mB divF (mR (mVar 1)) (mR (mC (.int 14))))) (mR (mBi lenF (mCons (mR (mVar 0)) mNil))))) (mSeq (mAsg 4 (mLst (mCons (mV (mC (.str ""))) (mCons (mV (mSl (mR (mB mulG (mR (mVar 0)) (mR (mC (.int 9))))) mO0 (mO (mR (mC (.int 9)))))) (mCons (mV (mC .none)) (mCons (mV (mC (.int 7))) (mCons (mV (mLst (mCons (mV (mVar 0)) mNil))) (mCons (mV (mTup (mCons (mV (mVar 0)) mNil))) (mCons (mV (mC (.bool true))) mNil))))))))) (mSeq (mAsg 5 (mB ixF (mR (mVar 2)) (mR (mB modF (mR (mB divF (mR (mVar 1)) (mR (mC (.int 112))))) (mR (mBi lenF (mCons (mR (mVar 2)) mNil))))))) (mSeq (mApp 4 (mV (mB addF (mR (mB addF (mR (mSl (mR (mVar 0)) mO0 (mO (mR (mVar 3))))) (mR (mVar 5)))) (mR (mSl (mR (mVar 0)) (mO (mR (mB addF (mR (mVar 3)) (mR (mC (.int 1)))))) mO0))))) (mRet (mB ixF (mR (mVar 4)) (mR (mBi min2F (mCons (mR (mB modF (mR (mVar 1)) (mR (mC (.int 14))))) (mCons (mR (mC (.int 7))) mNil)))))))))))
noncomputable def d__law_no_name : F := mDef 6 2 b__law_no_name
noncomputable def L_law_1 : MS := (mSeq (mFrz 1 (mAsg 6 (mB addF (mR (mCall d__law_cell_at (mACons (mVar 1) (mACons (mVar 5) mANil)))) (mR (mB mulF (mR (mC (.int 13))) (mR (mVar 5))))))) (mSeq (mFrz 6 (mAsg 7 (mCall d__law_name (mACons (mVar 6) mANil)))) (mSeq (mFrz 7 (mIf (mOr (mTest (mB (isF true) (mR (mCall Pg.d_is_name (mACons (mVar 7) mANil))) (mR (mC (.bool true))))) (mTest (mB (isF true) (mR (mCall Pg.d_is_name (mACons (mCall d__law_no_name (mACons (mVar 7) (mACons (mB divF (mR (mVar 6)) (mR (mC (.int 3)))) mANil))) mANil))) (mR (mC (.bool false)))))) (mRet (mC (.bool false))) mNext)) (mSeq (mIf (mOr (mTest (mB (isF true) (mR (mCall Pg.d_is_game (mACons (mCall d__law_spoil (mACons (mB addF (mR (mB divF (mR (mVar 6)) (mR (mC (.int 2))))) (mR (mVar 5))) mANil)) mANil))) (mR (mC (.bool false))))) (mTest (mB (isF true) (mR (mCall Pg.d_is_game (mACons (mCall d__law_bent (mACons (mB addF (mR (mB divF (mR (mVar 6)) (mR (mC (.int 5))))) (mR (mVar 5))) mANil)) mANil))) (mR (mC (.bool false)))))) (mRet (mC (.bool false))) mNext) (mSeq (mFrz 1 (mAsg 3 (mComp [8] (mgN 8) (mRng2 (mCons (mV (mC (.int 1))) (mCons (mV (mC (.int 7))) mNil))) mYes (mV (mB divF (mR (mCall d__law_cell_at (mACons (mVar 1) (mACons (mB addF (mR (mVar 5)) (mR (mVar 8))) mANil)))) (mR (mC (.int 11)))))))) (mFrz 3 (mFrz 2 (mIf (mTest (mB (isF true) (mR (mCall Pg.d_is_game (mACons (mCall (d__law_put 8) (mACons (mVar 2) (mACons (mVar 3) (mACons (mCall d__law_bent (mACons (mB divF (mR (mVar 6)) (mR (mC (.int 3)))) mANil)) mANil)))) mANil))) (mR (mC (.bool false))))) (mRet (mC (.bool false))) mNext))))))))
noncomputable def b_law : MS := (mSeq (mAsg 1 (mCall d__law_numbers (mACons (mVar 0) mANil))) (mSeq (mAsg 2 (mCallTmp (d__law_grown 6) (mBi listF (mCons (mR (mVar 1)) mNil)) (mCons (mV (mC (.int 5))) mNil))) (mSeq (mFrz 1 (mAsg 3 (mComp [5] (mgN 5) (mRng2 (mCons (mV (mC (.int 1))) (mCons (mV (mC (.int 7))) mNil))) mYes (mV (mB divF (mR (mCall d__law_cell_at (mACons (mVar 1) (mACons (mVar 5) mANil)))) (mR (mC (.int 7)))))))) (mSeq (mFrz 1 (mFrz 3 (mFrz 2 (mAsg 4 (mCall (d__law_put 8) (mACons (mVar 2) (mACons (mVar 3) (mACons (mCall d__law_spoil (mACons (mCall d__law_cell_at (mACons (mVar 1) (mACons (mC (.int 0)) mANil))) mANil)) mANil)))))))) (mSeq (mFrz 4 (mFrz 2 (mIf (mOr (mTest (mB (isF true) (mR (mCall Pg.d_is_game (mACons (mVar 2) mANil))) (mR (mC (.bool true))))) (mTest (mB (isF true) (mR (mCall Pg.d_is_game (mACons (mVar 4) mANil))) (mR (mC (.bool false)))))) (mRet (mC (.bool false))) mNext))) (mSeq (mFrz 2 (mIf (mTest (mB (isF true) (mR (mCall Pg.d_is_game (mACons (mVar 2) mANil))) (mR (mC (.bool true))))) (mRet (mC (.bool false))) mNext)) (mSeq (mFor (mgN 5) (mRng1 (mCons (mV (mC (.int 8))) mNil)) L_law_1) (mRet (mC (.bool true))))))))))
noncomputable def d_law : F := mDef 9 1 b_law
/-! ### what the top has written -/
structure Txt (K : PySem.W.Frag) (mg : Str → Option Value) (ec : EC → Addr) : Prop where
  b_abs : mg "abs" = none
  b_all : mg "all" = none
  b_bool : mg "bool" = none
  b_int : mg "int" = none
  b_isinstance : mg "isinstance" = none
  b_len : mg "len" = none
  b_list : mg "list" = none
  b_min : mg "min" = none
  b_range : mg "range" = none
  b_set : mg "set" = none
  b_str : mg "str" = none
  b_tuple : mg "tuple" = none
  m_SIGNS : ∃ u, mg "SIGNS" = some u ∧ RelV (.str "abcdefghijklmnopqrstuvwxyz0123456789") u
  m_LONGEST : ∃ u, mg "LONGEST" = some u ∧ RelV (.int 8) u
  m_MOST_BRANCHES : ∃ u, mg "MOST_BRANCHES" = some u ∧ RelV (.int 6) u
  m_MOST_WAYS : ∃ u, mg "MOST_WAYS" = some u ∧ RelV (.int 64) u
section
variable {P : Program} {w : World} {K : PySem.W.Frag} {mg : Str → Option Value} {base : Heap} {ec : EC → Addr}
set_option maxHeartbeats 4000000 in
theorem ok_is_whole (T : Txt K mg ec)  (L : Ln K mg "is_whole" s_is_whole P_is_whole) : Fd P w K mg base ec "is_whole" P_is_whole 1 Pg.d_is_whole := by
  refine fd_of (N := N_is_whole) sc_is_whole L fun cdv A outer s H E hr => ?_
  unfold Pg.b_is_whole
  exact (dss_one (ds_ret (de_and (de_isi rfl T.b_isinstance rfl T.b_int (by decide +kernel) (dr (de_var 0))) (de_one (de_not (de_isi rfl T.b_isinstance rfl T.b_bool (by decide +kernel) (dr (de_var 0))))))))
set_option maxHeartbeats 4000000 in
theorem ok_divisor (T : Txt K mg ec)  (L : Ln K mg "divisor" s_divisor P_divisor) : Fd P w K mg base ec "divisor" P_divisor 1 Pg.d_divisor := by
  refine fd_of (N := N_divisor) sc_divisor L fun cdv A outer s H E hr => ?_
  unfold Pg.b_divisor
  exact (dss_cons (ds_asg (i := 0) free0 sc_divisor.nd rfl (Or.inl rfl) (de_callB absF_ok call_abs rfl T.b_abs (by decide +kernel) (drl_cons (dr (de_var 0)) drl_nil))) (dss_cons (ds_asg (i := 1) free0 sc_divisor.nd rfl (Or.inl rfl) (de_callB absF_ok call_abs rfl T.b_abs (by decide +kernel) (drl_cons (dr (de_var 1)) drl_nil))) (dss_cons (ds_while (passes_of rfl) (dt_cmp cmpF_ok cmpF_ne op_gt (dr (de_var 1)) (dr de_int) (nomark _)) (dss_cons (ds_asg (i := 2) free0 sc_divisor.nd rfl (Or.inl rfl) (de_op modF_ok modF_ne op_modN (dr (de_var 0)) (dr (de_var 1)))) (dss_cons (ds_asg (i := 0) free0 sc_divisor.nd rfl (Or.inl rfl) (de_var 1)) (dss_one (ds_asg (i := 1) free0 sc_divisor.nd rfl (Or.inl rfl) (de_var 2)))))) (dss_one (ds_retN 0 free0)))))
set_option maxHeartbeats 4000000 in
theorem ok_is_ratio (T : Txt K mg ec) (F_divisor : Fd P w K mg base ec "divisor" P_divisor 1 Pg.d_divisor) (F_is_whole : Fd P w K mg base ec "is_whole" P_is_whole 1 Pg.d_is_whole) (L : Ln K mg "is_ratio" s_is_ratio P_is_ratio) : Fd P w K mg base ec "is_ratio" P_is_ratio 2 Pg.d_is_ratio := by
  refine fd_of (N := N_is_ratio) sc_is_ratio L fun cdv A outer s H E hr => ?_
  unfold Pg.b_is_ratio
  exact (dss_cons (ds_if (dt_w (dw_or (dt_not (dt_val (de_isi rfl T.b_isinstance rfl T.b_tuple (by decide +kernel) (dr (de_var 0))))) (dw_or1 (dt_cmp neF_ok neF_ne (op_neD hr.units) (dr (de_callB lenF_ok call_len rfl T.b_len (by decide +kernel) (drl_cons (dr (de_var 0)) drl_nil))) (dr de_int) (nomark _))))) (dss_one (ds_ret de_bl)) dss_nil) (dss_cons (ds_if (dt_w (dw_or (dt_not (dt_val (de_callF F_is_whole (hr.mono (by decide)) rfl (takes_of rfl rfl rfl rfl) (das_cons (de_ix (dr (de_var 0)) (dr de_int) (fun _ _ => rfl)) das_nil)))) (dw_or (dt_not (dt_val (de_callF F_is_whole (hr.mono (by decide)) rfl (takes_of rfl rfl rfl rfl) (das_cons (de_ix (dr (de_var 0)) (dr de_int) (fun _ _ => rfl)) das_nil)))) (dw_or1 (dt_cmp cmpF_ok cmpF_ne op_lt (dr (de_ix (dr (de_var 0)) (dr de_int) (fun _ _ => rfl))) (dr de_int) (nomark _)))))) (dss_one (ds_ret de_bl)) dss_nil) (dss_one (ds_ret (de_cmp eqF_ok eqF_ne (op_eqD hr.units) (dr (de_callF F_divisor (hr.mono (by decide)) rfl (takes_of rfl rfl rfl rfl) (das_cons (de_ix (dr (de_var 0)) (dr de_int) (fun _ _ => rfl)) (das_cons (de_ix (dr (de_var 0)) (dr de_int) (fun _ _ => rfl)) das_nil)))) (dr de_int) (nomark _))))))
set_option maxHeartbeats 4000000 in
theorem ok_is_name (T : Txt K mg ec)  (L : Ln K mg "is_name" s_is_name P_is_name) : Fd P w K mg base ec "is_name" P_is_name 1 Pg.d_is_name := by
  refine fd_of (N := N_is_name) sc_is_name L fun cdv A outer s H E hr => ?_
  unfold Pg.b_is_name
  exact (dss_cons (ds_if (dt_w (dw_or (dt_not (dt_val (de_isi rfl T.b_isinstance rfl T.b_str (by decide +kernel) (dr (de_var 0))))) (dw_or1 (dt_not (dt_chain cmpF_ok cmpF_ne cmpF_ok cmpF_ne op_le op_le (dr de_int) (dr (de_callB lenF_ok call_len rfl T.b_len (by decide +kernel) (drl_cons (dr (de_var 0)) drl_nil))) (dr (de_gl rfl T.m_LONGEST (fun _ => Rep.int _)))))))) (dss_one (ds_ret de_bl)) dss_nil) (dss_cons (ds_for (passes_of rfl) rfl (di_var 0) (dg_name (i := 1) free0 sc_is_name.nd rfl (Or.inl rfl)) (dss_one (ds_if (dt_cmp notInF_ok notInF_ne (op_notInA hr) (dr (de_var 1)) (dr (de_gl rfl T.m_SIGNS (fun _ => Rep.str _))) rfl) (dss_one (ds_ret de_bl)) dss_nil))) (dss_one (ds_ret de_bl))))
set_option maxHeartbeats 4000000 in
theorem ok_are_pairs (T : Txt K mg ec)  (L : Ln K mg "are_pairs" s_are_pairs P_are_pairs) : Fd P w K mg base ec "are_pairs" P_are_pairs 1 Pg.d_are_pairs := by
  refine fd_of (N := N_are_pairs) sc_are_pairs L fun cdv A outer s H E hr => ?_
  unfold Pg.b_are_pairs
  exact (dss_cons (ds_if (dt_w (dw_or (dt_not (dt_val (de_isi rfl T.b_isinstance rfl T.b_tuple (by decide +kernel) (dr (de_var 0))))) (dw_or1 (dt_not (dt_chain cmpF_ok cmpF_ne cmpF_ok cmpF_ne op_le op_le (dr de_int) (dr (de_callB lenF_ok call_len rfl T.b_len (by decide +kernel) (drl_cons (dr (de_var 0)) drl_nil))) (dr (de_var 1))))))) (dss_one (ds_ret de_bl)) dss_nil) (dss_cons (ds_for (passes_of rfl) rfl (di_var 0) (dg_name (i := 2) free0 sc_are_pairs.nd rfl (Or.inl rfl)) (dss_one (ds_if (dt_w (dw_or (dt_not (dt_val (de_isi rfl T.b_isinstance rfl T.b_tuple (by decide +kernel) (dr (de_var 2))))) (dw_or1 (dt_cmp neF_ok neF_ne (op_neD hr.units) (dr (de_callB lenF_ok call_len rfl T.b_len (by decide +kernel) (drl_cons (dr (de_var 2)) drl_nil))) (dr de_int) (nomark _))))) (dss_one (ds_ret de_bl)) dss_nil))) (dss_one (ds_ret de_bl))))
set_option maxHeartbeats 4000000 in
theorem ok_is_place (T : Txt K mg ec) (F_is_name : Fd P w K mg base ec "is_name" P_is_name 1 Pg.d_is_name) (F_are_pairs : Fd P w K mg base ec "are_pairs" P_are_pairs 1 Pg.d_are_pairs) (F_is_whole : Fd P w K mg base ec "is_whole" P_is_whole 1 Pg.d_is_whole) (F_is_ratio : Fd P w K mg base ec "is_ratio" P_is_ratio 2 Pg.d_is_ratio) (L : Ln K mg "is_place" s_is_place P_is_place) : Fd P w K mg base ec "is_place" P_is_place 3 Pg.d_is_place := by
  refine fd_of (N := N_is_place) sc_is_place L fun cdv A outer s H E hr => ?_
  unfold Pg.b_is_place
  exact (dss_cons (ds_if (dt_w (dw_or (dt_not (dt_val (de_isi rfl T.b_isinstance rfl T.b_tuple (by decide +kernel) (dr (de_var 0))))) (dw_or (dt_cmp cmpF_ok cmpF_ne op_lt (dr (de_callB lenF_ok call_len rfl T.b_len (by decide +kernel) (drl_cons (dr (de_var 0)) drl_nil))) (dr de_int) (nomark _)) (dw_or1 (dt_not (dt_val (de_isi rfl T.b_isinstance rfl T.b_str (by decide +kernel) (dr (de_ix (dr (de_var 0)) (dr de_int) (fun _ _ => rfl)))))))))) (dss_one (ds_ret de_bl)) dss_nil) (dss_cons (ds_if (dt_cmp eqF_ok eqF_ne (op_eqD hr.units) (dr (de_ix (dr (de_var 0)) (dr de_int) (fun _ _ => rfl))) (dr de_str) (nomark _)) (dss_one (ds_ret (de_and (de_cmp eqF_ok eqF_ne (op_eqD hr.units) (dr (de_callB lenF_ok call_len rfl T.b_len (by decide +kernel) (drl_cons (dr (de_var 0)) drl_nil))) (dr de_int) (nomark _)) (de_one (de_callF F_is_ratio (hr.mono (by decide)) rfl (takes_of rfl rfl rfl rfl) (das_cons (de_ix (dr (de_var 0)) (dr de_int) (fun _ _ => rfl)) das_nil)))))) dss_nil) (dss_cons (ds_if (dt_cmp eqF_ok eqF_ne (op_eqD hr.units) (dr (de_ix (dr (de_var 0)) (dr de_int) (fun _ _ => rfl))) (dr de_str) (nomark _)) (dss_cons (ds_if (dt_w (dw_or (dt_cmp neF_ok neF_ne (op_neD hr.units) (dr (de_callB lenF_ok call_len rfl T.b_len (by decide +kernel) (drl_cons (dr (de_var 0)) drl_nil))) (dr de_int) (nomark _)) (dw_or (dt_not (dt_val (de_callF F_is_name (hr.mono (by decide)) rfl (takes_of rfl rfl rfl rfl) (das_cons (de_ix (dr (de_var 0)) (dr de_int) (fun _ _ => rfl)) das_nil)))) (dw_or1 (dt_not (dt_val (de_callF F_are_pairs (hr.mono (by decide)) rfl (takes_of rfl rfl rfl rfl) (das_cons (de_ix (dr (de_var 0)) (dr de_int) (fun _ _ => rfl)) (das_cons (de_gl rfl T.m_MOST_WAYS (fun _ => Rep.int _)) das_nil))))))))) (dss_one (ds_ret de_bl)) dss_nil) (dss_one (ds_ret (de_callB allF_ok (cr_all rfl) rfl T.b_all (by decide +kernel) (drl_cons (dr (de_comp (own := [("share", 2), ("part", 3)]) frees0 rfl sc_is_place.nd (di_seq (dv (de_ix (dr (de_var 0)) (dr de_int) (fun _ _ => rfl)))) (blkOk_by (N := N_is_place) (sc := defScope s_is_place) (own := [("share", 2), ("part", 3)]) (by decide +kernel)) (by decide) (fun _ _ _ _ _ => (dg_tup rfl (dgs_cons (dg_name (i := 2) free0 sc_is_place.nd rfl (Or.inl rfl)) (dgs_cons (dg_name (i := 3) free0 sc_is_place.nd rfl (Or.inl rfl)) dgs_nil)))) (fun _ _ _ _ _ => dif_nil) (fun _ _ _ _ _ => (dv (de_callF F_is_ratio (hr.mono (by decide)) rfl takes0 (das_cons (de_var 2) das_nil)))))) drl_nil))))) dss_nil) (dss_cons (ds_if (dt_w (dw_or (dt_cmp neF_ok neF_ne (op_neD hr.units) (dr (de_ix (dr (de_var 0)) (dr de_int) (fun _ _ => rfl))) (dr de_str) (nomark _)) (dw_or (dt_cmp neF_ok neF_ne (op_neD hr.units) (dr (de_callB lenF_ok call_len rfl T.b_len (by decide +kernel) (drl_cons (dr (de_var 0)) drl_nil))) (dr de_int) (nomark _)) (dw_or (dt_not (dt_val (de_callF F_is_whole (hr.mono (by decide)) rfl (takes_of rfl rfl rfl rfl) (das_cons (de_ix (dr (de_var 0)) (dr de_int) (fun _ _ => rfl)) das_nil)))) (dw_or1 (dt_cmp notInF_ok notInF_ne (op_notInA hr) (dr (de_ix (dr (de_var 0)) (dr de_int) (fun _ _ => rfl))) (dr (de_tup (da_cons (dv de_int) (da_cons (dv de_int) da_nil)))) rfl)))))) (dss_one (ds_ret de_bl)) dss_nil) (dss_cons (ds_if (dt_w (dw_or (dt_not (dt_val (de_callF F_is_name (hr.mono (by decide)) rfl (takes_of rfl rfl rfl rfl) (das_cons (de_ix (dr (de_var 0)) (dr de_int) (fun _ _ => rfl)) das_nil)))) (dw_or1 (dt_not (dt_val (de_callF F_are_pairs (hr.mono (by decide)) rfl (takes_of rfl rfl rfl rfl) (das_cons (de_ix (dr (de_var 0)) (dr de_int) (fun _ _ => rfl)) (das_cons (de_gl rfl T.m_MOST_BRANCHES (fun _ => Rep.int _)) das_nil)))))))) (dss_one (ds_ret de_bl)) dss_nil) (dss_cons (ds_asgComp (i := 1) (own := [("word", 4), ("part", 3)]) frees0 free0 rfl sc_is_place.nd rfl rfl (sw_true rfl rfl rfl (by decide +kernel)) (di_seq (dv (de_ix (dr (de_var 0)) (dr de_int) (fun _ _ => rfl)))) (blkOk_by (N := N_is_place) (sc := defScope s_is_place) (own := [("word", 4), ("part", 3)]) (by decide +kernel)) (by decide) (fun _ _ _ _ _ => (dg_tup rfl (dgs_cons (dg_name (i := 4) free0 sc_is_place.nd rfl (Or.inl rfl)) (dgs_cons (dg_name (i := 3) free0 sc_is_place.nd rfl (Or.inl rfl)) dgs_nil)))) (fun _ _ _ _ _ => dif_nil) (fun _ _ _ _ _ => (dv (de_var 4)))) (dss_one (ds_frz 1 (ds_ret (de_and (de_callB allF_ok (cr_all rfl) rfl T.b_all (by decide +kernel) (drl_cons (dr (de_comp (own := [("word", 4)]) frees0 rfl sc_is_place.nd (di_var 1) (blkOk_by (N := N_is_place) (sc := defScope s_is_place) (own := [("word", 4)]) (by decide +kernel)) (by decide) (fun _ _ _ _ _ => (dg_name (i := 4) free0 sc_is_place.nd rfl (Or.inl rfl))) (fun _ _ _ _ _ => dif_nil) (fun _ _ _ _ _ => (dv (de_callF F_is_name (hr.mono (by decide)) rfl takes0 (das_cons (de_var 4) das_nil)))))) drl_nil)) (de_one (de_cmp eqF_ok eqF_ne (op_eqD hr.units) (dr (de_lenSet rfl rfl T.b_len rfl T.b_set (dr (de_var 1)))) (dr (de_callB lenF_ok call_len rfl T.b_len (by decide +kernel) (drl_cons (dr (de_var 1)) drl_nil))) (nomark _)))))))))))))
set_option maxHeartbeats 4000000 in
theorem ok_parts_of (T : Txt K mg ec)  (L : Ln K mg "parts_of" s_parts_of P_parts_of) : Fd P w K mg base ec "parts_of" P_parts_of 1 Pg.d_parts_of := by
  refine fd_of (N := N_parts_of) sc_parts_of L fun cdv A outer s H E hr => ?_
  unfold Pg.b_parts_of
  exact (dss_cons (ds_if (dt_cmp eqF_ok eqF_ne (op_eqD hr.units) (dr (de_ix (dr (de_var 0)) (dr de_int) (fun _ _ => rfl))) (dr de_str) (nomark _)) (dss_one (ds_ret (de_lst da_nil))) dss_nil) (dss_one (ds_ret (de_comp (own := [("label", 1), ("part", 2)]) frees0 rfl sc_parts_of.nd (di_seq (dv (de_ix (dr (de_var 0)) (dr (de_neg (dr de_int))) (fun _ _ => rfl)))) (blkOk_by (N := N_parts_of) (sc := defScope s_parts_of) (own := [("label", 1), ("part", 2)]) (by decide +kernel)) (by decide) (fun _ _ _ _ _ => (dg_tup rfl (dgs_cons (dg_name (i := 1) free0 sc_parts_of.nd rfl (Or.inl rfl)) (dgs_cons (dg_name (i := 2) free0 sc_parts_of.nd rfl (Or.inl rfl)) dgs_nil)))) (fun _ _ _ _ _ => dif_nil) (fun _ _ _ _ _ => (dv (de_var 2)))))))
set_option maxHeartbeats 4000000 in
theorem ok_is_game (T : Txt K mg ec) (F_parts_of : Fd P w K mg base ec "parts_of" P_parts_of 1 Pg.d_parts_of) (F_is_place : Fd P w K mg base ec "is_place" P_is_place 3 Pg.d_is_place) (L : Ln K mg "is_game" s_is_game P_is_game) : Fd P w K mg base ec "is_game" P_is_game 4 Pg.d_is_game := by
  refine fd_of (N := N_is_game) sc_is_game L fun cdv A outer s H E hr => ?_
  unfold Pg.b_is_game Pg.L_is_game_2 Pg.C_is_game_1
  exact (dss_cons (ds_asg (i := 1) free0 sc_is_game.nd rfl (Or.inl rfl) (de_lst (da_cons (dv (de_var 0)) da_nil))) (dss_cons (ds_while (passes_of rfl) (dt_cmp neG_ok neG_ne (op_neG hr) (dr (de_var 1)) (dr (de_lst da_nil)) (nomark _)) (dss_cons (ds_popG (i := 1) (dg_name (i := 2) free0 sc_is_game.nd rfl (Or.inl rfl))) (dss_cons (ds_frz 2 (ds_if (dt_not (dt_val (de_callF F_is_place (hr.mono (by decide)) rfl (takes_of rfl rfl rfl rfl) (das_cons (de_var 2) das_nil)))) (dss_one (ds_ret de_bl)) dss_nil)) (dss_one (ds_frz 2 (ds_asg (i := 1) free0 sc_is_game.nd rfl (Or.inl rfl) (de_op addF_ok addF_ne op_addD (dr (de_var 1)) (dr (de_callF F_parts_of (hr.mono (by decide)) rfl (takes_of rfl rfl rfl rfl) (das_cons (de_var 2) das_nil)))))))))) (dss_one (ds_ret de_bl))))
set_option maxHeartbeats 4000000 in
theorem ok__law_cell_at (T : Txt K mg ec)  (L : Ln K mg "_law_cell_at" s__law_cell_at P__law_cell_at) : Fd P w K mg base ec "_law_cell_at" P__law_cell_at 1 d__law_cell_at := by
  refine fd_of (N := N__law_cell_at) sc__law_cell_at L fun cdv A outer s H E hr => ?_
  unfold b__law_cell_at
  exact (dss_cons (ds_if (dt_cmp cmpF_ok cmpF_ne op_lt (dr (de_var 1)) (dr (de_callB lenF_ok call_len rfl T.b_len (by decide +kernel) (drl_cons (dr (de_var 0)) drl_nil))) (nomark _)) (dss_one (ds_ret (de_ix (dr (de_var 0)) (dr (de_var 1)) (fun _ _ => rfl)))) dss_nil) (dss_one (ds_ret de_int)))
set_option maxHeartbeats 4000000 in
theorem ok__law_numbers (T : Txt K mg ec)  (L : Ln K mg "_law_numbers" s__law_numbers P__law_numbers) : Fd P w K mg base ec "_law_numbers" P__law_numbers 1 d__law_numbers := by
  refine fd_of (N := N__law_numbers) sc__law_numbers L fun cdv A outer s H E hr => ?_
  unfold b__law_numbers L__law_numbers_1
  exact (dss_cons (ds_asg (i := 1) free0 sc__law_numbers.nd rfl (Or.inl rfl) (de_lst da_nil)) (dss_cons (ds_for (passes_of rfl) rfl (di_range1 rfl T.b_range (da_cons (dv (de_callB lenF_ok call_len rfl T.b_len (by decide +kernel) (drl_cons (dr (de_sl (dr (de_var 0)) do_none (do_some (dr de_int)))) drl_nil))) da_nil)) (dg_name (i := 2) free0 sc__law_numbers.nd rfl (Or.inl rfl)) (dss_one (ds_append (i := 1) (dv (de_op modF_ok modF_ne op_modN (dr (de_op mulF_ok mulF_ne op_mulA (dr (de_op addF_ok addF_ne op_addD (dr (de_op addF_ok addF_ne op_addD (dr (de_op addF_ok addF_ne op_addD (dr (de_op modF_ok modF_ne op_modN (dr (de_ix (dr (de_var 0)) (dr (de_var 2)) (fun _ _ => rfl))) (dr de_int))) (dr (de_op mulF_ok mulF_ne op_mulA (dr (de_op mulF_ok mulF_ne op_mulA (dr de_int) (dr (de_var 2)))) (dr (de_var 2)))))) (dr (de_op mulF_ok mulF_ne op_mulA (dr de_int) (dr (de_var 2)))))) (dr de_int))) (dr de_int))) (dr de_int)))))) (dss_one (ds_retN 1 free0))))
set_option maxHeartbeats 4000000 in
theorem ok__law_name (T : Txt K mg ec)  (L : Ln K mg "_law_name" s__law_name P__law_name) : Fd P w K mg base ec "_law_name" P__law_name 1 d__law_name := by
  refine fd_of (N := N__law_name) sc__law_name L fun cdv A outer s H E hr => ?_
  unfold b__law_name
  exact (dss_cons (ds_asg (i := 1) free0 sc__law_name.nd rfl (Or.inr rfl) de_str) (dss_one (ds_ret (de_join (dr de_str) (dr (de_comp (own := [("_law_j", 2)]) frees0 rfl sc__law_name.nd (di_range1 rfl T.b_range (da_cons (dv (de_op addF_ok addF_ne op_addD (dr de_int) (dr (de_op modF_ok modF_ne op_modN (dr (de_var 0)) (dr de_int))))) da_nil)) (blkOk_by (N := N__law_name) (sc := defScope s__law_name) (own := [("_law_j", 2)]) (by decide +kernel)) (by decide) (fun _ _ _ _ _ => (dg_name (i := 2) free0 sc__law_name.nd rfl (Or.inl rfl))) (fun _ _ _ _ _ => dif_nil) (fun _ _ _ _ _ => (dv (de_ix (dr (de_var 1)) (dr (de_op modF_ok modF_ne op_modN (dr (de_op addF_ok addF_ne op_addD (dr (de_op divF_ok divF_ne op_fdivA (dr (de_var 0)) (dr (de_op addF_ok addF_ne op_addD (dr (de_var 2)) (dr de_int))))) (dr (de_op mulF_ok mulF_ne op_mulA (dr (de_op mulF_ok mulF_ne op_mulA (dr (de_var 2)) (dr (de_var 2)))) (dr de_int))))) (dr de_int))) (fun _ _ => rfl))))))))))
set_option maxHeartbeats 4000000 in
theorem ok__law_ratio (T : Txt K mg ec)  (L : Ln K mg "_law_ratio" s__law_ratio P__law_ratio) : Fd P w K mg base ec "_law_ratio" P__law_ratio 1 d__law_ratio := by
  refine fd_of (N := N__law_ratio) sc__law_ratio L fun cdv A outer s H E hr => ?_
  unfold b__law_ratio
  exact (dss_cons (ds_if (dt_cmp eqF_ok eqF_ne (op_eqD hr.units) (dr (de_op modF_ok modF_ne op_modN (dr (de_var 0)) (dr de_int))) (dr de_int) (nomark _)) (dss_one (ds_ret (de_tup (da_cons (dv (de_op subF_ok subF_ne op_sub (dr (de_op subF_ok subF_ne op_sub (dr de_int) (dr (de_op powF_ok powF_ne op_pow (dr de_int) (dr de_int))))) (dr (de_var 0)))) (da_cons (dv de_int) da_nil))))) dss_nil) (dss_cons (ds_if (dt_cmp eqF_ok eqF_ne (op_eqD hr.units) (dr (de_op modF_ok modF_ne op_modN (dr (de_var 0)) (dr de_int))) (dr de_int) (nomark _)) (dss_one (ds_ret (de_tup (da_cons (dv (de_op subF_ok subF_ne op_sub (dr (de_op mulF_ok mulF_ne op_mulA (dr de_int) (dr (de_op modF_ok modF_ne op_modN (dr (de_op divF_ok divF_ne op_fdivA (dr (de_var 0)) (dr de_int))) (dr de_int))))) (dr de_int))) (da_cons (dv de_int) da_nil))))) dss_nil) (dss_one (ds_ret (de_tup (da_cons (dv (de_op subF_ok subF_ne op_sub (dr (de_op modF_ok modF_ne op_modN (dr (de_op divF_ok divF_ne op_fdivA (dr (de_var 0)) (dr de_int))) (dr de_int))) (dr de_int))) (da_cons (dv de_int) da_nil)))))))
set_option maxHeartbeats 4000000 in
theorem ok__law_words (T : Txt K mg ec) (F__law_name : Fd P w K mg base ec "_law_name" P__law_name 1 d__law_name) (L : Ln K mg "_law_words" s__law_words P__law_words) : Fd P w K mg base ec "_law_words" P__law_words 2 d__law_words := by
  refine fd_of (N := N__law_words) sc__law_words L fun cdv A outer s H E hr => ?_
  unfold b__law_words L__law_words_1
  exact (dss_cons (ds_asg (i := 2) free0 sc__law_words.nd rfl (Or.inl rfl) (de_lst da_nil)) (dss_cons (ds_for (passes_of rfl) rfl (di_range1 rfl T.b_range (da_cons (dv (de_var 1)) da_nil)) (dg_name (i := 3) free0 sc__law_words.nd rfl (Or.inl rfl)) (dss_cons (ds_asg (i := 4) free0 sc__law_words.nd rfl (Or.inl rfl) (de_callF F__law_name (hr.mono (by decide)) rfl (takes_of rfl rfl rfl rfl) (das_cons (de_op addF_ok addF_ne op_addD (dr (de_op divF_ok divF_ne op_fdivA (dr (de_var 0)) (dr (de_op addF_ok addF_ne op_addD (dr (de_var 3)) (dr de_int))))) (dr (de_op mulF_ok mulF_ne op_mulA (dr de_int) (dr (de_var 3))))) das_nil))) (dss_cons (ds_if (dt_cmp inF_ok inF_ne (op_inA hr) (dr (de_var 4)) (dr (de_var 2)) rfl) (dss_one (ds_asg (i := 4) free0 sc__law_words.nd rfl (Or.inl rfl) (de_op addF_ok addF_ne op_addD (dr de_str) (dr (de_callT strF_ok call_str_int rfl T.b_str (by decide +kernel) (drl_cons (dr (de_var 3)) drl_nil)))))) dss_nil) (dss_one (ds_if (dt_cmp notInF_ok notInF_ne (op_notInA hr) (dr (de_var 4)) (dr (de_var 2)) rfl) (dss_one (ds_frz 4 (ds_append (i := 2) (dv (de_var 4))))) dss_nil))))) (dss_one (ds_retN 2 free0))))
set_option maxHeartbeats 4000000 in
theorem ok__law_grown (T : Txt K mg ec) (F__law_name : Fd P w K mg base ec "_law_name" P__law_name 1 d__law_name) (F__law_words : Fd P w K mg base ec "_law_words" P__law_words 2 d__law_words) (F__law_ratio : Fd P w K mg base ec "_law_ratio" P__law_ratio 1 d__law_ratio) (L__law_grown : Ln K mg "_law_grown" s__law_grown P__law_grown) : ∀ n : Nat, FdM P w K mg base ec "_law_grown" P__law_grown (3 + n) 0 (d__law_grown n) := by
  intro n
  induction n with
  | zero => exact fdM_bot (N := N__law_grown) sc__law_grown L__law_grown
  | succ n ih =>
    refine fdM_of (N := N__law_grown) (k := 3 + n) sc__law_grown L__law_grown fun Lt cdv A outer s H E hr => ?_
    unfold b__law_grown
    exact (dss_cons (ds_asg (i := 2) (free1 (by decide)) sc__law_grown.nd rfl (Or.inr rfl) de_int) (dss_cons (ds_if (dt_cmp cmpF_ok cmpF_ne op_gt (dr (de_callB lenF_ok call_len rfl T.b_len (by decide +kernel) (drl_cons (dr (de_var 0)) drl_nil))) (dr de_int) (nomark _)) (dss_one (ds_popG (i := 0) (dg_name (i := 2) (free1 (by decide)) sc__law_grown.nd rfl (Or.inr rfl)))) dss_nil) (dss_cons (ds_if (dt_w (dw_or (dt_cmp eqF_ok eqF_ne (op_eqD hr.units) (dr (de_var 1)) (dr de_int) (nomark _)) (dw_or (dt_cmp eqF_ok eqF_ne (op_eqD hr.units) (dr (de_callB lenF_ok call_len rfl T.b_len (by decide +kernel) (drl_cons (dr (de_var 0)) drl_nil))) (dr de_int) (nomark _)) (dw_or1 (dt_cmp eqF_ok eqF_ne (op_eqD hr.units) (dr (de_op modF_ok modF_ne op_modN (dr (de_var 2)) (dr de_int))) (dr de_int) (nomark _)))))) (dss_one (ds_ret (de_tup (da_cons (dv de_str) (da_cons (dv (de_callF F__law_ratio (hr.mono (by omega)) rfl (takes_of rfl rfl rfl rfl) (das_cons (de_op divF_ok divF_ne op_fdivA (dr (de_var 2)) (dr de_int)) das_nil))) da_nil))))) dss_nil) (dss_cons (ds_if (dt_cmp cmpF_ok cmpF_ne op_lt (dr (de_op modF_ok modF_ne op_modN (dr (de_var 2)) (dr de_int))) (dr de_int) (nomark _)) (dss_cons (ds_if (dt_w (dw_and (dt_cmp eqF_ok eqF_ne (op_eqD hr.units) (dr (de_var 1)) (dr de_int) (nomark _)) (dw_and1 (dt_cmp eqF_ok eqF_ne (op_eqD hr.units) (dr (de_op modF_ok modF_ne op_modN (dr (de_op divF_ok divF_ne op_fdivA (dr (de_var 2)) (dr de_int))) (dr de_int))) (dr de_int) (nomark _))))) (dss_one (ds_frz 2 (ds_ret (de_tup (da_cons (dv de_str) (da_cons (dv (de_callF F__law_name (hr.mono (by omega)) rfl (takes_of rfl rfl rfl rfl) (das_cons (de_var 2) das_nil))) (da_cons (dv (de_callT tupleF_ok call_tuple_of rfl T.b_tuple (by decide +kernel) (drl_cons (dr (de_comp (own := [("_law_k", 6)]) (frees1 (by decide)) rfl sc__law_grown.nd (di_range1 rfl T.b_range (da_cons (dv de_int) da_nil)) (blkOk_by (N := N__law_grown) (sc := defScope s__law_grown) (own := [("_law_k", 6)]) (by decide +kernel)) (by decide) (fun _ _ _ _ _ => (dg_name (i := 6) (free1 (by decide)) sc__law_grown.nd rfl (Or.inl rfl))) (fun _ _ _ _ _ => dif_nil) (fun _ _ _ _ _ => (dv (de_tup (da_cons (dv (de_tup (da_cons (dv de_int) (da_cons (dv de_int) da_nil)))) (da_cons (dv (de_tup (da_cons (dv de_str) (da_cons (dv (de_tup (da_cons (dv (de_var 6)) (da_cons (dv de_int) da_nil)))) da_nil)))) da_nil))))))) drl_nil))) da_nil))))))) dss_nil) (dss_cons (ds_asgComp (i := 3) (own := [("_law_k", 6)]) (frees1 (by decide)) (free1 (by decide)) rfl sc__law_grown.nd rfl rfl (sw_true rfl rfl rfl (by decide +kernel)) (di_range1 rfl T.b_range (da_cons (dv (de_op addF_ok addF_ne op_addD (dr de_int) (dr (de_op modF_ok modF_ne op_modN (dr (de_op divF_ok divF_ne op_fdivA (dr (de_var 2)) (dr de_int))) (dr de_int))))) da_nil)) (blkOk_by (N := N__law_grown) (sc := defScope s__law_grown) (own := [("_law_k", 6)]) (by decide +kernel)) (by decide) (fun _ _ _ _ _ => (dg_name (i := 6) (free1 (by decide)) sc__law_grown.nd rfl (Or.inl rfl))) (fun _ _ _ _ _ => dif_nil) (fun _ _ _ _ _ => (dv (de_callF F__law_ratio (hr.mono (by omega)) rfl takes0 (das_cons (de_op divF_ok divF_ne op_fdivA (dr (de_var 2)) (dr (de_op addF_ok addF_ne op_addD (dr (de_var 6)) (dr de_int)))) das_nil))))) (dss_one (ds_frz 3 (ds_retM (em_tup (ea_cons (em_pure de_str) (ea_cons (em_pure (de_callF F__law_name (hr.mono (by omega)) rfl (takes_of rfl rfl rfl rfl) (das_cons (de_op divF_ok divF_ne op_fdivA (dr (de_var 2)) (dr de_int)) das_nil))) (ea_cons (em_callT tupleF_ok call_tuple_of rfl T.b_tuple (by decide +kernel) (ea_cons (em_comp (own := [("_law_share", 7)]) (frees1 (by decide)) rfl sc__law_grown.nd (di_var 3) (blkOk_by (N := N__law_grown) (sc := defScope s__law_grown) (own := [("_law_share", 7)]) (by decide +kernel)) (by decide) off_name (fun _ _ _ _ _ => (dg_name (i := 7) (free1 (by decide)) sc__law_grown.nd rfl (Or.inl rfl))) (fun _ _ _ _ _ => dif_nil) (fun _ _ _ _ _ => (em_tup (ea_cons (em_pure (de_var 7)) (ea_cons (em_call (i := 0) (ih) (hr.mono (by omega)) rfl takes0 (dam_lent (i := 0) (dam_val (dv (de_op subF_ok subF_ne op_sub (dr (de_var 1)) (dr de_int))) dam_nil))) ea_nil))))) ea_nil)) ea_nil))))))))) dss_nil) (dss_cons (ds_asg (i := 4) (free1 (by decide)) sc__law_grown.nd rfl (Or.inl rfl) (de_callF F__law_words (hr.mono (by omega)) rfl (takes_of rfl rfl rfl rfl) (das_cons (de_op divF_ok divF_ne op_fdivA (dr (de_var 2)) (dr de_int)) (das_cons (de_op addF_ok addF_ne op_addD (dr (de_op addF_ok addF_ne op_addD (dr de_int) (dr (de_op modF_ok modF_ne op_modN (dr (de_op divF_ok divF_ne op_fdivA (dr (de_var 2)) (dr de_int))) (dr de_int))))) (dr (de_op mulF_ok mulF_ne op_mulA (dr de_int) (dr (de_callT intSF_ok (call_int1.or call_int_str) rfl T.b_int (by decide +kernel) (drl_cons (dr (de_cmp eqF_ok eqF_ne (op_eqD hr.units) (dr (de_op modF_ok modF_ne op_modN (dr (de_op divF_ok divF_ne op_fdivA (dr (de_var 2)) (dr de_int))) (dr de_int))) (dr de_int) (nomark _))) drl_nil)))))) das_nil)))) (dss_cons (ds_frz 4 (ds_asgM (i := 5) (free1 (by decide)) sc__law_grown.nd rfl (Or.inl rfl) (em_callT tupleF_ok call_tuple_of rfl T.b_tuple (by decide +kernel) (ea_cons (em_comp (own := [("_law_word", 8)]) (frees1 (by decide)) rfl sc__law_grown.nd (di_var 4) (blkOk_by (N := N__law_grown) (sc := defScope s__law_grown) (own := [("_law_word", 8)]) (by decide +kernel)) (by decide) off_name (fun _ _ _ _ _ => (dg_name (i := 8) (free1 (by decide)) sc__law_grown.nd rfl (Or.inl rfl))) (fun _ _ _ _ _ => dif_nil) (fun _ _ _ _ _ => (em_tup (ea_cons (em_pure (de_var 8)) (ea_cons (em_call (i := 0) (ih) (hr.mono (by omega)) rfl takes0 (dam_lent (i := 0) (dam_val (dv (de_op subF_ok subF_ne op_sub (dr (de_var 1)) (dr de_int))) dam_nil))) ea_nil))))) ea_nil)))) (dss_one (ds_ret (de_tup (da_cons (dv de_str) (da_cons (dv (de_op addF_ok addF_ne op_addD (dr de_int) (dr (de_op modF_ok modF_ne op_modN (dr (de_op divF_ok divF_ne op_fdivA (dr (de_var 2)) (dr de_int))) (dr de_int))))) (da_cons (dv (de_callF F__law_name (hr.mono (by omega)) rfl (takes_of rfl rfl rfl rfl) (das_cons (de_op divF_ok divF_ne op_fdivA (dr (de_var 2)) (dr de_int)) das_nil))) (da_cons (dv (de_var 5)) da_nil)))))))))))))
set_option maxHeartbeats 4000000 in
theorem ok__law_spoil (T : Txt K mg ec)  (L : Ln K mg "_law_spoil" s__law_spoil P__law_spoil) : Fd P w K mg base ec "_law_spoil" P__law_spoil 1 d__law_spoil := by
  refine fd_of (N := N__law_spoil) sc__law_spoil L fun cdv A outer s H E hr => ?_
  unfold b__law_spoil
  exact (dss_cons (ds_asg (i := 1) free0 sc__law_spoil.nd rfl (Or.inr rfl) (de_tup (da_cons (dv de_str) (da_cons (dv (de_tup (da_cons (dv de_int) (da_cons (dv de_int) da_nil)))) da_nil)))) (dss_cons (ds_asg (i := 2) free0 sc__law_spoil.nd rfl (Or.inl rfl) (de_tup (da_cons (dv de_str) (da_cons (dv de_str) (da_cons (dv (de_tup (da_cons (dv (de_tup (da_cons (dv (de_tup (da_cons (dv de_int) (da_cons (dv de_int) da_nil)))) (da_cons (dv (de_var 1)) da_nil)))) da_nil))) da_nil))))) (dss_cons (ds_asg (i := 3) free0 sc__law_spoil.nd rfl (Or.inl rfl) (de_lst (da_cons (dv (de_tup (da_cons (dv de_str) (da_cons (dv (de_tup (da_cons (dv de_int) (da_cons (dv de_int) da_nil)))) da_nil)))) (da_cons (dv (de_tup (da_cons (dv de_str) (da_cons (dv (de_tup (da_cons (dv de_int) (da_cons (dv de_int) da_nil)))) da_nil)))) (da_cons (dv (de_tup (da_cons (dv de_str) (da_cons (dv (de_lst (da_cons (dv de_int) (da_cons (dv de_int) da_nil)))) da_nil)))) (da_cons (dv (de_tup (da_cons (dv de_str) (da_cons (dv de_int) da_nil)))) (da_cons (dv (de_tup (da_cons (dv de_str) da_nil))) (da_cons (dv (de_lst (da_cons (dv de_str) (da_cons (dv (de_tup (da_cons (dv de_int) (da_cons (dv de_int) da_nil)))) da_nil)))) (da_cons (dv (de_tup (da_cons (dv de_str) (da_cons (dv (de_tup (da_cons (dv de_int) (da_cons (dv de_int) da_nil)))) da_nil)))) da_nil))))))))) (dss_cons (ds_asg (i := 3) free0 sc__law_spoil.nd rfl (Or.inl rfl) (de_op addF_ok addF_ne op_addD (dr (de_var 3)) (dr (de_lst (da_cons (dv (de_tup (da_cons (dv de_str) (da_cons (dv de_str) (da_cons (dv (de_tup da_nil)) da_nil))))) (da_cons (dv (de_tup (da_cons (dv de_str) (da_cons (dv de_str) (da_cons (dv (de_ix (dr (de_var 2)) (dr de_int) (fun _ _ => rfl))) da_nil))))) (da_cons (dv (de_tup (da_cons (dv de_str) (da_cons (dv de_str) (da_cons (dv (de_lst (da_cons (dv (de_tup (da_cons (dv (de_tup (da_cons (dv de_int) (da_cons (dv de_int) da_nil)))) (da_cons (dv (de_var 1)) da_nil)))) da_nil))) da_nil))))) da_nil))))))) (dss_cons (ds_asg (i := 3) free0 sc__law_spoil.nd rfl (Or.inl rfl) (de_op addF_ok addF_ne op_addD (dr (de_var 3)) (dr (de_lst (da_cons (dv (de_tup (da_cons (dv de_str) (da_cons (dv de_str) (da_cons (dv (de_tup (da_cons (dv (de_tup (da_cons (dv de_int) (da_cons (dv (de_var 1)) da_nil)))) da_nil))) da_nil))))) (da_cons (dv (de_tup (da_cons (dv de_str) (da_cons (dv (de_tup (da_cons (dv de_int) (da_cons (dv de_int) da_nil)))) (da_cons (dv de_int) da_nil))))) (da_cons (dv (de_op addF_ok addF_ne op_addD (dr (de_var 2)) (dr (de_tup (da_cons (dv de_int) da_nil))))) (da_cons (dv (de_tup (da_cons (dv de_str) (da_cons (dv de_str) (da_cons (dv (de_tup (da_cons (dv (de_lst (da_cons (dv (de_tup (da_cons (dv de_int) (da_cons (dv de_int) da_nil)))) (da_cons (dv (de_var 1)) da_nil)))) da_nil))) da_nil))))) da_nil)))))))) (dss_cons (ds_asg (i := 3) free0 sc__law_spoil.nd rfl (Or.inl rfl) (de_op addF_ok addF_ne op_addD (dr (de_var 3)) (dr (de_lst (da_cons (dv (de_tup (da_cons (dv de_str) (da_cons (dv de_str) (da_cons (dv (de_tup (da_cons (dv (de_tup (da_cons (dv (de_tup (da_cons (dv de_int) (da_cons (dv de_int) da_nil)))) (da_cons (dv (de_var 1)) (da_cons (dv (de_var 1)) da_nil))))) da_nil))) da_nil))))) (da_cons (dv (de_tup (da_cons (dv de_str) (da_cons (dv de_str) (da_cons (dv (de_callT tupleF_ok call_tuple_of rfl T.b_tuple (by decide +kernel) (drl_cons (dr (de_rep (de_lst (da_cons (dv (de_tup (da_cons (dv (de_tup (da_cons (dv de_int) (da_cons (dv de_int) da_nil)))) (da_cons (dv (de_var 1)) da_nil)))) da_nil)) (dr de_int))) drl_nil))) da_nil))))) (da_cons (dv (de_tup (da_cons (dv de_str) (da_cons (dv de_str) da_nil)))) da_nil))))))) (dss_cons (ds_asg (i := 3) free0 sc__law_spoil.nd rfl (Or.inl rfl) (de_op addF_ok addF_ne op_addD (dr (de_var 3)) (dr (de_lst (da_cons (dv (de_tup (da_cons (dv de_str) (da_cons (dv de_int) (da_cons (dv de_str) (da_cons (dv (de_tup (da_cons (dv (de_tup (da_cons (dv de_str) (da_cons (dv (de_var 1)) da_nil)))) da_nil))) da_nil)))))) (da_cons (dv (de_tup (da_cons (dv de_str) (da_cons (dv de_bl) (da_cons (dv de_str) (da_cons (dv (de_tup (da_cons (dv (de_tup (da_cons (dv de_str) (da_cons (dv (de_var 1)) da_nil)))) da_nil))) da_nil)))))) (da_cons (dv de_non) (da_cons (dv de_str) da_nil)))))))) (dss_cons (ds_asg (i := 4) free0 sc__law_spoil.nd rfl (Or.inl rfl) (de_callT tupleF_ok call_tuple_of rfl T.b_tuple (by decide +kernel) (drl_cons (dr (de_comp (own := [("_law_k", 5)]) frees0 rfl sc__law_spoil.nd (di_range1 rfl T.b_range (da_cons (dv de_int) da_nil)) (blkOk_by (N := N__law_spoil) (sc := defScope s__law_spoil) (own := [("_law_k", 5)]) (by decide +kernel)) (by decide) (fun _ _ _ _ _ => (dg_name (i := 5) free0 sc__law_spoil.nd rfl (Or.inl rfl))) (fun _ _ _ _ _ => dif_nil) (fun _ _ _ _ _ => (dv (de_tup (da_cons (dv (de_op addF_ok addF_ne op_addD (dr de_str) (dr (de_callT strF_ok call_str_int rfl T.b_str (by decide +kernel) (drl_cons (dr (de_var 5)) drl_nil))))) (da_cons (dv (de_var 1)) da_nil))))))) drl_nil))) (dss_cons (ds_asg (i := 3) free0 sc__law_spoil.nd rfl (Or.inl rfl) (de_op addF_ok addF_ne op_addD (dr (de_var 3)) (dr (de_lst (da_cons (dv (de_tup (da_cons (dv de_str) (da_cons (dv de_int) (da_cons (dv de_str) (da_cons (dv (de_tup (da_cons (dv (de_tup (da_cons (dv de_str) (da_cons (dv (de_var 1)) da_nil)))) (da_cons (dv (de_tup (da_cons (dv de_str) (da_cons (dv (de_var 1)) da_nil)))) da_nil)))) da_nil)))))) (da_cons (dv (de_tup (da_cons (dv de_str) (da_cons (dv de_int) (da_cons (dv de_str) (da_cons (dv (de_var 4)) da_nil)))))) da_nil)))))) (dss_cons (ds_asg (i := 3) free0 sc__law_spoil.nd rfl (Or.inl rfl) (de_op addF_ok addF_ne op_addD (dr (de_var 3)) (dr (de_lst (da_cons (dv (de_tup (da_cons (dv de_str) (da_cons (dv de_int) (da_cons (dv de_str) (da_cons (dv (de_tup (da_cons (dv (de_tup (da_cons (dv de_str) (da_cons (dv (de_var 1)) da_nil)))) da_nil))) da_nil)))))) (da_cons (dv (de_tup (da_cons (dv de_str) (da_cons (dv de_int) (da_cons (dv de_str) (da_cons (dv (de_tup (da_cons (dv (de_tup (da_cons (dv de_str) (da_cons (dv (de_var 1)) da_nil)))) da_nil))) da_nil)))))) (da_cons (dv (de_tup (da_cons (dv de_str) (da_cons (dv de_int) (da_cons (dv de_str) (da_cons (dv (de_tup da_nil)) da_nil)))))) da_nil))))))) (dss_cons (ds_asg (i := 3) free0 sc__law_spoil.nd rfl (Or.inl rfl) (de_op addF_ok addF_ne op_addD (dr (de_var 3)) (dr (de_lst (da_cons (dv (de_tup (da_cons (dv de_str) (da_cons (dv de_int) (da_cons (dv de_str) (da_cons (dv (de_tup (da_cons (dv (de_tup (da_cons (dv de_str) (da_cons (dv (de_var 1)) da_nil)))) da_nil))) (da_cons (dv de_int) da_nil))))))) (da_cons (dv (de_tup (da_cons (dv de_str) (da_cons (dv de_int) (da_cons (dv de_str) (da_cons (dv (de_lst (da_cons (dv (de_tup (da_cons (dv de_str) (da_cons (dv (de_var 1)) da_nil)))) da_nil))) da_nil)))))) (da_cons (dv (de_tup (da_cons (dv de_str) (da_cons (dv de_int) (da_cons (dv de_non) (da_cons (dv (de_tup (da_cons (dv (de_tup (da_cons (dv de_str) (da_cons (dv (de_var 1)) da_nil)))) da_nil))) da_nil)))))) da_nil))))))) (dss_cons (ds_asg (i := 3) free0 sc__law_spoil.nd rfl (Or.inl rfl) (de_op addF_ok addF_ne op_addD (dr (de_var 3)) (dr (de_lst (da_cons (dv (de_tup (da_cons (dv de_str) (da_cons (dv de_int) (da_cons (dv de_str) (da_cons (dv (de_tup (da_cons (dv (de_tup (da_cons (dv de_int) (da_cons (dv (de_var 1)) da_nil)))) da_nil))) da_nil)))))) (da_cons (dv (de_tup (da_cons (dv de_str) (da_cons (dv de_str) (da_cons (dv de_str) (da_cons (dv (de_tup (da_cons (dv (de_tup (da_cons (dv de_str) (da_cons (dv (de_var 1)) da_nil)))) da_nil))) da_nil)))))) (da_cons (dv (de_tup (da_cons (dv de_str) (da_cons (dv de_int) (da_cons (dv de_str) (da_cons (dv (de_tup (da_cons (dv (de_lst (da_cons (dv de_str) (da_cons (dv (de_var 1)) da_nil)))) da_nil))) da_nil)))))) da_nil))))))) (dss_cons (ds_asg (i := 3) free0 sc__law_spoil.nd rfl (Or.inl rfl) (de_op addF_ok addF_ne op_addD (dr (de_var 3)) (dr (de_lst (da_cons (dv (de_tup (da_cons (dv de_str) (da_cons (dv de_str) (da_cons (dv (de_tup (da_cons (dv (de_tup (da_cons (dv (de_tup (da_cons (dv de_int) (da_cons (dv de_int) da_nil)))) (da_cons (dv (de_var 1)) da_nil)))) da_nil))) da_nil))))) (da_cons (dv (de_tup (da_cons (dv de_str) (da_cons (dv de_str) (da_cons (dv (de_tup (da_cons (dv (de_tup (da_cons (dv (de_tup (da_cons (dv de_int) (da_cons (dv de_int) da_nil)))) (da_cons (dv (de_var 1)) da_nil)))) da_nil))) da_nil))))) da_nil)))))) (dss_cons (ds_append (i := 3) (dv (de_tup (da_cons (dv de_str) (da_cons (dv de_int) (da_cons (dv de_str) (da_cons (dv (de_tup (da_cons (dv (de_tup (da_cons (dv de_str) (da_cons (dv (de_var 1)) da_nil)))) (da_cons (dv (de_tup (da_cons (dv de_str) (da_cons (dv (de_var 1)) da_nil)))) (da_cons (dv (de_tup (da_cons (dv de_str) (da_cons (dv (de_var 1)) da_nil)))) da_nil))))) da_nil))))))) (dss_one (ds_ret (de_ix (dr (de_op addF_ok addF_ne op_addD (dr (de_var 3)) (dr (de_lst (da_cons (dv (de_tup (da_cons (dv de_str) (da_cons (dv de_int) (da_cons (dv de_str) (da_cons (dv (de_tup (da_cons (dv (de_tup (da_cons (dv de_str) (da_cons (dv (de_var 1)) da_nil)))) da_nil))) da_nil)))))) da_nil))))) (dr (de_op modF_ok modF_ne op_modN (dr (de_var 0)) (dr de_int))) (fun _ _ => rfl))))))))))))))))))
set_option maxHeartbeats 4000000 in
theorem ok__law_bent (T : Txt K mg ec)  (L : Ln K mg "_law_bent" s__law_bent P__law_bent) : Fd P w K mg base ec "_law_bent" P__law_bent 1 d__law_bent := by
  refine fd_of (N := N__law_bent) sc__law_bent L fun cdv A outer s H E hr => ?_
  unfold b__law_bent
  exact (dss_cons (ds_asg (i := 1) free0 sc__law_bent.nd rfl (Or.inr rfl) (de_tup (da_cons (dv de_str) (da_cons (dv (de_tup (da_cons (dv de_int) (da_cons (dv de_int) da_nil)))) da_nil)))) (dss_cons (ds_asg (i := 2) free0 sc__law_bent.nd rfl (Or.inr rfl) (de_op addF_ok addF_ne op_addD (dr de_int) (dr (de_op modF_ok modF_ne op_modN (dr (de_var 0)) (dr de_int))))) (dss_cons (ds_asg (i := 3) free0 sc__law_bent.nd rfl (Or.inl rfl) (de_op modF_ok modF_ne op_modN (dr (de_op divF_ok divF_ne op_fdivA (dr (de_var 0)) (dr de_int))) (dr (de_var 2)))) (dss_cons (ds_if (dt_cmp eqF_ok eqF_ne (op_eqD hr.units) (dr (de_op modF_ok modF_ne op_modN (dr (de_op divF_ok divF_ne op_fdivA (dr (de_var 0)) (dr de_int))) (dr de_int))) (dr de_int) (nomark _)) (dss_cons (ds_asgComp (i := 4) (own := [("_law_k", 6)]) frees0 free0 rfl sc__law_bent.nd rfl rfl (sw_true rfl rfl rfl (by decide +kernel)) (di_range1 rfl T.b_range (da_cons (dv (de_var 2)) da_nil)) (blkOk_by (N := N__law_bent) (sc := defScope s__law_bent) (own := [("_law_k", 6)]) (by decide +kernel)) (by decide) (fun _ _ _ _ _ => (dg_name (i := 6) free0 sc__law_bent.nd rfl (Or.inl rfl))) (fun _ _ _ _ _ => dif_nil) (fun _ _ _ _ _ => (dv (de_tup (da_cons (dv (de_tup (da_cons (dv de_int) (da_cons (dv (de_var 2)) da_nil)))) (da_cons (dv (de_var 1)) da_nil)))))) (dss_cons (ds_asg (i := 5) free0 sc__law_bent.nd rfl (Or.inl rfl) (de_lst (da_cons (dv (de_tup (da_cons (dv (de_tup (da_cons (dv de_int) (da_cons (dv de_int) da_nil)))) (da_cons (dv (de_var 1)) da_nil)))) (da_cons (dv (de_tup (da_cons (dv (de_tup (da_cons (dv de_int) (da_cons (dv de_int) da_nil)))) (da_cons (dv (de_var 1)) da_nil)))) (da_cons (dv (de_tup (da_cons (dv (de_lst (da_cons (dv de_int) (da_cons (dv de_int) da_nil)))) (da_cons (dv (de_var 1)) da_nil)))) (da_cons (dv (de_tup (da_cons (dv de_bl) (da_cons (dv (de_var 1)) da_nil)))) (da_cons (dv (de_tup (da_cons (dv de_str) (da_cons (dv (de_var 1)) da_nil)))) (da_cons (dv (de_tup (da_cons (dv de_non) (da_cons (dv (de_var 1)) da_nil)))) (da_cons (dv (de_tup (da_cons (dv (de_tup (da_cons (dv de_int) (da_cons (dv de_int) da_nil)))) (da_cons (dv (de_var 1)) (da_cons (dv (de_var 1)) da_nil))))) da_nil))))))))) (dss_cons (ds_asg (i := 5) free0 sc__law_bent.nd rfl (Or.inl rfl) (de_op addF_ok addF_ne op_addD (dr (de_var 5)) (dr (de_lst (da_cons (dv (de_lst (da_cons (dv (de_tup (da_cons (dv de_int) (da_cons (dv de_int) da_nil)))) (da_cons (dv (de_var 1)) da_nil)))) (da_cons (dv (de_tup (da_cons (dv (de_tup (da_cons (dv de_int) (da_cons (dv de_int) da_nil)))) da_nil))) (da_cons (dv de_int) (da_cons (dv de_non) (da_cons (dv (de_tup da_nil)) (da_cons (dv de_str) (da_cons (dv (de_tup (da_cons (dv (de_tup (da_cons (dv de_int) (da_cons (dv de_int) da_nil)))) (da_cons (dv de_int) da_nil)))) (da_cons (dv (de_tup (da_cons (dv (de_tup (da_cons (dv de_int) (da_cons (dv de_int) da_nil)))) (da_cons (dv (de_tup (da_cons (dv de_str) (da_cons (dv (de_tup (da_cons (dv de_int) (da_cons (dv de_int) da_nil)))) da_nil)))) da_nil)))) da_nil)))))))))))) (dss_cons (ds_setI (i := 4) hr (dv (de_ix (dr (de_op addF_ok addF_ne op_addD (dr (de_var 5)) (dr (de_lst (da_cons (dv (de_tup (da_cons (dv (de_tup (da_cons (dv (de_tup (da_cons (dv de_int) (da_cons (dv de_int) da_nil)))) da_nil))) (da_cons (dv (de_var 1)) da_nil)))) da_nil))))) (dr (de_op modF_ok modF_ne op_modN (dr (de_op divF_ok divF_ne op_fdivA (dr (de_var 0)) (dr de_int))) (dr de_int))) (fun _ _ => rfl))) (dr (de_var 3))) (dss_one (ds_ret (de_tup (da_cons (dv de_str) (da_cons (dv de_str) (da_cons (dv (de_callT tupleF_ok call_tuple_of rfl T.b_tuple (by decide +kernel) (drl_cons (dr (de_var 4)) drl_nil))) da_nil)))))))))) dss_nil) (dss_cons (ds_asgComp (i := 4) (own := [("_law_k", 6)]) frees0 free0 rfl sc__law_bent.nd rfl rfl (sw_true rfl rfl rfl (by decide +kernel)) (di_range1 rfl T.b_range (da_cons (dv (de_var 2)) da_nil)) (blkOk_by (N := N__law_bent) (sc := defScope s__law_bent) (own := [("_law_k", 6)]) (by decide +kernel)) (by decide) (fun _ _ _ _ _ => (dg_name (i := 6) free0 sc__law_bent.nd rfl (Or.inl rfl))) (fun _ _ _ _ _ => dif_nil) (fun _ _ _ _ _ => (dv (de_tup (da_cons (dv (de_ix (dr de_str) (dr (de_var 6)) (fun _ _ => rfl))) (da_cons (dv (de_var 1)) da_nil)))))) (dss_cons (ds_asg (i := 5) free0 sc__law_bent.nd rfl (Or.inl rfl) (de_lst (da_cons (dv (de_tup (da_cons (dv de_str) (da_cons (dv (de_var 1)) da_nil)))) (da_cons (dv (de_tup (da_cons (dv de_str) (da_cons (dv (de_var 1)) da_nil)))) (da_cons (dv (de_tup (da_cons (dv de_str) (da_cons (dv (de_var 1)) da_nil)))) (da_cons (dv (de_tup (da_cons (dv de_int) (da_cons (dv (de_var 1)) da_nil)))) (da_cons (dv (de_tup (da_cons (dv de_non) (da_cons (dv (de_var 1)) da_nil)))) (da_cons (dv (de_tup (da_cons (dv (de_lst (da_cons (dv de_str) da_nil))) (da_cons (dv (de_var 1)) da_nil)))) (da_cons (dv (de_tup (da_cons (dv (de_tup (da_cons (dv de_str) da_nil))) (da_cons (dv (de_var 1)) da_nil)))) (da_cons (dv (de_tup (da_cons (dv de_dict0) (da_cons (dv (de_var 1)) da_nil)))) da_nil)))))))))) (dss_cons (ds_asg (i := 5) free0 sc__law_bent.nd rfl (Or.inl rfl) (de_op addF_ok addF_ne op_addD (dr (de_var 5)) (dr (de_lst (da_cons (dv (de_tup (da_cons (dv de_str) (da_cons (dv (de_var 1)) (da_cons (dv (de_var 1)) da_nil))))) (da_cons (dv (de_lst (da_cons (dv de_str) (da_cons (dv (de_var 1)) da_nil)))) (da_cons (dv (de_tup (da_cons (dv de_str) da_nil))) (da_cons (dv de_int) (da_cons (dv de_non) (da_cons (dv de_str) (da_cons (dv (de_tup (da_cons (dv de_str) (da_cons (dv (de_tup (da_cons (dv de_str) (da_cons (dv (de_lst (da_cons (dv de_int) (da_cons (dv de_int) da_nil)))) da_nil)))) da_nil)))) da_nil))))))))))) (dss_cons (ds_setI (i := 4) hr (dv (de_ix (dr (de_op addF_ok addF_ne op_addD (dr (de_var 5)) (dr (de_lst (da_cons (dv (de_tup (da_cons (dv (de_ix (dr de_str) (dr (de_op modF_ok modF_ne op_modN (dr (de_op addF_ok addF_ne op_addD (dr (de_var 3)) (dr de_int))) (dr (de_var 2)))) (fun _ _ => rfl))) (da_cons (dv (de_var 1)) da_nil)))) da_nil))))) (dr (de_op modF_ok modF_ne op_modN (dr (de_op divF_ok divF_ne op_fdivA (dr (de_var 0)) (dr de_int))) (dr de_int))) (fun _ _ => rfl))) (dr (de_var 3))) (dss_one (ds_ret (de_tup (da_cons (dv de_str) (da_cons (dv (de_op addF_ok addF_ne op_addD (dr de_int) (dr (de_op modF_ok modF_ne op_modN (dr (de_op divF_ok divF_ne op_fdivA (dr (de_var 0)) (dr de_int))) (dr de_int))))) (da_cons (dv de_str) (da_cons (dv (de_callT tupleF_ok call_tuple_of rfl T.b_tuple (by decide +kernel) (drl_cons (dr (de_var 4)) drl_nil))) da_nil)))))))))))))))
set_option maxHeartbeats 4000000 in
theorem ok__law_put (T : Txt K mg ec)  (L__law_put : Ln K mg "_law_put" s__law_put P__law_put) : ∀ n : Nat, Fd P w K mg base ec "_law_put" P__law_put (1 + n) (d__law_put n) := by
  intro n
  induction n with
  | zero => exact fd_bot (N := N__law_put) sc__law_put L__law_put
  | succ n ih =>
    refine fd_of (N := N__law_put) (k := 1 + n) sc__law_put L__law_put fun cdv A outer s H E hr => ?_
    unfold b__law_put
    exact (dss_cons (ds_if (dt_w (dw_or (dt_cmp eqF_ok eqF_ne (op_eqD hr.units) (dr (de_ix (dr (de_var 0)) (dr de_int) (fun _ _ => rfl))) (dr de_str) (nomark _)) (dw_or (dt_cmp eqF_ok eqF_ne (op_eqD hr.units) (dr (de_op modF_ok modF_ne op_modN (dr (de_ix (dr (de_var 1)) (dr de_int) (fun _ _ => rfl))) (dr de_int))) (dr de_int) (nomark _)) (dw_or1 (dt_cmp eqF_ok eqF_ne (op_eqD hr.units) (dr (de_callB lenF_ok call_len rfl T.b_len (by decide +kernel) (drl_cons (dr (de_var 1)) drl_nil))) (dr de_int) (nomark _)))))) (dss_one (ds_retN 2 free0)) dss_nil) (dss_cons (ds_asg (i := 3) free0 sc__law_put.nd rfl (Or.inl rfl) (de_callT listF_ok call_list_of rfl T.b_list (by decide +kernel) (drl_cons (dr (de_ix (dr (de_var 0)) (dr (de_neg (dr de_int))) (fun _ _ => rfl))) drl_nil))) (dss_cons (ds_asg (i := 4) free0 sc__law_put.nd rfl (Or.inl rfl) (de_op modF_ok modF_ne op_modN (dr (de_op divF_ok divF_ne op_fdivA (dr (de_ix (dr (de_var 1)) (dr de_int) (fun _ _ => rfl))) (dr de_int))) (dr (de_callB lenF_ok call_len rfl T.b_len (by decide +kernel) (drl_cons (dr (de_var 3)) drl_nil))))) (dss_cons (ds_setI (i := 3) hr (dv (de_tup (da_cons (dv (de_ix (dr (de_ix (dr (de_var 3)) (dr (de_var 4)) (fun _ _ => rfl))) (dr de_int) (fun _ _ => rfl))) (da_cons (dv (de_callF (ih) (hr.mono (by omega)) rfl (takes_of rfl rfl rfl rfl) (das_cons (de_ix (dr (de_ix (dr (de_var 3)) (dr (de_var 4)) (fun _ _ => rfl))) (dr de_int) (fun _ _ => rfl)) (das_cons (de_sl (dr (de_var 1)) (do_some (dr de_int)) do_none) (das_cons (de_var 2) das_nil))))) da_nil)))) (dr (de_var 4))) (dss_one (ds_ret (de_op addF_ok addF_ne op_addD (dr (de_sl (dr (de_var 0)) do_none (do_some (dr (de_neg (dr de_int)))))) (dr (de_tup (da_cons (dv (de_callT tupleF_ok call_tuple_of rfl T.b_tuple (by decide +kernel) (drl_cons (dr (de_var 3)) drl_nil))) da_nil))))))))))
set_option maxHeartbeats 4000000 in
theorem ok__law_no_name (T : Txt K mg ec)  (L : Ln K mg "_law_no_name" s__law_no_name P__law_no_name) : Fd P w K mg base ec "_law_no_name" P__law_no_name 1 d__law_no_name := by
  refine fd_of (N := N__law_no_name) sc__law_no_name L fun cdv A outer s H E hr => ?_
  unfold b__law_no_name
  exact (dss_cons (ds_asg (i := 2) free0 sc__law_no_name.nd rfl (Or.inl rfl) de_str) (dss_cons (ds_asg (i := 3) free0 sc__law_no_name.nd rfl (Or.inl rfl) (de_op modF_ok modF_ne op_modN (dr (de_op divF_ok divF_ne op_fdivA (dr (de_var 1)) (dr de_int))) (dr (de_callB lenF_ok call_len rfl T.b_len (by decide +kernel) (drl_cons (dr (de_var 0)) drl_nil))))) (dss_cons (ds_asg (i := 4) free0 sc__law_no_name.nd rfl (Or.inl rfl) (de_lst (da_cons (dv de_str) (da_cons (dv (de_sl (dr (de_op mulG_ok mulG_ne op_mulG (dr (de_var 0)) (dr de_int))) do_none (do_some (dr de_int)))) (da_cons (dv de_non) (da_cons (dv de_int) (da_cons (dv (de_lst (da_cons (dv (de_var 0)) da_nil))) (da_cons (dv (de_tup (da_cons (dv (de_var 0)) da_nil))) (da_cons (dv de_bl) da_nil))))))))) (dss_cons (ds_asg (i := 5) free0 sc__law_no_name.nd rfl (Or.inl rfl) (de_ix (dr (de_var 2)) (dr (de_op modF_ok modF_ne op_modN (dr (de_op divF_ok divF_ne op_fdivA (dr (de_var 1)) (dr de_int))) (dr (de_callB lenF_ok call_len rfl T.b_len (by decide +kernel) (drl_cons (dr (de_var 2)) drl_nil))))) (fun _ _ => rfl))) (dss_cons (ds_append (i := 4) (dv (de_op addF_ok addF_ne op_addD (dr (de_op addF_ok addF_ne op_addD (dr (de_sl (dr (de_var 0)) do_none (do_some (dr (de_var 3))))) (dr (de_var 5)))) (dr (de_sl (dr (de_var 0)) (do_some (dr (de_op addF_ok addF_ne op_addD (dr (de_var 3)) (dr de_int)))) do_none))))) (dss_one (ds_ret (de_ix (dr (de_var 4)) (dr (de_callB min2F_ok (call_min2 rfl) rfl T.b_min (by decide +kernel) (drl_cons (dr (de_op modF_ok modF_ne op_modN (dr (de_var 1)) (dr de_int))) (drl_cons (dr de_int) drl_nil)))) (fun _ _ => rfl)))))))))
set_option maxHeartbeats 4000000 in
theorem ok_law (T : Txt K mg ec) (F_is_game : Fd P w K mg base ec "is_game" P_is_game 4 Pg.d_is_game) (F__law_put : Fd P w K mg base ec "_law_put" P__law_put 9 (d__law_put 8)) (F__law_bent : Fd P w K mg base ec "_law_bent" P__law_bent 1 d__law_bent) (F__law_cell_at : Fd P w K mg base ec "_law_cell_at" P__law_cell_at 1 d__law_cell_at) (F__law_spoil : Fd P w K mg base ec "_law_spoil" P__law_spoil 1 d__law_spoil) (F_is_name : Fd P w K mg base ec "is_name" P_is_name 1 Pg.d_is_name) (F__law_no_name : Fd P w K mg base ec "_law_no_name" P__law_no_name 1 d__law_no_name) (F__law_name : Fd P w K mg base ec "_law_name" P__law_name 1 d__law_name) (F__law_grown : FdM P w K mg base ec "_law_grown" P__law_grown 9 0 (d__law_grown 6)) (F__law_numbers : Fd P w K mg base ec "_law_numbers" P__law_numbers 1 d__law_numbers) {fa : Addr} {fd : FuncData} (L : Fun K "law" "law" s_law fa fd) : FnOk P w K mg base (L2.CX P w) 10 fa fd P_law (spD ⟨⟨K, w⟩, ec, fun _ _ => False, []⟩ d_law) := by
  refine fnok_of (N := N_law) sc_law L fun cdv A outer s H E hr => ?_
  unfold b_law L_law_1
  exact (dss_cons (ds_asg (i := 1) free0 sc_law.nd rfl (Or.inr rfl) (de_callF F__law_numbers (hr.mono (by decide)) rfl (takes_of rfl rfl rfl rfl) (das_cons (de_var 0) das_nil))) (dss_cons (ds_asg (i := 2) free0 sc_law.nd rfl (Or.inl rfl) (de_callTmp F__law_grown (hr.mono (by decide)) rfl (takes_of rfl rfl rfl rfl) (de_callT listF_ok call_list_of rfl T.b_list (by decide +kernel) (drl_cons (dr (de_var 1)) drl_nil)) (da_cons (dv de_int) da_nil))) (dss_cons (ds_frz 1 (ds_asgComp (i := 3) (own := [("_law_k", 5)]) frees0 free0 rfl sc_law.nd rfl rfl (sw_true rfl rfl rfl (by decide +kernel)) (di_range2 rfl T.b_range (da_cons (dv de_int) (da_cons (dv de_int) da_nil))) (blkOk_by (N := N_law) (sc := defScope s_law) (own := [("_law_k", 5)]) (by decide +kernel)) (by decide) (fun _ _ _ _ _ => (dg_name (i := 5) free0 sc_law.nd rfl (Or.inl rfl))) (fun _ _ _ _ _ => dif_nil) (fun _ _ _ _ _ => (dv (de_op divF_ok divF_ne op_fdivA (dr (de_callF F__law_cell_at (hr.mono (by decide)) rfl takes0 (das_cons (de_var 1) (das_cons (de_var 5) das_nil)))) (dr de_int)))))) (dss_cons (ds_frz 1 (ds_frz 3 (ds_frz 2 (ds_asg (i := 4) free0 sc_law.nd rfl (Or.inl rfl) (de_callF F__law_put (hr.mono (by decide)) rfl (takes_of rfl rfl rfl rfl) (das_cons (de_var 2) (das_cons (de_var 3) (das_cons (de_callF F__law_spoil (hr.mono (by decide)) rfl (takes_of rfl rfl rfl rfl) (das_cons (de_callF F__law_cell_at (hr.mono (by decide)) rfl (takes_of rfl rfl rfl rfl) (das_cons (de_var 1) (das_cons de_int das_nil))) das_nil)) das_nil)))))))) (dss_cons (ds_frz 4 (ds_frz 2 (ds_if (dt_w (dw_or (dt_cmp isNotF_ok isNotF_ne op_isNotD (dr (de_callF F_is_game (hr.mono (by decide)) rfl (takes_of rfl rfl rfl rfl) (das_cons (de_var 2) das_nil))) (dr de_bl) (nomark _)) (dw_or1 (dt_cmp isNotF_ok isNotF_ne op_isNotD (dr (de_callF F_is_game (hr.mono (by decide)) rfl (takes_of rfl rfl rfl rfl) (das_cons (de_var 4) das_nil))) (dr de_bl) (nomark _))))) (dss_one (ds_ret de_bl)) dss_nil))) (dss_cons (ds_frz 2 (ds_if (dt_cmp isNotF_ok isNotF_ne op_isNotD (dr (de_callF F_is_game (hr.mono (by decide)) rfl (takes_of rfl rfl rfl rfl) (das_cons (de_var 2) das_nil))) (dr de_bl) (nomark _)) (dss_one (ds_ret de_bl)) dss_nil)) (dss_cons (ds_for (passes_of rfl) rfl (di_range1 rfl T.b_range (da_cons (dv de_int) da_nil)) (dg_name (i := 5) free0 sc_law.nd rfl (Or.inr rfl)) (dss_cons (ds_frz 1 (ds_asg (i := 6) free0 sc_law.nd rfl (Or.inl rfl) (de_op addF_ok addF_ne op_addD (dr (de_callF F__law_cell_at (hr.mono (by decide)) rfl (takes_of rfl rfl rfl rfl) (das_cons (de_var 1) (das_cons (de_var 5) das_nil)))) (dr (de_op mulF_ok mulF_ne op_mulA (dr de_int) (dr (de_var 5))))))) (dss_cons (ds_frz 6 (ds_asg (i := 7) free0 sc_law.nd rfl (Or.inl rfl) (de_callF F__law_name (hr.mono (by decide)) rfl (takes_of rfl rfl rfl rfl) (das_cons (de_var 6) das_nil)))) (dss_cons (ds_frz 7 (ds_if (dt_w (dw_or (dt_cmp isNotF_ok isNotF_ne op_isNotD (dr (de_callF F_is_name (hr.mono (by decide)) rfl (takes_of rfl rfl rfl rfl) (das_cons (de_var 7) das_nil))) (dr de_bl) (nomark _)) (dw_or1 (dt_cmp isNotF_ok isNotF_ne op_isNotD (dr (de_callF F_is_name (hr.mono (by decide)) rfl (takes_of rfl rfl rfl rfl) (das_cons (de_callF F__law_no_name (hr.mono (by decide)) rfl (takes_of rfl rfl rfl rfl) (das_cons (de_var 7) (das_cons (de_op divF_ok divF_ne op_fdivA (dr (de_var 6)) (dr de_int)) das_nil))) das_nil))) (dr de_bl) (nomark _))))) (dss_one (ds_ret de_bl)) dss_nil)) (dss_cons (ds_if (dt_w (dw_or (dt_cmp isNotF_ok isNotF_ne op_isNotD (dr (de_callF F_is_game (hr.mono (by decide)) rfl (takes_of rfl rfl rfl rfl) (das_cons (de_callF F__law_spoil (hr.mono (by decide)) rfl (takes_of rfl rfl rfl rfl) (das_cons (de_op addF_ok addF_ne op_addD (dr (de_op divF_ok divF_ne op_fdivA (dr (de_var 6)) (dr de_int))) (dr (de_var 5))) das_nil)) das_nil))) (dr de_bl) (nomark _)) (dw_or1 (dt_cmp isNotF_ok isNotF_ne op_isNotD (dr (de_callF F_is_game (hr.mono (by decide)) rfl (takes_of rfl rfl rfl rfl) (das_cons (de_callF F__law_bent (hr.mono (by decide)) rfl (takes_of rfl rfl rfl rfl) (das_cons (de_op addF_ok addF_ne op_addD (dr (de_op divF_ok divF_ne op_fdivA (dr (de_var 6)) (dr de_int))) (dr (de_var 5))) das_nil)) das_nil))) (dr de_bl) (nomark _))))) (dss_one (ds_ret de_bl)) dss_nil) (dss_cons (ds_frz 1 (ds_asgComp (i := 3) (own := [("_law_j", 8)]) frees0 free0 rfl sc_law.nd rfl rfl (sw_true rfl rfl rfl (by decide +kernel)) (di_range2 rfl T.b_range (da_cons (dv de_int) (da_cons (dv de_int) da_nil))) (blkOk_by (N := N_law) (sc := defScope s_law) (own := [("_law_j", 8)]) (by decide +kernel)) (by decide) (fun _ _ _ _ _ => (dg_name (i := 8) free0 sc_law.nd rfl (Or.inl rfl))) (fun _ _ _ _ _ => dif_nil) (fun _ _ _ _ _ => (dv (de_op divF_ok divF_ne op_fdivA (dr (de_callF F__law_cell_at (hr.mono (by decide)) rfl takes0 (das_cons (de_var 1) (das_cons (de_op addF_ok addF_ne op_addD (dr (de_var 5)) (dr (de_var 8))) das_nil)))) (dr de_int)))))) (dss_one (ds_frz 3 (ds_frz 2 (ds_if (dt_cmp isNotF_ok isNotF_ne op_isNotD (dr (de_callF F_is_game (hr.mono (by decide)) rfl (takes_of rfl rfl rfl rfl) (das_cons (de_callF F__law_put (hr.mono (by decide)) rfl (takes_of rfl rfl rfl rfl) (das_cons (de_var 2) (das_cons (de_var 3) (das_cons (de_callF F__law_bent (hr.mono (by decide)) rfl (takes_of rfl rfl rfl rfl) (das_cons (de_op divF_ok divF_ne op_fdivA (dr (de_var 6)) (dr de_int)) das_nil)) das_nil)))) das_nil))) (dr de_bl) (nomark _)) (dss_one (ds_ret de_bl)) dss_nil)))))))))) (dss_one (ds_ret de_bl)))))))))
end
set_option exponentiation.threshold 20000
open PySem L2 DL Pg TL
/-! built games as data -/
def EndD (d : PyData) : Prop := ∃ q, d = .tuple [.str "end", q] ∧ ratioB q = true ∧ q.canLay0 = true ∧ q.depth ≤ 2
def GmD : Nat → PyData → Prop
  | 0, d => EndD d
  | n + 1, d => EndD d ∨ ∃ h rs, d = rwD h rs ∧ Hd h rs ∧ ∀ r ∈ rs, GmD n r.2
theorem EndD.gm {d : PyData} (h : EndD d) : ∀ n, GmD n d
  | 0 => h
  | _ + 1 => .inl h
theorem EndD.thg {d : PyData} (h : EndD d) : Thg 1 true 1 4 d := by
  obtain ⟨q, rfl, h1, h2, h3⟩ := h
  have e : isPlaceB (.tuple [.str "end", q]) = true := by simp [isPlaceB, h1]
  have e2 : partsB (.tuple [.str "end", q]) = [] := rfl
  refine ⟨?_, ?_, ?_⟩
  · obtain ⟨t, b, rfl⟩ : ∃ t b, q = .tuple [.int t, .int b] := by
      match q, h1 with
      | .tuple [.int t, .int b], _ => exact ⟨t, b, rfl⟩
    simp [fitF, okPB, shortB, e2, labelsOf, rowsOf, pairO]
  · simp [isGameF, e, e2]
  · simp [nodesF, e, e2]
theorem GmD.thg : ∀ {n : Nat} {d : PyData}, GmD n d → Thg (n + 1) true (nodesF (n + 1) d) (5 * n + 4) d
  | 0, d, h => by
    have := EndD.thg h
    exact ⟨this.fit, this.is, Nat.le_refl _⟩
  | n + 1, d, h => by
    rcases h with h | ⟨h, rs, rfl, q, hr⟩
    · have := (EndD.thg h).mono (m := n + 1 + 1) (c' := 1) (k' := 5 * (n + 1) + 4) (by omega) (Nat.le_refl _) (by omega)
      exact ⟨this.fit, this.is, Nat.le_refl _⟩
    · have := thg_rows q (n := n + 1) (k := 5 * n + 4) (b := true) (by omega) (fun r hr' => (GmD.thg (hr r hr')).fit) (List.all_eq_true.mpr fun r hr' => (GmD.thg (hr r hr')).is) (Nat.le_refl _)
      exact ⟨this.fit, this.is, Nat.le_refl _⟩
theorem sum_set {α : Type} {f : α → Nat} {c : Nat} {y : α} : ∀ {xs : List α} {i : Nat} (hi : i < xs.length), f y ≤ f xs[i] + c → ((xs.set i y).map f).sum ≤ (xs.map f).sum + c
  | x :: xs, 0, _, h => by
    simp only [List.set_cons_zero, List.map_cons, List.sum_cons] at *
    have : f y ≤ f x + c := h
    omega
  | x :: xs, i + 1, hi, h => by
    have := sum_set (f := f) (c := c) (y := y) (xs := xs) (i := i) (by simpa using hi) (by simpa using h)
    simp only [List.set_cons_succ, List.map_cons, List.sum_cons]
    omega
theorem put_eq (m : Nat) (a b c : PyData) : d__law_put (m + 1) [.val a, .val b, .val c] = (b__law_put (d__law_put m) [some (.val a), some (.val b), some (.val c), none, none]).res := rfl
theorem put_ok {kb cb db : Nat} {B : PyData} (hB : Thg kb false cb db B) : ∀ (n : Nat) (d : PyData), GmD n d → ∀ (m : Nat) (x : Int) (xs : List Int), xs.length < m → xs.length ≤ 100 → ∃ d', d__law_put m [.val d, .val (.list ((x :: xs).map PyData.int)), .val B] = .ok (.val d') ∧ Thg (n + 1 + kb) false (nodesF (n + 1) d + cb) (5 * n + 4 + db) d'
  | n, d, h, 0, x, xs, hm, _ => absurd hm (by omega)
  | n, d, h, m + 1, x, xs, hm, hl => by
    have stop : mOr (mTest (mB eqF (mR (mB ixF (mR (mVar 0)) (mR (mC (.int 0))))) (mR (mC (.str "end"))))) (mOr (mTest (mB eqF (mR (mB modF (mR (mB ixF (mR (mVar 1)) (mR (mC (.int 0))))) (mR (mC (.int 3))))) (mR (mC (.int 0))))) (mTest (mB eqF (mR (mBi lenF (mCons (mR (mVar 1)) mNil))) (mR (mC (.int 1)))))) [some (.val d), some (.val (.list ((x :: xs).map PyData.int))), some (.val B), none, none] = .ok true → ∃ d', d__law_put (m + 1) [.val d, .val (.list ((x :: xs).map PyData.int)), .val B] = .ok (.val d') ∧ Thg (n + 1 + kb) false (nodesF (n + 1) d + cb) (5 * n + 4 + db) d' := fun ht => by
      refine ⟨B, ?_, hB.mono (by omega) (by omega) (by omega)⟩
      rw [put_eq]
      unfold b__law_put
      rw [seq_rt (s := .val B) (δ' := [some (.val d), some (.val (.list ((x :: xs).map PyData.int))), some (.val B), none, none]) (by rw [mIf_ap, ht, out_ok', if_pos rfl]; simp)]
      rfl
    have fin : EndD d → ∃ d', d__law_put (m + 1) [.val d, .val (.list ((x :: xs).map PyData.int)), .val B] = .ok (.val d') ∧ Thg (n + 1 + kb) false (nodesF (n + 1) d + cb) (5 * n + 4 + db) d' := fun he => stop (by
      obtain ⟨q, rfl, _⟩ := he
      simp)
    match n, h with
    | 0, h => exact fin h
    | n + 1, .inl h => exact fin h
    | n + 1, .inr ⟨hd, rs, e, q, hr⟩ =>
      by_cases hx : x % 3 = 0 ∨ xs = []
      · refine stop ?_
        subst e
        rcases hx with hx | rfl
        · cases q <;> simp [rwD, hx]
        · by_cases hx : x % 3 = 0
          · cases q <;> simp [rwD, hx]
          · cases q <;> simp [rwD, hx]
      · have h1 : ¬ x % 3 = 0 := fun z => hx (.inl z)
        obtain ⟨y, ys, rfl⟩ : ∃ y ys, xs = y :: ys := by
          cases xs with
          | nil => exact absurd (.inr rfl) hx
          | cons y ys => exact ⟨y, ys, rfl⟩
        have hlen : 1 ≤ rs.length ∧ rs.length ≤ 64 := by cases q <;> omega
        have hpos : (0 : Int) < (rs.length : Int) := by omega
        obtain ⟨i, hi, hil⟩ : ∃ i : Nat, x / 3 % (rs.length : Int) = (i : Int) ∧ i < rs.length := by
          have h1 := Int.emod_nonneg (x / 3) (b := (rs.length : Int)) (by omega)
          have h2 := Int.emod_lt_of_pos (x / 3) hpos
          exact ⟨(x / 3 % (rs.length : Int)).toNat, by omega, by omega⟩
        have hmod := modF_pos (a := x / 3) hpos
        rw [hi] at hmod
        obtain ⟨d2, e2, t2⟩ := put_ok hB n rs[i].2 (hr rs[i] (List.getElem_mem hil)) m y ys (by simp at hm; omega) (by simp at hl; omega)
        have hset : (rs.map fun r => PyData.tuple [r.1, r.2]).set i (.tuple [rs[i].1, d2]) = (rs.set i (rs[i].1, d2)).map fun r => .tuple [r.1, r.2] := by rw [List.map_set]
        have hsame : (rs.set i (rs[i].1, d2)).map (·.1) = rs.map (·.1) := by
          rw [List.map_set]
          show (rs.map (·.1)).set i rs[i].1 = _
          refine List.ext_getElem? fun j => ?_
          by_cases hj : i = j
          · subst hj
            rw [List.getElem?_set_self (by simpa using hil)]
            simp [hil]
          · rw [List.getElem?_set_ne hj]
        have a1 : atI (rs.map fun r => PyData.tuple [r.1, r.2]) (i : Int) = some (.tuple [rs[i].1, rs[i].2]) := by rw [atI_of (by simpa using hil)]; simp
        have hix : ixN (rs.map fun r => PyData.tuple [r.1, r.2]).length (i : Int) = some i := ixN_of (by simpa using hil)
        have hcut : cutD ((x :: y :: ys).map PyData.int) (some 1) none = (y :: ys).map PyData.int := by rw [cutD_from (by decide)]; rfl
        refine ⟨rwD hd (rs.set i (rs[i].1, d2)), ?_, ?_⟩
        · rw [put_eq]
          subst e
          unfold b__law_put
          have hR : ixF (rwD hd rs) (.int (-1)) = .ok (.val (.tuple (rs.map fun r => .tuple [r.1, r.2]))) := by cases q <;> simp [rwD]
          have hC : slF (rwD hd rs) none (some (-1)) = .ok (.val (.tuple hd)) := by cases q <;> rfl
          have hh : hd.length ≤ 3 := by cases q <;> simp
          have hfin : addF (.tuple hd) (.tuple [.tuple ((rs.set i (rs[i].1, d2)).map fun r => .tuple [r.1, r.2])]) = .ok (.val (rwD hd (rs.set i (rs[i].1, d2)))) := addF_tup (by simp; omega)
          have hne : mOr (mTest (mB eqF (mR (mB ixF (mR (mVar 0)) (mR (mC (.int 0))))) (mR (mC (.str "end"))))) (mOr (mTest (mB eqF (mR (mB modF (mR (mB ixF (mR (mVar 1)) (mR (mC (.int 0))))) (mR (mC (.int 3))))) (mR (mC (.int 0))))) (mTest (mB eqF (mR (mBi lenF (mCons (mR (mVar 1)) mNil))) (mR (mC (.int 1)))))) [some (.val (rwD hd rs)), some (.val (.list ((x :: y :: ys).map PyData.int))), some (.val B), none, none] = .ok false := by
            have hy : ¬ (ys.length : Int) + 1 + 1 = 1 := by omega
            cases q <;> simp [rwD, h1, hy]
          have hRl : (rs.map fun r => PyData.tuple [r.1, r.2]).length = rs.length := by simp
          generalize rwD hd rs = D at *
          generalize (rs.map fun r => PyData.tuple [r.1, r.2]) = RS at *
          rw [← hRl] at hmod
          rw [seq_nx (by rw [mIf_ap, hne, out_ok', if_neg (by decide)]; rfl)]
          rw [seq_nx (δ' := [some (.val D), some (.val (.list ((x :: y :: ys).map PyData.int))), some (.val B), some (.own (.list RS)), none]) (by simp [hR])]
          rw [seq_nx (δ' := [some (.val D), some (.val (.list ((x :: y :: ys).map PyData.int))), some (.val B), some (.own (.list RS)), some (.val (.int (i : Int)))]) (by simp [hmod])]
          rw [seq_nx (δ' := [some (.val D), some (.val (.list ((x :: y :: ys).map PyData.int))), some (.val B), some (.own (.list (RS.set i (.tuple [rs[i].1, d2])))), some (.val (.int (i : Int)))]) (by
            simp only [List.map_cons] at hcut e2 ⊢
            simp [a1, e2, hcut, hix, fits_of])]
          rw [hset]
          generalize rwD hd (rs.set i (rs[i].1, d2)) = D2 at *
          generalize ((rs.set i (rs[i].1, d2)).map fun r => PyData.tuple [r.1, r.2]) = RS2 at *
          simp [hC, hfin, fits_of]
        · subst e
          have hg := fun r hr' => GmD.thg (hr r hr')
          have hall : ∀ r ∈ rs.set i (rs[i].1, d2), fitF (n + 1 + kb) r.2 = true := fun r hr' => by
            rcases List.mem_or_eq_of_mem_set hr' with h | rfl
            · have := (hg r h).mono (m := n + 1 + kb) (k' := 5 * n + 4 + db) (by omega) (Nat.le_refl _) (by omega)
              exact this.fit
            · exact t2.fit
          have hfalse : ((rs.set i (rs[i].1, d2)).all fun r => isGameF (n + 1 + kb) r.2) = false := by
            rw [List.all_eq_false]
            refine ⟨(rs[i].1, d2), List.mem_iff_getElem.mpr ⟨i, by simpa using hil, by simp⟩, ?_⟩
            rw [t2.is]
            decide
          have hsum : ((rs.set i (rs[i].1, d2)).map fun r => nodesF (n + 1 + kb) r.2).sum ≤ (rs.map fun r => nodesF (n + 1) r.2).sum + cb := by
            have e1 : (rs.map fun r => nodesF (n + 1) r.2) = rs.map fun r => nodesF (n + 1 + kb) r.2 := List.map_congr_left fun r hr' => ((fit_mono (m := n + 1 + kb) (by omega) (hg r hr').fit).2.2).symm
            rw [e1]
            refine sum_set (f := fun r => nodesF (n + 1 + kb) r.2) hil ?_
            have := (fit_mono (m := n + 1 + kb) (by omega) (hg rs[i] (List.getElem_mem hil)).fit).2.2
            show nodesF (n + 1 + kb) d2 ≤ nodesF (n + 1 + kb) rs[i].2 + cb
            rw [this]
            exact t2.few
          have ht := thg_rows (q.same hsame) (n := n + 1 + kb) (k := 5 * n + 4 + db) (b := false) (by omega) hall hfalse hsum
          have en : nodesF (n + 1 + 1) (rwD hd rs) = 1 + (rs.map fun r => nodesF (n + 1) r.2).sum := by
            obtain ⟨p1, _, p3⟩ := q.place
            show 1 + (if isPlaceB (rwD hd rs) = true then ((partsB (rwD hd rs)).map (nodesF (n + 1))).sum else 0) = _
            rw [if_pos p1, p3, List.map_map]
            rfl
          exact ht.mono (by omega) (by rw [en]; omega) (by omega)
/-! names, fractions, words -/
theorem sgnB_all : ∀ i, i < 36 → sgnB ((tl S36).getD i 0) = true := by decide +kernel
theorem nameS_len (is : List Nat) : (nameS is).length = is.length := by rw [len_tl, tl_nameS, List.length_map]
theorem nameS_is {is : List Nat} (h1 : 1 ≤ is.length) (h2 : is.length ≤ 8) (h : ∀ i ∈ is, i < 36) : isNameB (.str (nameS is)) = true := by
  simp only [isNameB, nameS_len, Bool.and_eq_true, decide_eq_true_eq]
  refine ⟨⟨h1, h2⟩, ?_⟩
  rw [tl_nameS]
  refine List.all_eq_true.mpr fun c hc => ?_
  obtain ⟨i, hi, rfl⟩ := List.mem_map.mp hc
  exact sgnB_all i (h i hi)
theorem name6 (x : Int) : ∃ is : List Nat, 1 ≤ is.length ∧ is.length ≤ 8 ∧ (∀ i ∈ is, i < 36) ∧ d__law_name [.val (.int x)] = .ok (.val (.str (nameS is))) := by
  obtain ⟨k, hk, hk0, hk2⟩ : ∃ k : Nat, 1 + x % 8 = (k : Int) ∧ 1 ≤ k ∧ k ≤ 8 := ⟨(1 + x % 8).toNat, by omega, by omega, by omega⟩
  let f : Nat → Nat := fun j => ((x / ((j : Int) + 1) + (j : Int) * (j : Int) * 5) % 36).toNat
  have hf : ∀ j : Nat, ((x / ((j : Int) + 1) + (j : Int) * (j : Int) * 5) % 36) = ((f j : Nat) : Int) ∧ f j < 36 := fun j => by
    have h1 := Int.emod_nonneg (x / ((j : Int) + 1) + (j : Int) * (j : Int) * 5) (b := 36) (by decide)
    have h2 := Int.emod_lt_of_pos (x / ((j : Int) + 1) + (j : Int) * (j : Int) * 5) (b := 36) (by decide)
    exact ⟨(Int.toNat_of_nonneg h1).symm, by show (_ : Int).toNat < 36; omega⟩
  refine ⟨(List.range k).map f, by simpa using hk0, by simpa using hk2, fun i hi => ?_, ?_⟩
  · obtain ⟨j, _, rfl⟩ := List.mem_map.mp hi
    exact (hf j).2
  have ec := name_comp (g := mgN 2) (m := mV (mB ixF (mR (mVar 1)) (mR (mB modF (mR (mB addF (mR (mB divF (mR (mVar 0)) (mR (mB addF (mR (mVar 2)) (mR (mC (.int 1))))))) (mR (mB mulF (mR (mB mulF (mR (mVar 2)) (mR (mVar 2)))) (mR (mC (.int 5))))))) (mR (mC (.int 36))))))) (δ := [some (.val (.int x)), some (.val (.str S36)), none]) (k := k) f fun j hj => ⟨_, rfl, by
    have a1 : -18446744073709551616 < (j : Int) := by omega
    have a2 : (j : Int) < 18446744073709551616 := by omega
    have a3 : 0 < (j : Int) + 1 := by omega
    have a4 : (j : Int) + 1 < 18446744073709551616 := by omega
    have hx := (hf j).1
    have hs := sgn_at (hf j).2
    simp [a1, a2, a3, a4, hx, hs]⟩
  have e1 : rng1 [.int (k : Int)] = .ok (rng 0 k) := rng1_simp (by omega)
  have e2 : fits (rng 0 k) = true := fits_of (by simp [rng]; omega)
  have ej := join_sgn (is := (List.range k).map f) (by simp; omega)
  generalize (List.range k).map f = is at ec ej
  generalize (is.map fun i => PyData.str (sgn i)) = ds at ec ej
  simp [d__law_name, mDef, b__law_name, start0, hk, e1, e2, ec, ej]
def NmS (z : Str) : Prop := isNameB (.str z) = true ∧ PyData.strOk z = true
theorem nm6 (x : Int) : ∃ z, NmS z ∧ d__law_name [.val (.int x)] = .ok (.val (.str z)) := by
  obtain ⟨is, h1, h2, h3, e⟩ := name6 x
  exact ⟨_, ⟨nameS_is h1 h2 h3, nameS_ok is⟩, e⟩
def RtD (d : PyData) : Prop := ratioB d = true ∧ d.canLay0 = true ∧ d.depth ≤ 2
theorem rtD_two {t b : Int} (h : 1 ≤ b ∧ Int.gcd t b = 1) : RtD (.tuple [.int t, .int b]) := ⟨decide_eq_true h, by simp [PyData.canLay0, PyData.canLayAll0], by simp [PyData.depth, PyData.depthAll]⟩
theorem ratio6 (x : Int) : ∃ d, RtD d ∧ d__law_ratio [.val (.int x)] = .ok (.val d) := by
  by_cases h1 : x % 4 = 3
  · exact ⟨_, rtD_two (t := 0 - 10 ^ 24 - x) (b := 1) ⟨by decide, by simp⟩, by simp [d__law_ratio, mDef, b__law_ratio, start0, h1, fits_of]⟩
  · by_cases h2 : x % 4 = 2
    · refine ⟨_, rtD_two (t := 2 * (x / 4 % 20) - 19) (b := 2) ⟨by decide, ?_⟩, by simp [d__law_ratio, mDef, b__law_ratio, start0, h1, h2, fits_of]⟩
      obtain ⟨k, hk⟩ : ∃ k, 2 * (x / 4 % 20) - 19 = 1 + 2 * k := ⟨x / 4 % 20 - 10, by omega⟩
      rw [hk]
      simp
    · exact ⟨_, rtD_two (t := x / 4 % 17 - 8) (b := 1) ⟨by decide, by simp⟩, by simp [d__law_ratio, mDef, b__law_ratio, start0, h1, h2, fits_of]⟩
theorem in_texts {n : Bool} {w : Str} {ws : List Str} (hw : PyData.strOk w = true) (hs : ∀ z ∈ ws, PyData.strOk z = true) : inF n (.str w) (.list (ws.map PyData.str)) = .ok (.val (.bool (n != decide (w ∈ ws)))) := by
  have A := Gm.can_all (xs := ws.map PyData.str) (k := 1) fun x hx => by
    obtain ⟨z, hz, rfl⟩ := List.mem_map.mp hx
    exact ⟨by simpa [PyData.canLay0] using hs z hz, by simp [PyData.depth]⟩
  have h2 : SeqAt.shaped (.list (ws.map PyData.str)) = true := by
    have := A.2
    simp [SeqAt.shaped, PyData.canLay0, A.1, PyData.depth]
    omega
  show (if SeqAt.shaped (.str w) = true ∧ SeqAt.shaped (.list (ws.map PyData.str)) = true then okB (n != (ws.map PyData.str).any fun z => PyData.eqv z (.str w)) else .stuck) = _
  rw [if_pos ⟨shaped_str hw, h2⟩, List.any_map]
  have e : (ws.any ((fun z => PyData.eqv z (.str w)) ∘ PyData.str)) = decide (w ∈ ws) := by
    rw [Bool.eq_iff_iff, List.any_eq_true, decide_eq_true_eq]
    have ee : ∀ z : Str, PyData.eqv (.str z) (.str w) = (z == w) := fun z => rfl
    refine ⟨fun ⟨z, hz, q⟩ => ?_, fun hz => ⟨w, hz, ?_⟩⟩
    · have q' : (z == w) = true := by rw [← ee]; exact q
      have : z = w := by simpa using q'
      rw [← this]; exact hz
    · show PyData.eqv (.str w) (.str w) = true
      rw [ee]; simp
  rw [e]
  rfl
theorem wk_ok : ∀ k : Nat, k < 6 → NmS ("w" ++ iS (k : Int)) := by
  intro k hk
  have : k = 0 ∨ k = 1 ∨ k = 2 ∨ k = 3 ∨ k = 4 ∨ k = 5 := by omega
  rcases this with rfl | rfl | rfl | rfl | rfl | rfl <;> exact ⟨by decide +kernel, by decide +kernel⟩
theorem words6 (x : Int) (m : Nat) (h1 : 1 ≤ m) (h6 : m ≤ 6) : ∃ ws : List Str, d__law_words [.val (.int x), .val (.int (m : Int))] = .ok (.own (.list (ws.map PyData.str))) ∧ 1 ≤ ws.length ∧ ws.length ≤ 6 ∧ ws.Nodup ∧ ∀ w ∈ ws, NmS w := by
  have F1 := for_rng (g := mgN 3) (it := mRng1 (mCons (mV (mVar 1)) mNil)) (b := L__law_words_1) m (fun i δ => ∃ (ws : List Str) (o3 o4 : Option DL.Slot), δ = [some (.val (.int x)), some (.val (.int (m : Int))), some (.own (.list (ws.map PyData.str))), o3, o4] ∧ ws.length ≤ i ∧ (1 ≤ i → 1 ≤ ws.length) ∧ ws.Nodup ∧ ∀ w ∈ ws, NmS w) (δ := [some (.val (.int x)), some (.val (.int (m : Int))), some (.own (.list [])), none, none]) (by simp; exact rng1_simp (n := m) (by omega)) (by
    rintro i hi δ ⟨ws, o3, o4, rfl, l1, l2, nd, hw⟩
    refine ⟨_, rfl, ?_⟩
    obtain ⟨z, hz, ez⟩ := nm6 (x / ((i : Int) + 1) + 11 * (i : Int))
    have a1 : -18446744073709551616 < (i : Int) := by omega
    have a2 : (i : Int) < 18446744073709551616 := by omega
    have a3 : 0 < (i : Int) + 1 := by omega
    have a4 : (i : Int) + 1 < 18446744073709551616 := by omega
    have hs : ∀ z ∈ ws, PyData.strOk z = true := fun z hz => (hw z hz).2
    have hin := fun n => in_texts (n := n) hz.2 hs
    have hlz : ws.length < sizeLine := lt_sizeLine (by omega)
    unfold L__law_words_1
    rw [show [some (Slot.val (.int x)), some (.val (.int (m : Int))), some (.own (.list (ws.map PyData.str))), o3, o4].set 3 (some (.val (.int (i : Int)))) = [some (Slot.val (.int x)), some (.val (.int (m : Int))), some (.own (.list (ws.map PyData.str))), some (.val (.int (i : Int))), o4] from rfl]
    rw [seq_nx (δ' := [some (.val (.int x)), some (.val (.int (m : Int))), some (.own (.list (ws.map PyData.str))), some (.val (.int (i : Int))), some (.val (.str z))]) (by simp [a1, a2, a3, a4, ez])]
    by_cases hm : z ∈ ws
    · have sb := strF_iS (i := (i : Int)) (Nat.lt_trans (log2_lt (k := 3) (by decide) (by omega)) (by decide))
      have lb : (iS (i : Int)).length ≤ 3 := len_int (k := 2) (by decide) (by omega)
      have ab := addF_str (x := ("w" : Str)) (y := iS (i : Int)) (by
        have : ("w" : Str).length = 1 := by decide
        omega)
      have hwk := wk_ok i (by omega)
      generalize ("w" : Str) ++ iS (i : Int) = wk at ab hwk
      have hin2 := fun n => in_texts (n := n) hwk.2 hs
      rw [seq_nx (δ' := [some (.val (.int x)), some (.val (.int (m : Int))), some (.own (.list (ws.map PyData.str))), some (.val (.int (i : Int))), some (.val (.str wk))]) (by simp [hin, hm, sb, ab])]
      by_cases hm2 : wk ∈ ws
      · exact ⟨[some (.val (.int x)), some (.val (.int (m : Int))), some (.own (.list (ws.map PyData.str))), some (.val (.int (i : Int))), some (.val (.str wk))], by simp [hin2, hm2], ws, _, _, rfl, by omega, fun _ => by
          cases ws with
          | nil => cases hm
          | cons _ _ => simp, nd, hw⟩
      · refine ⟨[some (.val (.int x)), some (.val (.int (m : Int))), some (.own (.list ((ws ++ [wk]).map PyData.str))), some (.val (.int (i : Int))), some (.val (.str wk))], by simp [hin2, hm2, frz, hlz], ws ++ [wk], _, _, rfl, by simp; omega, fun _ => by simp, ?_, ?_⟩
        · rw [List.nodup_append]
          exact ⟨nd, by simp, fun a ha b hb z => by
            rw [List.mem_singleton] at hb
            subst hb z
            exact hm2 ha⟩
        · intro w hw'
          rcases List.mem_append.mp hw' with h | h
          · exact hw w h
          · rw [List.mem_singleton.mp h]; exact hwk
    · rw [seq_nx (δ' := [some (.val (.int x)), some (.val (.int (m : Int))), some (.own (.list (ws.map PyData.str))), some (.val (.int (i : Int))), some (.val (.str z))]) (by simp [hin, hm])]
      refine ⟨[some (.val (.int x)), some (.val (.int (m : Int))), some (.own (.list ((ws ++ [z]).map PyData.str))), some (.val (.int (i : Int))), some (.val (.str z))], by simp [hin, hm, frz, hlz], ws ++ [z], _, _, rfl, by simp; omega, fun _ => by simp, ?_, ?_⟩
      · rw [List.nodup_append]
        exact ⟨nd, by simp, fun a ha b hb q => by
          rw [List.mem_singleton] at hb
          subst hb q
          exact hm ha⟩
      · intro w hw'
        rcases List.mem_append.mp hw' with h | h
        · exact hw w h
        · rw [List.mem_singleton.mp h]; exact hz) ⟨[], none, none, rfl, by simp, fun h => absurd h (by decide), by simp, by simp⟩
  obtain ⟨δ1, e1, ws, o3, o4, rfl, l1, l2, nd, hw⟩ := F1
  refine ⟨ws, ?_, l2 h1, by omega, nd, hw⟩
  have e0 : d__law_words [.val (.int x), .val (.int (m : Int))] = (b__law_words [some (.val (.int x)), some (.val (.int (m : Int))), none, none, none]).res := rfl
  rw [e0]
  unfold b__law_words
  rw [seq_nx (δ' := [some (.val (.int x)), some (.val (.int (m : Int))), some (.own (.list [])), none, none]) (by simp), seq_nx e1]
  simp
/-! grown -/
def cN : Nat → Nat
  | 0 => 1
  | n + 1 => 1 + 6 * cN n
theorem cN_pos : ∀ n, 1 ≤ cN n
  | 0 => Nat.le_refl 1
  | n + 1 => by show 1 ≤ 1 + _; omega
def Gw (n : Nat) (d : PyData) : Prop := GmD n d ∧ nodesF (n + 1) d ≤ cN n
theorem endD_of {q : PyData} (h : RtD q) : EndD (.tuple [.str "end", q]) := ⟨q, rfl, h.1, h.2.1, h.2.2⟩
theorem gw_end {q : PyData} (h : RtD q) (n : Nat) : Gw n (.tuple [.str "end", q]) := by
  refine ⟨(endD_of h).gm n, ?_⟩
  have t := EndD.thg (endD_of h)
  have := (fit_mono (m := n + 1) (by omega) t.fit).2.2
  rw [this]
  exact Nat.le_trans t.few (cN_pos n)
theorem gw_rows {n : Nat} {h : List PyData} {rs : Rw} (q : Hd h rs) (hl : rs.length ≤ 6) (hr : ∀ r ∈ rs, Gw n r.2) : Gw (n + 1) (rwD h rs) := by
  refine ⟨.inr ⟨h, rs, rfl, q, fun r hr' => (hr r hr').1⟩, ?_⟩
  obtain ⟨p1, _, p3⟩ := q.place
  show 1 + (if isPlaceB (rwD h rs) = true then ((partsB (rwD h rs)).map (nodesF (n + 1))).sum else 0) ≤ 1 + 6 * cN n
  rw [if_pos p1, p3, List.map_map]
  have a := sum_map_le (f := nodesF (n + 1) ∘ fun r : PyData × PyData => r.2) (c := cN n) (xs := rs) fun r hr' => (hr r hr').2
  have b : rs.length * cN n ≤ 6 * cN n := Nat.mul_le_mul_right _ hl
  omega
theorem parts6 {m : FM} {n : Nat} {deep : Int} (rec : ∀ xs : List Int, ∃ (d : PyData) (ys : List Int), m [.own (.list (xs.map PyData.int)), .val (.int (deep - 1))] = .ok (.val d) (.own (.list (ys.map PyData.int))) ∧ Gw n d)
    {i : Nat} {em : MM} {δ0 : List Int → DEnv} (hset : ∀ xs ys : List Int, ∀ v, wipeD (((δ0 xs).set i (some (.val v))).set 0 (some (.own (.list (ys.map PyData.int))))) [i] = δ0 ys)
    (he : ∀ (v : PyData) (xs : List Int) (d : PyData) (ys : List Int), m [.own (.list (xs.map PyData.int)), .val (.int (deep - 1))] = .ok (.val d) (.own (.list (ys.map PyData.int))) → em ((δ0 xs).set i (some (.val v))) = .ok (.val (.tuple [v, d])) (((δ0 xs).set i (some (.val v))).set 0 (some (.own (.list (ys.map PyData.int)))))) :
    ∀ (vs : List PyData) (xs : List Int), ∃ (rs : Rw) (ys : List Int), rs.map (·.1) = vs ∧ (∀ r ∈ rs, Gw n r.2) ∧ compM (mgN i) em [i] vs (δ0 xs) = .ok (rs.map fun r => .tuple [r.1, r.2]) (δ0 ys)
  | [], xs => ⟨[], xs, rfl, by simp, rfl⟩
  | v :: vs, xs => by
    obtain ⟨g, ys, h1, h2⟩ := rec xs
    obtain ⟨rs, zs, g1, g2, g3⟩ := parts6 rec hset he vs ys
    refine ⟨(v, g) :: rs, zs, by simp [g1], ?_, ?_⟩
    · intro w hw
      rcases List.mem_cons.mp hw with rfl | hw
      · exact h2
      · exact g2 w hw
    · exact compM_ok rfl (he v xs g ys h1) rfl (by rw [hset]; exact g3)
theorem pop_ok (xs : List Int) (D : PyData) : ∃ (x : Int) (ys : List Int), mSeq (mAsg 2 (mC (.int 0))) (mIf (mTest (mB gtF (mR (mBi lenF (mCons (mR (mVar 0)) mNil))) (mR (mC (.int 0))))) (mPopG 0 (mgN 2)) mNext) [some (.own (.list (xs.map PyData.int))), some (.val D), none, none, none, none, none, none, none] = .nx [some (.own (.list (ys.map PyData.int))), some (.val D), some (.val (.int x)), none, none, none, none, none, none] := by
  rcases List.eq_nil_or_concat xs with rfl | ⟨zs, x, rfl⟩
  · exact ⟨0, [], by simp⟩
  · have hp : 0 < (zs.length : Int) + 1 := by omega
    refine ⟨x, zs, ?_⟩
    simp [hp, mPopG, popD, tgtO]
theorem grown_eq (n : Nat) (xs : List Int) (D : PyData) : d__law_grown (n + 1) [.own (.list (xs.map PyData.int)), .val D] = (b__law_grown (d__law_grown n) [some (.own (.list (xs.map PyData.int))), some (.val D), none, none, none, none, none, none, none]).resM 0 := rfl
def R64 : Rw := (List.range 64).map fun i : Nat => (.tuple [.int 1, .int 64], .tuple [.str "end", .tuple [.int (0 + (i : Int)), .int 1]])
theorem comp64 {δ : DEnv} (hδ : 6 < δ.length) : compR (mgN 6) mYes (mV (mTup (mCons (mV (mTup (mCons (mV (mC (.int 1))) (mCons (mV (mC (.int 64))) mNil)))) (mCons (mV (mTup (mCons (mV (mC (.str "end"))) (mCons (mV (mTup (mCons (mV (mVar 6)) (mCons (mV (mC (.int 1))) mNil)))) mNil)))) mNil)))) δ (rng 0 64) = .ok (R64.map fun r => .tuple [r.1, r.2]) := by
  rw [R64, List.map_map]
  refine compR_map fun i hi => ⟨_, rfl, rfl, ?_⟩
  simp [hδ, fits_of]
theorem gw64 {nm : Str} (h : NmS nm) : Gw 5 (rwD [.str "deal", .str nm] R64) := by
  have q : Hd [.str "deal", .str nm] R64 := .deal nm R64 h.2 h.1 (by simp [R64]) (by simp [R64]) fun r hr => by
    obtain ⟨i, _, rfl⟩ := List.mem_map.mp hr
    exact rtD_two ⟨by decide, by decide⟩
  have hr : ∀ r ∈ R64, EndD r.2 := fun r hr => by
    obtain ⟨i, _, rfl⟩ := List.mem_map.mp hr
    exact endD_of (rtD_two ⟨by decide, by simp⟩)
  refine ⟨.inr ⟨_, R64, rfl, q, fun r hr' => (hr r hr').gm 4⟩, ?_⟩
  obtain ⟨p1, _, p3⟩ := q.place
  show 1 + (if isPlaceB (rwD [.str "deal", .str nm] R64) = true then ((partsB (rwD [.str "deal", .str nm] R64)).map (nodesF 5)).sum else 0) ≤ _
  rw [if_pos p1, p3, List.map_map]
  have a := sum_map_le (f := nodesF 5 ∘ fun r : PyData × PyData => r.2) (c := 1) (xs := R64) fun r hr' => by
    have t := EndD.thg (hr r hr')
    have := (fit_mono (m := 5) (by omega) t.fit).2.2
    show nodesF 5 r.2 ≤ 1
    rw [this]
    exact t.few
  have b : R64.length = 64 := by simp [R64]
  have c : cN 5 = 9331 := by decide
  omega
theorem grown_ok : ∀ (n : Nat), n ≤ 5 → ∀ (xs : List Int), ∃ (d : PyData) (ys : List Int), d__law_grown (n + 1) [.own (.list (xs.map PyData.int)), .val (.int (n : Int))] = .ok (.val d) (.own (.list (ys.map PyData.int))) ∧ Gw n d := by
  intro n
  induction n with
  | zero =>
    intro _ xs
    obtain ⟨x, ys, hp⟩ := pop_ok xs (.int ((0 : Nat) : Int))
    obtain ⟨q, hq, eq⟩ := ratio6 (x / 6)
    refine ⟨.tuple [.str "end", q], ys, ?_, gw_end hq _⟩
    rw [grown_eq]
    unfold b__law_grown
    rw [seq_seq, seq_nx hp]
    simp [eq, fits_of]
  | succ n ih =>
    intro hn xs
    obtain ⟨x, ys, hp⟩ := pop_ok xs (.int ((n + 1 : Nat) : Int))
    rw [grown_eq]
    unfold b__law_grown
    rw [seq_seq, seq_nx hp]
    have hd : ((n + 1 : Nat) : Int) ≠ 0 := by omega
    have hd5 : ((n + 1 : Nat) : Int) = 5 → n = 4 := by omega
    have hd1 : ((n + 1 : Nat) : Int) - 1 = (n : Int) := by omega
    have hrec : ∀ zs : List Int, ∃ (d : PyData) (ys : List Int), d__law_grown (n + 1) [.own (.list (zs.map PyData.int)), .val (.int (((n + 1 : Nat) : Int) - 1))] = .ok (.val d) (.own (.list (ys.map PyData.int))) ∧ Gw n d := by rw [hd1]; exact ih (by omega)
    generalize ((n + 1 : Nat) : Int) = deep at hd hd5 hrec
    generalize hm : d__law_grown (n + 1) = m at hrec
    by_cases hend : ys = [] ∨ x % 6 = 0
    · obtain ⟨q, hq, eq⟩ := ratio6 (x / 6)
      refine ⟨.tuple [.str "end", q], ys, ?_, gw_end hq _⟩
      rcases hend with rfl | h6
      · simp [eq, fits_of, hd]
      · by_cases hy : ys = []
        · subst hy; simp [eq, fits_of, hd]
        · simp [eq, fits_of, hd, h6, hy]
    · have hy : ¬ ys = [] := fun z => hend (.inl z)
      have h6 : ¬ x % 6 = 0 := fun z => hend (.inr z)
      rw [seq_nx (δ' := [some (.own (.list (ys.map PyData.int))), some (.val (.int deep)), some (.val (.int x)), none, none, none, none, none, none]) (by simp [hd, h6, hy])]
      by_cases h3 : x % 6 < 3
      · have i1 : mTest (mB ltF (mR (mB modF (mR (mVar 2)) (mR (mC (.int 6))))) (mR (mC (.int 3)))) [some (.own (.list (ys.map PyData.int))), some (.val (.int deep)), some (.val (.int x)), none, none, none, none, none, none] = .ok true := by simp [h3]
        by_cases h12 : deep = 5 ∧ x / 6 % 5 = 3
        · obtain ⟨nm, hok, hnm⟩ := nm6 x
          obtain rfl := hd5 h12.1
          refine ⟨rwD [.str "deal", .str nm] R64, ys, ?_, gw64 hok⟩
          have c := comp64 (δ := [some (.own (.list (ys.map PyData.int))), some (.val (.int deep)), some (.val (.int x)), none, none, none, none, none, none]) (by simp)
          have e1 : rng1 [.int 64] = .ok (rng 0 64) := rng1_simp (n := 64) (by decide)
          have e2 : fits (rng 0 64) = true := fits_of (by simp [rng])
          rw [h12.1] at c
          have hl : (R64.map fun r => PyData.tuple [r.1, r.2]).length = 64 := by simp [R64]
          rw [rwD]
          generalize (R64.map fun r => PyData.tuple [r.1, r.2]) = RS at c hl
          rw [seq_rt (s := .val (.tuple [.str "deal", .str nm, .tuple RS])) (δ' := [some (.own (.list (ys.map PyData.int))), some (.val (.int deep)), some (.val (.int x)), none, none, none, none, none, none]) (by
            rw [h12.1]
            simp [h3, h12.2, hnm, frz, e1, e2, c, fits_of, hl])]
          rfl
        · have i2 : mAnd (mTest (mB eqF (mR (mVar 1)) (mR (mC (.int 5))))) (mTest (mB eqF (mR (mB modF (mR (mB divF (mR (mVar 2)) (mR (mC (.int 6))))) (mR (mC (.int 5))))) (mR (mC (.int 3))))) [some (.own (.list (ys.map PyData.int))), some (.val (.int deep)), some (.val (.int x)), none, none, none, none, none, none] = .ok false := by
            by_cases h5 : deep = 5
            · have : ¬ x / 6 % 5 = 3 := fun z => h12 ⟨h5, z⟩
              simp [h5, this]
            · simp [h5]
          obtain ⟨nm, hok, hnm⟩ := nm6 (x / 2)
          obtain ⟨k, hk, hk0, hk2⟩ : ∃ k : Nat, 1 + x / 6 % 3 = (k : Int) ∧ 1 ≤ k ∧ k ≤ 3 := ⟨(1 + x / 6 % 3).toNat, by omega, by omega, by omega⟩
          have FR := fun j : Nat => ratio6 (x / ((j : Int) + 2))
          let sh : Nat → PyData := fun j => Classical.choose (FR j)
          have hsh : ∀ j, RtD (sh j) ∧ d__law_ratio [.val (.int (x / ((j : Int) + 2)))] = .ok (.val (sh j)) := fun j => Classical.choose_spec (FR j)
          have e1 : rng1 [.int (k : Int)] = .ok (rng 0 k) := rng1_simp (by omega)
          have e2 : fits (rng 0 k) = true := fits_of (by simp [rng]; omega)
          have c0 : compR (mgN 6) mYes (mV (mCall d__law_ratio (mACons (mB divF (mR (mVar 2)) (mR (mB addF (mR (mVar 6)) (mR (mC (.int 2)))))) mANil))) [some (.own (.list (ys.map PyData.int))), some (.val (.int deep)), some (.val (.int x)), none, none, none, none, none, none] (rng 0 k) = .ok ((List.range k).map sh) := by
            refine compR_map fun j hj => ⟨_, rfl, rfl, ?_⟩
            have hj' := List.mem_range.mp hj
            have a3 : 0 < (j : Int) + 2 := by omega
            have a4 : (j : Int) + 2 < 18446744073709551616 := by omega
            simp [a3, a4, (hsh j).2]
          have hds : ∀ v ∈ (List.range k).map sh, RtD v := fun v hv => by
            obtain ⟨j, _, rfl⟩ := List.mem_map.mp hv
            exact (hsh j).1
          have hdl : ((List.range k).map sh).length = k := by simp
          generalize (List.range k).map sh = ds at c0 hds hdl
          obtain ⟨rs, zs, g1, g2, g3⟩ := parts6 (i := 7) (em := emTup (emCons (emP (mVar 7)) (emCons (emCall 0 0 m (amLent 0 (amVal (mV (mB subF (mR (mVar 1)) (mR (mC (.int 1))))) mANil))) emNil)))
            (δ0 := fun xs => [some (.own (.list (xs.map PyData.int))), some (.val (.int deep)), some (.val (.int x)), some (.val (.list ds)), none, none, none, none, none]) hrec (by intro xs ys v; simp) (by intro v xs d ys h; simp [fits_of, h]) ds ys
          have c := emComp_of (it := miV 3) (δ := [some (.own (.list (ys.map PyData.int))), some (.val (.int deep)), some (.val (.int x)), some (.val (.list ds)), none, none, none, none, none]) (by simp) (fits_of (by omega)) (by simp [allOff]) g3
          have hrl : rs.length = k := by rw [← List.length_map (f := (·.1)), g1, hdl]
          refine ⟨rwD [.str "deal", .str nm] rs, zs, ?_, gw_rows (.deal nm rs hok.2 hok.1 (by omega) (by omega) fun r hr => hds r.1 (by rw [← g1]; exact List.mem_map.mpr ⟨r, hr, rfl⟩)) (by omega) g2⟩
          have hfw : (rs.map fun r => PyData.tuple [r.1, r.2]).length ≤ 10000 := by simp; omega
          rw [rwD]
          generalize (rs.map fun r => PyData.tuple [r.1, r.2]) = RS at c hfw
          rw [seq_rt (s := .val (.tuple [.str "deal", .str nm, .tuple RS])) (δ' := [some (.own (.list (zs.map PyData.int))), some (.val (.int deep)), some (.val (.int x)), some (.val (.list ds)), none, none, none, none, none]) (by
            rw [mIf_ap, i1, out_ok', if_pos rfl, seq_nx (by rw [mIf_ap, i2, out_ok', if_neg (by decide)]; rfl), seq_nx (δ' := [some (.own (.list (ys.map PyData.int))), some (.val (.int deep)), some (.val (.int x)), some (.own (.list ds)), none, none, none, none, none]) (by simp [hk, e1, e2, c0]), mFrz_ap]
            simp [frz, hnm, c, hfw, fits_of])]
          rfl
      · obtain ⟨nm, hok, hnm⟩ := nm6 (x / 5)
        have i1 : mTest (mB ltF (mR (mB modF (mR (mVar 2)) (mR (mC (.int 6))))) (mR (mC (.int 3)))) [some (.own (.list (ys.map PyData.int))), some (.val (.int deep)), some (.val (.int x)), none, none, none, none, none, none] = .ok false := by simp [h3]
        obtain ⟨b, hb, hb2⟩ : ∃ b : Bool, (x / 18 % 5 == 1) = b ∧ (if b = true then (1 : Int) else 0) ≤ 1 := ⟨_, rfl, by split <;> decide⟩
        have hint : intSF [.bool b] = .ok (.val (.int (if b = true then 1 else 0))) := rfl
        have hb0 : (0 : Int) ≤ (if b = true then (1 : Int) else 0) := by split <;> decide
        generalize (if b = true then (1 : Int) else 0) = t at hb2 hint hb0
        obtain ⟨k, hk, hk0, hk2⟩ : ∃ k : Nat, 1 + x / 6 % 3 + 3 * t = (k : Int) ∧ 1 ≤ k ∧ k ≤ 6 := ⟨(1 + x / 6 % 3 + 3 * t).toNat, by omega, by omega, by omega⟩
        obtain ⟨ws, ew, w1, w2, w3, w4⟩ := words6 (x / 7) k hk0 hk2
        obtain ⟨rs, zs, g1, g2, g3⟩ := parts6 (i := 8) (em := emTup (emCons (emP (mVar 8)) (emCons (emCall 0 0 m (amLent 0 (amVal (mV (mB subF (mR (mVar 1)) (mR (mC (.int 1))))) mANil))) emNil)))
          (δ0 := fun xs => [some (.own (.list (xs.map PyData.int))), some (.val (.int deep)), some (.val (.int x)), none, some (.val (.list (ws.map PyData.str))), none, none, none, none]) hrec (by intro xs ys v; simp) (by intro v xs d ys h; simp [fits_of, h]) (ws.map PyData.str) ys
        have c := emComp_of (it := miV 4) (δ := [some (.own (.list (ys.map PyData.int))), some (.val (.int deep)), some (.val (.int x)), none, some (.val (.list (ws.map PyData.str))), none, none, none, none]) (by simp) (fits_of (by simp; omega)) (by simp [allOff]) g3
        have hrl : rs.length = ws.length := by rw [← List.length_map (f := (·.1)), g1, List.length_map]
        refine ⟨rwD [.str "move", .int (1 + x / 3 % 2), .str nm] rs, zs, ?_, gw_rows (.move (1 + x / 3 % 2) nm rs ws (by omega) hok.2 hok.1 (by omega) (by omega) g1 w4 w3) (by omega) g2⟩
        have hfw : (rs.map fun r => PyData.tuple [r.1, r.2]).length ≤ 10000 := by simp; omega
        rw [rwD]
        generalize (rs.map fun r => PyData.tuple [r.1, r.2]) = RS at c hfw
        rw [seq_nx (by rw [mIf_ap, i1, out_ok', if_neg (by decide)]; rfl)]
        rw [seq_nx (δ' := [some (.own (.list (ys.map PyData.int))), some (.val (.int deep)), some (.val (.int x)), none, some (.own (.list (ws.map PyData.str))), none, none, none, none]) (by simp [hb, hint, hk, ew])]
        rw [seq_nx (δ' := [some (.own (.list (zs.map PyData.int))), some (.val (.int deep)), some (.val (.int x)), none, some (.val (.list (ws.map PyData.str))), some (.val (.tuple RS)), none, none, none]) (by rw [mFrz_ap]; simp [frz, c])]
        simp [hnm, fits_of]
abbrev e11 : PyData := .tuple [.str "end", .tuple [.int 1, .int 1]]
def w7 : List PyData := (List.range 7).map fun k : Nat => .tuple [.str ("a" ++ iS (k : Int)), e11]
def spoilL : List PyData := [.tuple [.str "end", .tuple [.int 2, .int 4]], .tuple [.str "end", .tuple [.int 1, .int 0]], .tuple [.str "end", .list [.int 1, .int 1]], .tuple [.str "end", .int 1], .tuple [.str "end"], .list [.str "end", .tuple [.int 1, .int 1]], .tuple [.str "fin", .tuple [.int 1, .int 1]], .tuple [.str "deal", .str "d", .tuple []], .tuple [.str "deal", .str "D", .tuple [.tuple [.tuple [.int 1, .int 1], e11]]], .tuple [.str "deal", .str "d", .list [.tuple [.tuple [.int 1, .int 1], e11]]], .tuple [.str "deal", .str "d", .tuple [.tuple [.int 1, e11]]], .tuple [.str "end", .tuple [.int 1, .int 1], .int 1], .tuple [.str "deal", .str "d", .tuple [.tuple [.tuple [.int 1, .int 1], e11]], .int 1], .tuple [.str "deal", .str "d", .tuple [.list [.tuple [.int 1, .int 1], e11]]], .tuple [.str "deal", .str "d", .tuple [.tuple [.tuple [.int 1, .int 1], e11, e11]]], .tuple [.str "deal", .str "d", .tuple (List.replicate 65 (.tuple [.tuple [.int 1, .int 65], e11]))], .tuple [.str "deal", .str "d"], .tuple [.str "move", .int 3, .str "s", .tuple [.tuple [.str "a", e11]]], .tuple [.str "move", .bool true, .str "s", .tuple [.tuple [.str "a", e11]]], .none, .str "end 1", .tuple [.str "move", .int 1, .str "s", .tuple [.tuple [.str "a", e11], .tuple [.str "a", e11]]], .tuple [.str "move", .int 1, .str "s", .tuple w7], .tuple [.str "move", .int 1, .str "abcdefghi", .tuple [.tuple [.str "a", e11]]], .tuple [.str "move", .int 2, .str "s", .tuple [.tuple [.str "", e11]]], .tuple [.str "move", .int 2, .str "s", .tuple []], .tuple [.str "move", .int 1, .str "s", .tuple [.tuple [.str "a", e11]], .int 1], .tuple [.str "move", .int 1, .str "s", .list [.tuple [.str "a", e11]]], .tuple [.str "move", .int 1, .none, .tuple [.tuple [.str "a", e11]]], .tuple [.str "move", .int 1, .str "s", .tuple [.tuple [.int 5, e11]]], .tuple [.str "move", .str "1", .str "s", .tuple [.tuple [.str "a", e11]]], .tuple [.str "move", .int 1, .str "s", .tuple [.list [.str "a", e11]]], .tuple [.str "deal", .str "d", .tuple [.tuple [.tuple [.int 2, .int 4], e11]]], .tuple [.str "deal", .str "d", .tuple [.tuple [.tuple [.int 1, .int 0], e11]]], .tuple [.str "move", .int 1, .str "s", .tuple [.tuple [.str "a", e11], .tuple [.str "b", e11], .tuple [.str "a", e11]]], .tuple [.str "move", .int 0, .str "s", .tuple [.tuple [.str "a", e11]]]]
def oddD : List PyData := [.tuple [.tuple [.int 2, .int 4], e11], .tuple [.tuple [.int 1, .int 0], e11], .tuple [.list [.int 1, .int 2], e11], .tuple [.bool true, e11], .tuple [.str "a", e11], .tuple [.none, e11], .tuple [.tuple [.int 1, .int 2], e11, e11], .list [.tuple [.int 1, .int 2], e11], .tuple [.tuple [.int 1, .int 2]], .int 5, .none, .tuple [], .str "ab", .tuple [.tuple [.int 1, .int 2], .int 5], .tuple [.tuple [.int 1, .int 2], .tuple [.str "end", .tuple [.int 2, .int 4]]], .tuple [.tuple [.tuple [.int 1, .int 2]], e11]]
def oddM (q : Str) : List PyData := [.tuple [.str "B", e11], .tuple [.str "", e11], .tuple [.str "abcdefghi", e11], .tuple [.int 5, e11], .tuple [.none, e11], .tuple [.list [.str "z"], e11], .tuple [.tuple [.str "z"], e11], .tuple [.dict [], e11], .tuple [.str "z", e11, e11], .list [.str "z", e11], .tuple [.str "z"], .int 5, .none, .str "za", .tuple [.str "z", .tuple [.str "end", .list [.int 1, .int 1]]], .tuple [.str q, e11]]
def chk (n c k : Nat) (d : PyData) : Bool := fitF n d && (!isGameF n d && decide (nodesF n d ≤ c))
theorem chk_thg {n c k : Nat} {d : PyData} (h : chk n c k d = true) : Thg n false c k d := by
  simp only [chk, Bool.and_eq_true, Bool.not_eq_true', decide_eq_true_eq] at h
  exact ⟨h.1, h.2.1, h.2.2⟩
theorem spoilL_chk : spoilL.all (chk 1 10 12) = true := by decide +kernel
theorem c7 {δ : DEnv} (h : δ[1]? = some (some (.val e11))) (h5 : 5 < δ.length) : compR (mgN 5) mYes (mV (mTup (mCons (mV (mB addF (mR (mC (.str "a"))) (mR (mBi strF (mCons (mR (mVar 5)) mNil))))) (mCons (mV (mVar 1)) mNil)))) δ (rng 0 7) = .ok w7 := by
  rw [w7]
  refine compR_map fun k hk => ⟨_, rfl, rfl, ?_⟩
  have hk' := List.mem_range.mp hk
  have sb := strF_iS (i := (k : Int)) (Nat.lt_trans (log2_lt (k := 3) (by decide) (by omega)) (by decide))
  have lb : (iS (k : Int)).length ≤ 3 := len_int (k := 2) (by decide) (by omega)
  have ab := addF_str (x := ("a" : Str)) (y := iS (k : Int)) (by
    have : ("a" : Str).length = 1 := by decide
    omega)
  have h1 : (δ.set 5 (some (.val (.int (k : Int)))))[1]? = some (some (.val e11)) := by
    rw [List.getElem?_set_ne (by decide)]; exact h
  simp only [Int.zero_add]
  simp [h5, sb, ab, h1, h, fits_of]
theorem fin_at {L : List PyData} {i : Int} {b : PyData} {δ : DEnv} (e : atI L i = some b) : (((match atI L i with
    | some d => Res.ok (DL.Slot.val d)
    | none => Res.stuck) : Res DL.Slot).out δ (retS δ)).res = .ok (.val b) := by
  rw [e]
  rfl
theorem spoil_ok (x : Int) : ∃ b, d__law_spoil [.val (.int x)] = .ok (.val b) ∧ Thg 1 false 10 12 b := by
  obtain ⟨b, hb, e⟩ := atI_mem (xs := spoilL) (j := x % 36) (by omega) (by simp [spoilL]; omega)
  refine ⟨b, ?_, chk_thg (List.all_eq_true.mp spoilL_chk b hb)⟩
  have e7 : rng1 [.int 7] = .ok (rng 0 7) := rng1_simp (n := 7) (by decide)
  have f7 : fits (rng 0 7) = true := fits_of (by simp [rng])
  have h34 : 34 < sizeLine := lt_sizeLine (by decide)
  simp [d__law_spoil, mDef, b__law_spoil, start0, fits_of, e7, f7, c7, h34]
  exact fin_at e
theorem oddD_chk : ([2, 3, 4] : List Nat).all (fun m => (List.range m).all fun a => oddD.all fun o => chk 2 10 12 (.tuple [.str "deal", .str "d", .tuple (((List.range m).map fun _ => .tuple [.tuple [.int 1, .int (m : Int)], e11]).set a o)])) = true := by decide +kernel
def let4 (i : Nat) : Str := ⟨#[(tl ("abcd" : Str)).getD i 0]⟩
theorem oddM_chk : ([2, 3, 4] : List Nat).all (fun m => (List.range m).all fun a => (oddM (let4 ((a + 1) % m))).all fun o => ([1, 2] : List Int).all fun s => chk 2 10 12 (.tuple [.str "move", .int s, .str "s", .tuple (((List.range m).map fun i => .tuple [.str (let4 i), e11]).set a o)])) = true := by decide +kernel
theorem abcd_at {i : Nat} (h : i < 4) : ixF (.str "abcd") (.int (i : Int)) = .ok (.val (.str (let4 i))) := by
  have : i = 0 ∨ i = 1 ∨ i = 2 ∨ i = 3 := by omega
  rcases this with rfl | rfl | rfl | rfl <;> rfl
theorem bent_ok (x : Int) : ∃ b, d__law_bent [.val (.int x)] = .ok (.val b) ∧ Thg 2 false 10 12 b := by
  obtain ⟨m, hm, hm2⟩ : ∃ m : Nat, 2 + x % 3 = (m : Int) ∧ (m = 2 ∨ m = 3 ∨ m = 4) := ⟨(2 + x % 3).toNat, by omega, by omega⟩
  have hmm : m ∈ ([2, 3, 4] : List Nat) := by simp; omega
  have hpos : (0 : Int) < (m : Int) := by omega
  obtain ⟨a, ha, hal⟩ : ∃ a : Nat, x / 3 % (m : Int) = (a : Int) ∧ a < m := by
    have h1 := Int.emod_nonneg (x / 3) (b := (m : Int)) (by omega)
    have h2 := Int.emod_lt_of_pos (x / 3) hpos
    exact ⟨(x / 3 % (m : Int)).toNat, by omega, by omega⟩
  have hmod := modF_pos (a := x / 3) hpos
  rw [ha] at hmod
  have e1 : rng1 [.int (m : Int)] = .ok (rng 0 m) := rng1_simp (by omega)
  have e2 : fits (rng 0 m) = true := fits_of (by simp [rng]; omega)
  have e0 : d__law_bent [.val (.int x)] = (b__law_bent [some (.val (.int x)), none, none, none, none, none, none]).res := rfl
  rw [e0]
  unfold b__law_bent
  rw [seq_nx (δ' := [some (.val (.int x)), some (.val e11), none, none, none, none, none]) (by simp [fits_of]), seq_nx (δ' := [some (.val (.int x)), some (.val e11), some (.val (.int (m : Int))), none, none, none, none]) (by simp [hm]),
    seq_nx (δ' := [some (.val (.int x)), some (.val e11), some (.val (.int (m : Int))), some (.val (.int (a : Int))), none, none, none]) (by simp [hmod])]
  by_cases ht : x / 12 % 2 = 0
  · obtain ⟨o, ho, eo⟩ := atI_mem (xs := oddD) (j := x / 24 % 16) (by omega) (by simp [oddD]; omega)
    have c : compR (mgN 6) mYes (mV (mTup (mCons (mV (mTup (mCons (mV (mC (.int 1))) (mCons (mV (mVar 2)) mNil)))) (mCons (mV (mVar 1)) mNil)))) [some (.val (.int x)), some (.val e11), some (.val (.int (m : Int))), some (.val (.int (a : Int))), none, none, none] (rng 0 m) = .ok ((List.range m).map fun _ => .tuple [.tuple [.int 1, .int (m : Int)], e11]) := compR_map fun i hi => ⟨_, rfl, rfl, by simp [fits_of]⟩
    refine ⟨.tuple [.str "deal", .str "d", .tuple (((List.range m).map fun _ => .tuple [.tuple [.int 1, .int (m : Int)], e11]).set a o)], ?_, chk_thg ?_⟩
    · have hl : ((List.range m).map fun _ => PyData.tuple [.tuple [.int 1, .int (m : Int)], e11]).length = m := by simp
      have hix : ixN m (a : Int) = some a := ixN_of hal
      generalize ((List.range m).map fun _ => PyData.tuple [.tuple [.int 1, .int (m : Int)], e11]) = W at c hl
      have i1 : mTest (mB eqF (mR (mB modF (mR (mB divF (mR (mVar 0)) (mR (mC (.int 12))))) (mR (mC (.int 2))))) (mR (mC (.int 0)))) [some (.val (.int x)), some (.val e11), some (.val (.int (m : Int))), some (.val (.int (a : Int))), none, none, none] = .ok true := by simp [ht]
      rw [seq_rt (s := .val (.tuple [.str "deal", .str "d", .tuple (W.set a o)])) (δ' := [some (.val (.int x)), some (.val e11), some (.val (.int (m : Int))), some (.val (.int (a : Int))), some (.own (.list (W.set a o))), some (.own (.list (oddD.take 15))), none]) (by
        rw [mIf_ap, i1, out_ok', if_pos rfl, seq_nx (δ' := [some (.val (.int x)), some (.val e11), some (.val (.int (m : Int))), some (.val (.int (a : Int))), some (.own (.list W)), none, none]) (by simp [e1, e2, c])]
        rw [seq_nx (δ' := [some (.val (.int x)), some (.val e11), some (.val (.int (m : Int))), some (.val (.int (a : Int))), some (.own (.list W)), some (.own (.list (oddD.take 7))), none]) (by simp [fits_of, oddD])]
        rw [seq_nx (δ' := [some (.val (.int x)), some (.val e11), some (.val (.int (m : Int))), some (.val (.int (a : Int))), some (.own (.list W)), some (.own (.list (oddD.take 15))), none]) (by simp [fits_of, oddD])]
        have hadd : addF (.list (oddD.take 15)) (.list [.tuple [.tuple [.tuple [.int 1, .int 2]], e11]]) = .ok (.own (.list oddD)) := addF_list (by decide)
        generalize oddD = OD at *
        generalize OD.take 15 = OT at *
        rw [seq_nx (δ' := [some (.val (.int x)), some (.val e11), some (.val (.int (m : Int))), some (.val (.int (a : Int))), some (.own (.list (W.set a o))), some (.own (.list OT)), none]) (by simp [fits_of, hadd, eo, hl, hix])]
        simp [fits_of])]
      rfl
    · exact List.all_eq_true.mp (List.all_eq_true.mp (List.all_eq_true.mp oddD_chk m hmm) a (List.mem_range.mpr hal)) o ho
  · have hqm : (a + 1) % m < 4 := Nat.lt_of_lt_of_le (Nat.mod_lt _ (by omega)) (by omega)
    have hq0 : modF (.int ((a : Int) + 1)) (.int (m : Int)) = .ok (.val (.int (((a + 1) % m : Nat) : Int))) := by
      rw [modF_pos hpos]; rfl
    have hq := abcd_at hqm
    obtain ⟨o, ho, eo⟩ := atI_mem (xs := oddM (let4 ((a + 1) % m))) (j := x / 24 % 16) (by omega) (by simp [oddM]; omega)
    have c : compR (mgN 6) mYes (mV (mTup (mCons (mV (mB ixF (mR (mC (.str "abcd"))) (mR (mVar 6)))) (mCons (mV (mVar 1)) mNil)))) [some (.val (.int x)), some (.val e11), some (.val (.int (m : Int))), some (.val (.int (a : Int))), none, none, none] (rng 0 m) = .ok ((List.range m).map fun i => .tuple [.str (let4 i), e11]) := compR_map fun i hi => ⟨_, rfl, rfl, by
      have := abcd_at (i := i) (by have := List.mem_range.mp hi; omega)
      simp [fits_of, this]⟩
    have hs : 1 + x / 384 % 2 ∈ ([1, 2] : List Int) := by simp; omega
    refine ⟨.tuple [.str "move", .int (1 + x / 384 % 2), .str "s", .tuple (((List.range m).map fun i => .tuple [.str (let4 i), e11]).set a o)], ?_, chk_thg ?_⟩
    · have hl : ((List.range m).map fun i => PyData.tuple [.str (let4 i), e11]).length = m := by simp
      have hix : ixN m (a : Int) = some a := ixN_of hal
      generalize ((List.range m).map fun i => PyData.tuple [.str (let4 i), e11]) = W at c hl
      have i1 : mTest (mB eqF (mR (mB modF (mR (mB divF (mR (mVar 0)) (mR (mC (.int 12))))) (mR (mC (.int 2))))) (mR (mC (.int 0)))) [some (.val (.int x)), some (.val e11), some (.val (.int (m : Int))), some (.val (.int (a : Int))), none, none, none] = .ok false := by simp [ht]
      generalize hqq : let4 ((a + 1) % m) = q at *
      have hq' : ixF (.str "abcd") (.int (((a : Int) + 1) % (m : Int))) = .ok (.val (.str q)) := hq
      rw [seq_nx (by rw [mIf_ap, i1, out_ok', if_neg (by decide)]; rfl)]
      rw [seq_nx (δ' := [some (.val (.int x)), some (.val e11), some (.val (.int (m : Int))), some (.val (.int (a : Int))), some (.own (.list W)), none, none]) (by simp [e1, e2, c])]
      rw [seq_nx (δ' := [some (.val (.int x)), some (.val e11), some (.val (.int (m : Int))), some (.val (.int (a : Int))), some (.own (.list W)), some (.own (.list ((oddM q).take 8))), none]) (by simp [fits_of, oddM])]
      rw [seq_nx (δ' := [some (.val (.int x)), some (.val e11), some (.val (.int (m : Int))), some (.val (.int (a : Int))), some (.own (.list W)), some (.own (.list ((oddM q).take 15))), none]) (by simp [fits_of, oddM])]
      have hadd : addF (.list ((oddM q).take 15)) (.list [.tuple [.str q, e11]]) = .ok (.own (.list (oddM q))) := addF_list (by simp [oddM])
      generalize oddM q = OD at *
      generalize OD.take 15 = OT at *
      rw [seq_nx (δ' := [some (.val (.int x)), some (.val e11), some (.val (.int (m : Int))), some (.val (.int (a : Int))), some (.own (.list (W.set a o))), some (.own (.list OT)), none]) (by simp [fits_of, hq0, hq, hq', hadd, eo, hl, hix])]
      simp [fits_of]
    · exact List.all_eq_true.mp (List.all_eq_true.mp (List.all_eq_true.mp (List.all_eq_true.mp oddM_chk m hmm) a (List.mem_range.mpr hal)) o ho) _ hs
abbrev X56 : Str := " !#$&'()*+,-./:;<=>?@ABCDEFGHIJKLMNOPQRSTUVWXYZ[]^_`{|}~"
theorem x56 : (tl X56).length = 56 ∧ (tl X56).all (fun c => !sgnB c) = true ∧ X56.length = 56 := by decide +kernel
theorem tl_take (z : Str) (k : Nat) : tl (cutS z none (some (k : Int))) = (tl z).take k := by
  have e : HT.sIx z.length z.length (some (k : Int)) = min k z.length := by
    unfold HT.sIx
    simp only
    rw [if_neg (by omega)]
    simp
  unfold cutS
  rw [e, HT.sIx_none]
  show ((tl z).drop 0).take (min k z.length - 0) = _
  rw [List.drop_zero, Nat.sub_zero, len_tl]
  rcases Nat.le_total k (tl z).length with q | q
  · rw [Nat.min_eq_left q]
  · rw [Nat.min_eq_right q, List.take_length, List.take_of_length_le q]
theorem tl_drop (z : Str) (k : Nat) : tl (cutS z (some (k : Int)) none) = (tl z).drop k := by
  have e : HT.sIx z.length 0 (some (k : Int)) = min k z.length := by
    unfold HT.sIx
    simp only
    rw [if_neg (by omega)]
    simp
  unfold cutS
  rw [e, HT.sIx_none]
  show ((tl z).drop (min k z.length)).take (z.length - min k z.length) = _
  rw [len_tl]
  rcases Nat.le_total k (tl z).length with q | q
  · rw [Nat.min_eq_left q, ← List.length_drop, List.take_length]
  · rw [Nat.min_eq_right q, List.drop_length, List.drop_of_length_le q, List.take_nil]
theorem mul9_len {z : Str} (h : 1 ≤ z.length) : (Txt.mul z 9).length = 9 * z.length := by
  have h0 : (z.length == 0) = false := by
    rw [beq_eq_false_iff_ne]; omega
  have e : Txt.mul z 9 = ⟨(List.replicate 9 z.cps).foldl (· ++ ·) #[]⟩ := by
    unfold Txt.mul
    rw [if_neg (by decide), h0]
    rfl
  rw [e]
  show ((List.replicate 9 z.cps).foldl (· ++ ·) #[]).size = 9 * z.cps.size
  simp [List.replicate]
  omega
theorem name_long {z : Str} (h : 9 ≤ z.length) : isNameB (.str z) = false := by
  simp only [isNameB]
  rw [decide_eq_false (by omega)]
  rfl
theorem name_odd {z : Str} {c : Nat} (h : c ∈ tl z) (hc : sgnB c = false) : isNameB (.str z) = false := by
  simp only [isNameB]
  have : (tl z).all sgnB = false := by
    rw [List.all_eq_false]
    exact ⟨c, h, by rw [hc]; decide⟩
  rw [this, Bool.and_false]
theorem no_name_ok {z : Str} (h1 : 1 ≤ z.length) (h8 : z.length ≤ 8) (x : Int) : ∃ b, d__law_no_name [.val (.str z), .val (.int x)] = .ok (.val b) ∧ isNameB b = false ∧ shortB b = true := by
  have hpos : (0 : Int) < (z.length : Int) := by omega
  obtain ⟨a, ha, hal⟩ : ∃ a : Nat, x / 14 % (z.length : Int) = (a : Int) ∧ a < z.length := by
    have h1 := Int.emod_nonneg (x / 14) (b := (z.length : Int)) (by omega)
    have h2 := Int.emod_lt_of_pos (x / 14) hpos
    exact ⟨(x / 14 % (z.length : Int)).toNat, by omega, by omega⟩
  have hmod := modF_pos (a := x / 14) hpos
  rw [ha] at hmod
  have el := lenF_str (z := z) (by omega)
  have elX := lenF_str (z := X56) (by rw [x56.2.2]; decide)
  rw [x56.2.2] at elX
  obtain ⟨c, hc, ec⟩ := atI_mem (xs := tl X56) (j := x / 112 % 56) (by omega) (by rw [x56.1]; omega)
  have hcs : sgnB c = false := by simpa using List.all_eq_true.mp x56.2.1 c hc
  have eX : ixF (.str X56) (.int (x / 112 % 56)) = .ok (.val (.str ⟨#[c]⟩)) := by
    show (if X56.length ≤ sizeLine then (match atI (tl X56) (x / 112 % 56) with
      | some c => okV (.str ⟨#[c]⟩)
      | none => .stuck) else .stuck) = _
    have : X56.length ≤ sizeLine := by rw [x56.2.2]; exact Nat.le_trans (by decide : 56 ≤ 100) (by decide)
    rw [if_pos this, ec]
    rfl
  have em := mulG_str (z := z) (k := 9) (by decide) (by decide) (by omega)
  have hml := mul9_len h1
  have hcut := slF_str (z := Txt.mul z 9) (lo := none) (hi := some 9) (by omega)
  have l9 : (cutS (Txt.mul z 9) none (some 9)).length = 9 := by
    rw [len_tl]
    have : tl (cutS (Txt.mul z 9) none (some ((9 : Nat) : Int))) = (tl (Txt.mul z 9)).take 9 := tl_take _ _
    have this' : tl (cutS (Txt.mul z 9) none (some 9)) = (tl (Txt.mul z 9)).take 9 := this
    rw [this', List.length_take, ← len_tl, hml]
    omega
  have s1 := slF_str (z := z) (lo := none) (hi := some (a : Int)) (by omega)
  have s2 := slF_str (z := z) (lo := some ((a : Int) + 1)) (hi := none) (by omega)
  have t1 := tl_take z a
  have t2 : tl (cutS z (some ((a : Int) + 1)) none) = (tl z).drop (a + 1) := tl_drop z (a + 1)
  have lz : (tl z).length = z.length := (len_tl z).symm
  generalize cutS z none (some (a : Int)) = z1 at s1 t1
  generalize cutS z (some ((a : Int) + 1)) none = z2 at s2 t2
  have lz1 : z1.length ≤ 8 := by rw [len_tl, t1, List.length_take]; omega
  have lz2 : z2.length ≤ 8 := by rw [len_tl, t2, List.length_drop]; omega
  have lc : (⟨#[c]⟩ : Str).length = 1 := rfl
  have a1 := addF_str (x := z1) (y := ⟨#[c]⟩) (by omega)
  have l12 : (z1 ++ ⟨#[c]⟩ : Str).length ≤ 9 := by
    rw [len_tl, tl_append, List.length_append, ← len_tl, ← len_tl]; omega
  have a2 := addF_str (x := z1 ++ ⟨#[c]⟩) (y := z2) (by omega)
  have hin : c ∈ tl (z1 ++ ⟨#[c]⟩ ++ z2) := by
    rw [tl_append, tl_append]
    exact List.mem_append_left _ (List.mem_append_right _ (by show c ∈ [c]; simp))
  have l123 : (z1 ++ ⟨#[c]⟩ ++ z2 : Str).length ≤ 100 := by
    rw [len_tl, tl_append, List.length_append, ← len_tl, ← len_tl]; omega
  generalize (z1 ++ ⟨#[c]⟩ : Str) = z12 at a1 a2 hin l123
  generalize (z12 ++ z2 : Str) = zz at a2 hin l123
  generalize hz9 : cutS (Txt.mul z 9) none (some 9) = z9 at hcut l9
  obtain ⟨b, hb, eb⟩ := atI_mem (xs := [PyData.str "", .str z9, .none, .int 7, .list [.str z], .tuple [.str z], .bool true, .str zz]) (j := if 7 < x % 14 then 7 else x % 14) (by split <;> omega) (by split <;> simp <;> omega)
  refine ⟨b, ?_, ?_⟩
  · have e0 : d__law_no_name [.val (.str z), .val (.int x)] = (b__law_no_name [some (.val (.str z)), some (.val (.int x)), none, none, none, none]).res := rfl
    rw [e0]
    have h8' : 8 < sizeLine := lt_sizeLine (by decide)
    have h7' : 7 < sizeLine := lt_sizeLine (by decide)
    unfold b__law_no_name
    generalize hX : X56 = XX at elX eX
    rw [seq_nx (δ' := [some (.val (.str z)), some (.val (.int x)), some (.val (.str XX)), none, none, none]) (by rw [← hX]; rfl),
      seq_nx (δ' := [some (.val (.str z)), some (.val (.int x)), some (.val (.str XX)), some (.val (.int (a : Int))), none, none]) (by simp [el, hmod]),
      seq_nx (δ' := [some (.val (.str z)), some (.val (.int x)), some (.val (.str XX)), some (.val (.int (a : Int))), some (.own (.list [PyData.str "", .str z9, .none, .int 7, .list [.str z], .tuple [.str z], .bool true])), none]) (by simp [em, hcut, fits_of]),
      seq_nx (δ' := [some (.val (.str z)), some (.val (.int x)), some (.val (.str XX)), some (.val (.int (a : Int))), some (.own (.list [PyData.str "", .str z9, .none, .int 7, .list [.str z], .tuple [.str z], .bool true])), some (.val (.str ⟨#[c]⟩))]) (by simp [elX, eX]),
      seq_nx (δ' := [some (.val (.str z)), some (.val (.int x)), some (.val (.str XX)), some (.val (.int (a : Int))), some (.own (.list [PyData.str "", .str z9, .none, .int 7, .list [.str z], .tuple [.str z], .bool true, .str zz])), some (.val (.str ⟨#[c]⟩))]) (by simp [s1, s2, a1, a2, h7'])]
    simp [eb]
  · simp only [List.mem_cons, List.not_mem_nil, or_false] at hb
    rcases hb with rfl | rfl | rfl | rfl | rfl | rfl | rfl | rfl
    · exact ⟨by decide +kernel, by decide +kernel⟩
    · exact ⟨name_long (by omega), decide_eq_true (by omega)⟩
    · exact ⟨rfl, rfl⟩
    · exact ⟨rfl, rfl⟩
    · exact ⟨rfl, rfl⟩
    · exact ⟨rfl, rfl⟩
    · exact ⟨rfl, rfl⟩
    · exact ⟨name_odd hin hcs, decide_eq_true (by omega)⟩
theorem numbers6 (ns : List Int) (hl : ns.length ≤ 63) : ∃ xs : List Int, d__law_numbers [.val (.list (ns.map PyData.int))] = .ok (.own (.list (xs.map PyData.int))) :=
  let ⟨xs, e, _⟩ := numbers_ok ns hl 31 7 1 48271 40 (by decide) (by decide) (by decide) (by decide)
  ⟨xs, e⟩
theorem cell_v (N : List Int) (k : Nat) : d__law_cell_at [.val (.list (N.map PyData.int)), .val (.int (k : Int))] = .ok (.val (.int (N.getD k 0))) := by
  rw [List.getD_eq_getElem?_getD]
  by_cases h : k < N.length
  · have a1 : atI (N.map PyData.int) (k : Int) = some (.int N[k]) := by rw [atI_of (by simpa using h)]; simp
    rw [List.getElem?_eq_getElem h]
    simp [d__law_cell_at, mDef, b__law_cell_at, start0, h, a1]
  · rw [List.getElem?_eq_none (by omega)]
    simp [d__law_cell_at, mDef, b__law_cell_at, start0, h]
theorem rng17 : rng2 [.int 1, .int 7] = .ok (rng 1 6) := by
  show (if small62 1 = true ∧ small62 7 = true then _ else _) = _
  rw [if_pos ⟨small_of (by decide) (by decide), small_of (by decide) (by decide)⟩]
  rfl
theorem gw_game {d : PyData} (h : Gw 5 d) : d_is_game [.val d] = .ok (.val (.bool true)) := (GmD.thg h.1).game (Nat.le_trans h.2 (by decide))
theorem put_game {d B : PyData} (h : Gw 5 d) {kb cb db : Nat} (hc : cb ≤ 100) (hB : Thg kb false cb db B) {zs : List Int} (hz : zs.length = 6) : ∃ d', d__law_put 8 [.val d, .val (.list (zs.map PyData.int)), .val B] = .ok (.val d') ∧ d_is_game [.val d'] = .ok (.val (.bool false)) := by
  obtain ⟨x, xs, rfl⟩ : ∃ x xs, zs = x :: xs := by
    cases zs with
    | nil => cases hz
    | cons x xs => exact ⟨x, xs, rfl⟩
  obtain ⟨d', e, t⟩ := put_ok hB 5 d h.1 8 x xs (by simp at hz; omega) (by simp at hz; omega)
  refine ⟨d', e, t.game ?_⟩
  have := h.2
  have c5 : cN 5 = 9331 := by decide
  omega
theorem turn_ok {S d W : PyData} (hd : Gw 5 d) {N : List Int} {k : Nat} (hk : k < 8) {δ : DEnv} (hδ : ∃ o3 o6 o7 o8, δ = [some (.val S), some (.val (.list (N.map PyData.int))), some (.val d), o3, some (.val W), some (.val (.int (k : Int))), o6, o7, none] ∧ o8 = (none : Option DL.Slot)) : ∃ o3 o6 o7, L_law_1 δ = .nx [some (.val S), some (.val (.list (N.map PyData.int))), some (.val d), o3, some (.val W), some (.val (.int (k : Int))), o6, o7, none] := by
  obtain ⟨o3, o6, o7, _, rfl, _⟩ := hδ
  have e1 := cell_v N k
  generalize N.getD k 0 = c at e1
  obtain ⟨is, l1, l2, l3, en⟩ := name6 (c + 13 * (k : Int))
  have hnm := nameS_is l1 l2 l3
  have en1 := name_any (short_of_name hnm)
  rw [hnm] at en1
  have hnl := nameS_len is
  generalize nameS is = z at en hnm en1 hnl
  obtain ⟨b, eb, b1, b2⟩ := no_name_ok (z := z) (by omega) (by omega) ((c + 13 * (k : Int)) / 3)
  have en2 := name_any b2
  rw [b1] at en2
  obtain ⟨sp, es, ts⟩ := spoil_ok ((c + 13 * (k : Int)) / 2 + (k : Int))
  have gs := ts.game (by decide)
  obtain ⟨be, ee, te⟩ := bent_ok ((c + 13 * (k : Int)) / 5 + (k : Int))
  have ge := te.game (by decide)
  obtain ⟨bf, ef, tf⟩ := bent_ok ((c + 13 * (k : Int)) / 3)
  let zs : List Int := (List.range 6).map fun i => N.getD (k + (1 + i)) 0 / 11
  have cz : ∀ o3 o6 o7, compR (mgN 8) mYes (mV (mB divF (mR (mCall d__law_cell_at (mACons (mVar 1) (mACons (mB addF (mR (mVar 5)) (mR (mVar 8))) mANil)))) (mR (mC (.int 11))))) [some (.val S), some (.val (.list (N.map PyData.int))), some (.val d), o3, some (.val W), some (.val (.int (k : Int))), o6, o7, none] (rng 1 6) = .ok (zs.map PyData.int) := fun o3 o6 o7 => by
    rw [List.map_map]
    refine compR_map fun i hi => ⟨_, rfl, rfl, ?_⟩
    have := cell_v N (k + (1 + i))
    have e2 : ((k + (1 + i) : Nat) : Int) = (k : Int) + (1 + (i : Int)) := by omega
    rw [e2] at this
    simp [this]
  have hzs : zs.length = 6 := by simp [zs]
  generalize zs = zs at cz hzs
  obtain ⟨d', ep, gp⟩ := put_game hd (by decide) tf hzs
  have f6 : fits (rng 1 6) = true := fits_of (by simp [rng])
  have k1 : -18446744073709551616 < (k : Int) := by omega
  have k2 : (k : Int) < 18446744073709551616 := by omega
  unfold L_law_1
  refine ⟨some (.val (.list (zs.map PyData.int))), some (.val (.int (c + 13 * (k : Int)))), some (.val (.str z)), ?_⟩
  generalize hx : c + 13 * (k : Int) = x at *
  rw [seq_nx (δ' := [some (.val S), some (.val (.list (N.map PyData.int))), some (.val d), o3, some (.val W), some (.val (.int (k : Int))), some (.val (.int x)), o7, none]) (by simp [frz, e1, k1, k2, hx]),
    seq_nx (δ' := [some (.val S), some (.val (.list (N.map PyData.int))), some (.val d), o3, some (.val W), some (.val (.int (k : Int))), some (.val (.int x)), some (.val (.str z)), none]) (by simp [frz, en]),
    seq_nx (δ' := [some (.val S), some (.val (.list (N.map PyData.int))), some (.val d), o3, some (.val W), some (.val (.int (k : Int))), some (.val (.int x)), some (.val (.str z)), none]) (by simp [frz, en1, eb, en2]),
    seq_nx (δ' := [some (.val S), some (.val (.list (N.map PyData.int))), some (.val d), o3, some (.val W), some (.val (.int (k : Int))), some (.val (.int x)), some (.val (.str z)), none]) (by simp [frz, es, gs, ee, ge]),
    seq_nx (δ' := [some (.val S), some (.val (.list (N.map PyData.int))), some (.val d), some (.own (.list (zs.map PyData.int))), some (.val W), some (.val (.int (k : Int))), some (.val (.int x)), some (.val (.str z)), none]) (by simp [frz, rng17, f6, cz])]
  simp [frz, ef, ep, gp]
theorem law_ok (ns : List Int) (hl : ns.length ≤ 63) : d_law [.val (.list (ns.map PyData.int))] = .ok (.val (.bool true)) := by
  obtain ⟨N, hN⟩ := numbers6 ns hl
  obtain ⟨d, ys, hg, hd⟩ := grown_ok 5 (by decide) N
  have hg' : d__law_grown 6 [.own (.list (N.map PyData.int)), .val (.int 5)] = .ok (.val d) (.own (.list (ys.map PyData.int))) := hg
  have e0 : d_law [.val (.list (ns.map PyData.int))] = (b_law [some (.val (.list (ns.map PyData.int))), none, none, none, none, none, none, none, none]).res := rfl
  have hc0 : d__law_cell_at [.val (.list (N.map PyData.int)), .val (.int 0)] = .ok (.val (.int (N.getD 0 0))) := cell_v N 0
  obtain ⟨sp, es, ts⟩ := spoil_ok (N.getD 0 0)
  generalize N.getD 0 0 = c0 at hc0 es
  let zs : List Int := (List.range 6).map fun i => N.getD (1 + i) 0 / 7
  have cz : ∀ D : PyData, compR (mgN 5) mYes (mV (mB divF (mR (mCall d__law_cell_at (mACons (mVar 1) (mACons (mVar 5) mANil)))) (mR (mC (.int 7))))) [some (.val D), some (.val (.list (N.map PyData.int))), some (.val d), none, none, none, none, none, none] (rng 1 6) = .ok (zs.map PyData.int) := fun D => by
    rw [List.map_map]
    refine compR_map fun i hi => ⟨_, rfl, rfl, ?_⟩
    have := cell_v N (1 + i)
    have e2 : ((1 + i : Nat) : Int) = 1 + (i : Int) := by omega
    rw [e2] at this
    simp [this]
  have hzs : zs.length = 6 := by simp [zs]
  generalize zs = zs at cz hzs
  obtain ⟨d', ep, gp⟩ := put_game hd (by decide) ts hzs
  have gg := gw_game hd
  have f6 : fits (rng 1 6) = true := fits_of (by simp [rng])
  rw [e0]
  unfold b_law
  generalize hS : PyData.list (ns.map PyData.int) = S at *
  rw [seq_nx (δ' := [some (.val S), some (.own (.list (N.map PyData.int))), none, none, none, none, none, none, none]) (by simp [hN]),
    seq_nx (δ' := [some (.val S), some (.own (.list (N.map PyData.int))), some (.val d), none, none, none, none, none, none]) (by simp [mCallTmp, hg']),
    seq_nx (δ' := [some (.val S), some (.val (.list (N.map PyData.int))), some (.val d), some (.own (.list (zs.map PyData.int))), none, none, none, none, none]) (by simp [frz, rng17, f6, cz]),
    seq_nx (δ' := [some (.val S), some (.val (.list (N.map PyData.int))), some (.val d), some (.val (.list (zs.map PyData.int))), some (.val d'), none, none, none, none]) (by simp [frz, hc0, es, ep]),
    seq_nx (δ' := [some (.val S), some (.val (.list (N.map PyData.int))), some (.val d), some (.val (.list (zs.map PyData.int))), some (.val d'), none, none, none, none]) (by simp [frz, gg, gp]),
    seq_nx (δ' := [some (.val S), some (.val (.list (N.map PyData.int))), some (.val d), some (.val (.list (zs.map PyData.int))), some (.val d'), none, none, none, none]) (by simp [frz, gg])]
  have F1 := for_rng (g := mgN 5) (it := mRng1 (mCons (mV (mC (.int 8))) mNil)) (b := L_law_1) 8 (fun i δ => ∃ o3 o5 o6 o7, δ = [some (.val S), some (.val (.list (N.map PyData.int))), some (.val d), o3, some (.val d'), o5, o6, o7, none]) (δ := [some (.val S), some (.val (.list (N.map PyData.int))), some (.val d), some (.val (.list (zs.map PyData.int))), some (.val d'), none, none, none, none])
    (by simp; exact rng1_simp (n := 8) (by decide)) (by
      rintro i hi δ ⟨o3, o5, o6, o7, rfl⟩
      obtain ⟨p3, p6, p7, e⟩ := turn_ok (S := S) (W := d') hd (N := N) (k := i) hi ⟨o3, o6, o7, none, rfl, rfl⟩
      exact ⟨_, rfl, _, e, _, _, _, _, rfl⟩) ⟨_, _, _, _, rfl⟩
  obtain ⟨δ1, e1, o3, o5, o6, o7, rfl⟩ := F1
  rw [seq_nx e1]
  simp
/-! ### the end -/
def ecOf  : EC → Addr
  | .DuelError => 0
  | .NoNumber => 0
  | .NoText => 0
  | .TooGreat => 0
  | .NoPlan => 0
  | .NoWord => 0
  | .NoPlace => 0
  | .NoName => 0
  | .NoRow => 0
  | .NoShares => 0
  | .Unlike => 0
  | .Forgets => 0
theorem all_mk {l : PySem.W.OpenLaw} {w : World} {K : PySem.W.Frag} {h : Heap} {mg : Str → Option Value} {fa f_is_whole f_divisor f_is_ratio f_is_name f_are_pairs f_is_place f_parts_of f_is_game f__law_cell_at f__law_numbers f__law_name f__law_ratio f__law_words f__law_grown f__law_spoil f__law_bent f__law_put f__law_no_name f_law : Addr} (X : K.In h) (G : h.Ns mainGlobals mg) (hfa : mg "law" = some (.ref fa))
    {od_is_whole an_is_whole od_divisor an_divisor od_is_ratio an_is_ratio od_is_name an_is_name od_are_pairs an_are_pairs od_is_place an_is_place od_parts_of an_parts_of od_is_game an_is_game od__law_cell_at an__law_cell_at od__law_numbers an__law_numbers od__law_name an__law_name od__law_ratio an__law_ratio od__law_words an__law_words od__law_grown an__law_grown od__law_spoil an__law_spoil od__law_bent an__law_bent od__law_put an__law_put od__law_no_name an__law_no_name od_law an_law : Option Addr} {sl_is_whole sl_divisor sl_is_ratio sl_is_name sl_are_pairs sl_is_place sl_parts_of sl_is_game sl__law_cell_at sl__law_numbers sl__law_name sl__law_ratio sl__law_words sl__law_grown sl__law_spoil sl__law_bent sl__law_put sl__law_no_name sl_law : Array (Option Value)} {oc_is_whole kV_is_whole dc_is_whole pm_is_whole cd_is_whole ct_is_whole oc_divisor kV_divisor dc_divisor pm_divisor cd_divisor ct_divisor oc_is_ratio kV_is_ratio dc_is_ratio pm_is_ratio cd_is_ratio ct_is_ratio oc_is_name kV_is_name dc_is_name pm_is_name cd_is_name ct_is_name oc_are_pairs kV_are_pairs dc_are_pairs pm_are_pairs cd_are_pairs ct_are_pairs oc_is_place kV_is_place dc_is_place pm_is_place cd_is_place ct_is_place oc_parts_of kV_parts_of dc_parts_of pm_parts_of cd_parts_of ct_parts_of oc_is_game kV_is_game dc_is_game pm_is_game cd_is_game ct_is_game oc__law_cell_at kV__law_cell_at dc__law_cell_at pm__law_cell_at cd__law_cell_at ct__law_cell_at oc__law_numbers kV__law_numbers dc__law_numbers pm__law_numbers cd__law_numbers ct__law_numbers oc__law_name kV__law_name dc__law_name pm__law_name cd__law_name ct__law_name oc__law_ratio kV__law_ratio dc__law_ratio pm__law_ratio cd__law_ratio ct__law_ratio oc__law_words kV__law_words dc__law_words pm__law_words cd__law_words ct__law_words oc__law_grown kV__law_grown dc__law_grown pm__law_grown cd__law_grown ct__law_grown oc__law_spoil kV__law_spoil dc__law_spoil pm__law_spoil cd__law_spoil ct__law_spoil oc__law_bent kV__law_bent dc__law_bent pm__law_bent cd__law_bent ct__law_bent oc__law_put kV__law_put dc__law_put pm__law_put cd__law_put ct__law_put oc__law_no_name kV__law_no_name dc__law_no_name pm__law_no_name cd__law_no_name ct__law_no_name oc_law kV_law dc_law pm_law cd_law ct_law : Value}
    {tk_SIGNS : Tok}
    {tk_LONGEST : Tok}
    {tk_MOST_BRANCHES : Tok}
    {tk_MOST_WAYS : Tok}
    (a_is_whole : PySem.W.nsIn K mainGlobals "is_whole" = some (some (.ref f_is_whole)))
    (l_is_whole : K.lookup f_is_whole = some ⟨oc_is_whole, od_is_whole, .func (PySem.W.fnOf "is_whole" "is_whole" (defArgs s_is_whole) (defBody s_is_whole) (defScope s_is_whole) .none kV_is_whole dc_is_whole pm_is_whole an_is_whole cd_is_whole ct_is_whole), sl_is_whole⟩)
    (q_is_whole : PySem.W.codeIn K cd_is_whole "is_whole" = true)
    (p_is_whole : PySem.W.keepIn K (.ref f_is_whole) = true)
    (a_divisor : PySem.W.nsIn K mainGlobals "divisor" = some (some (.ref f_divisor)))
    (l_divisor : K.lookup f_divisor = some ⟨oc_divisor, od_divisor, .func (PySem.W.fnOf "divisor" "divisor" (defArgs s_divisor) (defBody s_divisor) (defScope s_divisor) .none kV_divisor dc_divisor pm_divisor an_divisor cd_divisor ct_divisor), sl_divisor⟩)
    (q_divisor : PySem.W.codeIn K cd_divisor "divisor" = true)
    (p_divisor : PySem.W.keepIn K (.ref f_divisor) = true)
    (a_is_ratio : PySem.W.nsIn K mainGlobals "is_ratio" = some (some (.ref f_is_ratio)))
    (l_is_ratio : K.lookup f_is_ratio = some ⟨oc_is_ratio, od_is_ratio, .func (PySem.W.fnOf "is_ratio" "is_ratio" (defArgs s_is_ratio) (defBody s_is_ratio) (defScope s_is_ratio) .none kV_is_ratio dc_is_ratio pm_is_ratio an_is_ratio cd_is_ratio ct_is_ratio), sl_is_ratio⟩)
    (q_is_ratio : PySem.W.codeIn K cd_is_ratio "is_ratio" = true)
    (p_is_ratio : PySem.W.keepIn K (.ref f_is_ratio) = true)
    (a_is_name : PySem.W.nsIn K mainGlobals "is_name" = some (some (.ref f_is_name)))
    (l_is_name : K.lookup f_is_name = some ⟨oc_is_name, od_is_name, .func (PySem.W.fnOf "is_name" "is_name" (defArgs s_is_name) (defBody s_is_name) (defScope s_is_name) .none kV_is_name dc_is_name pm_is_name an_is_name cd_is_name ct_is_name), sl_is_name⟩)
    (q_is_name : PySem.W.codeIn K cd_is_name "is_name" = true)
    (p_is_name : PySem.W.keepIn K (.ref f_is_name) = true)
    (a_are_pairs : PySem.W.nsIn K mainGlobals "are_pairs" = some (some (.ref f_are_pairs)))
    (l_are_pairs : K.lookup f_are_pairs = some ⟨oc_are_pairs, od_are_pairs, .func (PySem.W.fnOf "are_pairs" "are_pairs" (defArgs s_are_pairs) (defBody s_are_pairs) (defScope s_are_pairs) .none kV_are_pairs dc_are_pairs pm_are_pairs an_are_pairs cd_are_pairs ct_are_pairs), sl_are_pairs⟩)
    (q_are_pairs : PySem.W.codeIn K cd_are_pairs "are_pairs" = true)
    (p_are_pairs : PySem.W.keepIn K (.ref f_are_pairs) = true)
    (a_is_place : PySem.W.nsIn K mainGlobals "is_place" = some (some (.ref f_is_place)))
    (l_is_place : K.lookup f_is_place = some ⟨oc_is_place, od_is_place, .func (PySem.W.fnOf "is_place" "is_place" (defArgs s_is_place) (defBody s_is_place) (defScope s_is_place) .none kV_is_place dc_is_place pm_is_place an_is_place cd_is_place ct_is_place), sl_is_place⟩)
    (q_is_place : PySem.W.codeIn K cd_is_place "is_place" = true)
    (p_is_place : PySem.W.keepIn K (.ref f_is_place) = true)
    (a_parts_of : PySem.W.nsIn K mainGlobals "parts_of" = some (some (.ref f_parts_of)))
    (l_parts_of : K.lookup f_parts_of = some ⟨oc_parts_of, od_parts_of, .func (PySem.W.fnOf "parts_of" "parts_of" (defArgs s_parts_of) (defBody s_parts_of) (defScope s_parts_of) .none kV_parts_of dc_parts_of pm_parts_of an_parts_of cd_parts_of ct_parts_of), sl_parts_of⟩)
    (q_parts_of : PySem.W.codeIn K cd_parts_of "parts_of" = true)
    (p_parts_of : PySem.W.keepIn K (.ref f_parts_of) = true)
    (a_is_game : PySem.W.nsIn K mainGlobals "is_game" = some (some (.ref f_is_game)))
    (l_is_game : K.lookup f_is_game = some ⟨oc_is_game, od_is_game, .func (PySem.W.fnOf "is_game" "is_game" (defArgs s_is_game) (defBody s_is_game) (defScope s_is_game) .none kV_is_game dc_is_game pm_is_game an_is_game cd_is_game ct_is_game), sl_is_game⟩)
    (q_is_game : PySem.W.codeIn K cd_is_game "is_game" = true)
    (p_is_game : PySem.W.keepIn K (.ref f_is_game) = true)
    (a__law_cell_at : PySem.W.nsIn K mainGlobals "_law_cell_at" = some (some (.ref f__law_cell_at)))
    (l__law_cell_at : K.lookup f__law_cell_at = some ⟨oc__law_cell_at, od__law_cell_at, .func (PySem.W.fnOf "_law_cell_at" "_law_cell_at" (defArgs s__law_cell_at) (defBody s__law_cell_at) (defScope s__law_cell_at) .none kV__law_cell_at dc__law_cell_at pm__law_cell_at an__law_cell_at cd__law_cell_at ct__law_cell_at), sl__law_cell_at⟩)
    (q__law_cell_at : PySem.W.codeIn K cd__law_cell_at "_law_cell_at" = true)
    (p__law_cell_at : PySem.W.keepIn K (.ref f__law_cell_at) = true)
    (a__law_numbers : PySem.W.nsIn K mainGlobals "_law_numbers" = some (some (.ref f__law_numbers)))
    (l__law_numbers : K.lookup f__law_numbers = some ⟨oc__law_numbers, od__law_numbers, .func (PySem.W.fnOf "_law_numbers" "_law_numbers" (defArgs s__law_numbers) (defBody s__law_numbers) (defScope s__law_numbers) .none kV__law_numbers dc__law_numbers pm__law_numbers an__law_numbers cd__law_numbers ct__law_numbers), sl__law_numbers⟩)
    (q__law_numbers : PySem.W.codeIn K cd__law_numbers "_law_numbers" = true)
    (p__law_numbers : PySem.W.keepIn K (.ref f__law_numbers) = true)
    (a__law_name : PySem.W.nsIn K mainGlobals "_law_name" = some (some (.ref f__law_name)))
    (l__law_name : K.lookup f__law_name = some ⟨oc__law_name, od__law_name, .func (PySem.W.fnOf "_law_name" "_law_name" (defArgs s__law_name) (defBody s__law_name) (defScope s__law_name) .none kV__law_name dc__law_name pm__law_name an__law_name cd__law_name ct__law_name), sl__law_name⟩)
    (q__law_name : PySem.W.codeIn K cd__law_name "_law_name" = true)
    (p__law_name : PySem.W.keepIn K (.ref f__law_name) = true)
    (a__law_ratio : PySem.W.nsIn K mainGlobals "_law_ratio" = some (some (.ref f__law_ratio)))
    (l__law_ratio : K.lookup f__law_ratio = some ⟨oc__law_ratio, od__law_ratio, .func (PySem.W.fnOf "_law_ratio" "_law_ratio" (defArgs s__law_ratio) (defBody s__law_ratio) (defScope s__law_ratio) .none kV__law_ratio dc__law_ratio pm__law_ratio an__law_ratio cd__law_ratio ct__law_ratio), sl__law_ratio⟩)
    (q__law_ratio : PySem.W.codeIn K cd__law_ratio "_law_ratio" = true)
    (p__law_ratio : PySem.W.keepIn K (.ref f__law_ratio) = true)
    (a__law_words : PySem.W.nsIn K mainGlobals "_law_words" = some (some (.ref f__law_words)))
    (l__law_words : K.lookup f__law_words = some ⟨oc__law_words, od__law_words, .func (PySem.W.fnOf "_law_words" "_law_words" (defArgs s__law_words) (defBody s__law_words) (defScope s__law_words) .none kV__law_words dc__law_words pm__law_words an__law_words cd__law_words ct__law_words), sl__law_words⟩)
    (q__law_words : PySem.W.codeIn K cd__law_words "_law_words" = true)
    (p__law_words : PySem.W.keepIn K (.ref f__law_words) = true)
    (a__law_grown : PySem.W.nsIn K mainGlobals "_law_grown" = some (some (.ref f__law_grown)))
    (l__law_grown : K.lookup f__law_grown = some ⟨oc__law_grown, od__law_grown, .func (PySem.W.fnOf "_law_grown" "_law_grown" (defArgs s__law_grown) (defBody s__law_grown) (defScope s__law_grown) .none kV__law_grown dc__law_grown pm__law_grown an__law_grown cd__law_grown ct__law_grown), sl__law_grown⟩)
    (q__law_grown : PySem.W.codeIn K cd__law_grown "_law_grown" = true)
    (p__law_grown : PySem.W.keepIn K (.ref f__law_grown) = true)
    (a__law_spoil : PySem.W.nsIn K mainGlobals "_law_spoil" = some (some (.ref f__law_spoil)))
    (l__law_spoil : K.lookup f__law_spoil = some ⟨oc__law_spoil, od__law_spoil, .func (PySem.W.fnOf "_law_spoil" "_law_spoil" (defArgs s__law_spoil) (defBody s__law_spoil) (defScope s__law_spoil) .none kV__law_spoil dc__law_spoil pm__law_spoil an__law_spoil cd__law_spoil ct__law_spoil), sl__law_spoil⟩)
    (q__law_spoil : PySem.W.codeIn K cd__law_spoil "_law_spoil" = true)
    (p__law_spoil : PySem.W.keepIn K (.ref f__law_spoil) = true)
    (a__law_bent : PySem.W.nsIn K mainGlobals "_law_bent" = some (some (.ref f__law_bent)))
    (l__law_bent : K.lookup f__law_bent = some ⟨oc__law_bent, od__law_bent, .func (PySem.W.fnOf "_law_bent" "_law_bent" (defArgs s__law_bent) (defBody s__law_bent) (defScope s__law_bent) .none kV__law_bent dc__law_bent pm__law_bent an__law_bent cd__law_bent ct__law_bent), sl__law_bent⟩)
    (q__law_bent : PySem.W.codeIn K cd__law_bent "_law_bent" = true)
    (p__law_bent : PySem.W.keepIn K (.ref f__law_bent) = true)
    (a__law_put : PySem.W.nsIn K mainGlobals "_law_put" = some (some (.ref f__law_put)))
    (l__law_put : K.lookup f__law_put = some ⟨oc__law_put, od__law_put, .func (PySem.W.fnOf "_law_put" "_law_put" (defArgs s__law_put) (defBody s__law_put) (defScope s__law_put) .none kV__law_put dc__law_put pm__law_put an__law_put cd__law_put ct__law_put), sl__law_put⟩)
    (q__law_put : PySem.W.codeIn K cd__law_put "_law_put" = true)
    (p__law_put : PySem.W.keepIn K (.ref f__law_put) = true)
    (a__law_no_name : PySem.W.nsIn K mainGlobals "_law_no_name" = some (some (.ref f__law_no_name)))
    (l__law_no_name : K.lookup f__law_no_name = some ⟨oc__law_no_name, od__law_no_name, .func (PySem.W.fnOf "_law_no_name" "_law_no_name" (defArgs s__law_no_name) (defBody s__law_no_name) (defScope s__law_no_name) .none kV__law_no_name dc__law_no_name pm__law_no_name an__law_no_name cd__law_no_name ct__law_no_name), sl__law_no_name⟩)
    (q__law_no_name : PySem.W.codeIn K cd__law_no_name "_law_no_name" = true)
    (p__law_no_name : PySem.W.keepIn K (.ref f__law_no_name) = true)
    (a_law : PySem.W.nsIn K mainGlobals "law" = some (some (.ref f_law)))
    (l_law : K.lookup f_law = some ⟨oc_law, od_law, .func (PySem.W.fnOf "law" "law" (defArgs s_law) (defBody s_law) (defScope s_law) .none kV_law dc_law pm_law an_law cd_law ct_law), sl_law⟩)
    (q_law : PySem.W.codeIn K cd_law "law" = true)
    (p_law : PySem.W.keepIn K (.ref f_law) = true)
    (zb_abs : PySem.W.nsIn K mainGlobals "abs" = some none)
    (zb_all : PySem.W.nsIn K mainGlobals "all" = some none)
    (zb_bool : PySem.W.nsIn K mainGlobals "bool" = some none)
    (zb_int : PySem.W.nsIn K mainGlobals "int" = some none)
    (zb_isinstance : PySem.W.nsIn K mainGlobals "isinstance" = some none)
    (zb_len : PySem.W.nsIn K mainGlobals "len" = some none)
    (zb_list : PySem.W.nsIn K mainGlobals "list" = some none)
    (zb_min : PySem.W.nsIn K mainGlobals "min" = some none)
    (zb_range : PySem.W.nsIn K mainGlobals "range" = some none)
    (zb_set : PySem.W.nsIn K mainGlobals "set" = some none)
    (zb_str : PySem.W.nsIn K mainGlobals "str" = some none)
    (zb_tuple : PySem.W.nsIn K mainGlobals "tuple" = some none)
    (em_SIGNS : PySem.W.nsIn K mainGlobals "SIGNS" = some (some (.str "abcdefghijklmnopqrstuvwxyz0123456789" tk_SIGNS)))
    (em_LONGEST : PySem.W.nsIn K mainGlobals "LONGEST" = some (some (.int 8 tk_LONGEST)))
    (em_MOST_BRANCHES : PySem.W.nsIn K mainGlobals "MOST_BRANCHES" = some (some (.int 6 tk_MOST_BRANCHES)))
    (em_MOST_WAYS : PySem.W.nsIn K mainGlobals "MOST_WAYS" = some (some (.int 64 tk_MOST_WAYS)))
    : ∃ fd : FuncData, (∀ (s : Shared) (v : Value), BindsTo s fd ⟨[v], []⟩ [("_law_script", v)]) ∧ ∀ base : Heap, K.In base → base.Ns mainGlobals mg → FnOk l.prog w K mg base (L2.CX l.prog w) 10 fa fd P_law (spD ⟨⟨K, w⟩, ecOf , fun _ _ => False, []⟩ d_law) := by
  have e := hfa.symm.trans (PySem.W.mg_of X G a_law)
  cases e
  have T : Txt K mg (ecOf ) := {
    b_abs := PySem.W.mg_none_of X G zb_abs
    b_all := PySem.W.mg_none_of X G zb_all
    b_bool := PySem.W.mg_none_of X G zb_bool
    b_int := PySem.W.mg_none_of X G zb_int
    b_isinstance := PySem.W.mg_none_of X G zb_isinstance
    b_len := PySem.W.mg_none_of X G zb_len
    b_list := PySem.W.mg_none_of X G zb_list
    b_min := PySem.W.mg_none_of X G zb_min
    b_range := PySem.W.mg_none_of X G zb_range
    b_set := PySem.W.mg_none_of X G zb_set
    b_str := PySem.W.mg_none_of X G zb_str
    b_tuple := PySem.W.mg_none_of X G zb_tuple
    m_SIGNS := ⟨_, PySem.W.mg_of X G em_SIGNS, ⟨_, rfl⟩⟩
    m_LONGEST := ⟨_, PySem.W.mg_of X G em_LONGEST, ⟨_, rfl⟩⟩
    m_MOST_BRANCHES := ⟨_, PySem.W.mg_of X G em_MOST_BRANCHES, ⟨_, rfl⟩⟩
    m_MOST_WAYS := ⟨_, PySem.W.mg_of X G em_MOST_WAYS, ⟨_, rfl⟩⟩
  }
  have L_is_whole : Ln K mg "is_whole" s_is_whole P_is_whole := ⟨f_is_whole, _, fun_mk (st := s_is_whole) l_is_whole q_is_whole p_is_whole, PySem.W.mg_of X G a_is_whole, (fun_mk (st := s_is_whole) l_is_whole q_is_whole p_is_whole).binds (ps := P_is_whole) fun _ _ _ _ _ _ us hl => match us, hl with | [_], _ => rfl⟩
  have L_divisor : Ln K mg "divisor" s_divisor P_divisor := ⟨f_divisor, _, fun_mk (st := s_divisor) l_divisor q_divisor p_divisor, PySem.W.mg_of X G a_divisor, (fun_mk (st := s_divisor) l_divisor q_divisor p_divisor).binds (ps := P_divisor) fun _ _ _ _ _ _ us hl => match us, hl with | [_, _], _ => rfl⟩
  have L_is_ratio : Ln K mg "is_ratio" s_is_ratio P_is_ratio := ⟨f_is_ratio, _, fun_mk (st := s_is_ratio) l_is_ratio q_is_ratio p_is_ratio, PySem.W.mg_of X G a_is_ratio, (fun_mk (st := s_is_ratio) l_is_ratio q_is_ratio p_is_ratio).binds (ps := P_is_ratio) fun _ _ _ _ _ _ us hl => match us, hl with | [_], _ => rfl⟩
  have L_is_name : Ln K mg "is_name" s_is_name P_is_name := ⟨f_is_name, _, fun_mk (st := s_is_name) l_is_name q_is_name p_is_name, PySem.W.mg_of X G a_is_name, (fun_mk (st := s_is_name) l_is_name q_is_name p_is_name).binds (ps := P_is_name) fun _ _ _ _ _ _ us hl => match us, hl with | [_], _ => rfl⟩
  have L_are_pairs : Ln K mg "are_pairs" s_are_pairs P_are_pairs := ⟨f_are_pairs, _, fun_mk (st := s_are_pairs) l_are_pairs q_are_pairs p_are_pairs, PySem.W.mg_of X G a_are_pairs, (fun_mk (st := s_are_pairs) l_are_pairs q_are_pairs p_are_pairs).binds (ps := P_are_pairs) fun _ _ _ _ _ _ us hl => match us, hl with | [_, _], _ => rfl⟩
  have L_is_place : Ln K mg "is_place" s_is_place P_is_place := ⟨f_is_place, _, fun_mk (st := s_is_place) l_is_place q_is_place p_is_place, PySem.W.mg_of X G a_is_place, (fun_mk (st := s_is_place) l_is_place q_is_place p_is_place).binds (ps := P_is_place) fun _ _ _ _ _ _ us hl => match us, hl with | [_], _ => rfl⟩
  have L_parts_of : Ln K mg "parts_of" s_parts_of P_parts_of := ⟨f_parts_of, _, fun_mk (st := s_parts_of) l_parts_of q_parts_of p_parts_of, PySem.W.mg_of X G a_parts_of, (fun_mk (st := s_parts_of) l_parts_of q_parts_of p_parts_of).binds (ps := P_parts_of) fun _ _ _ _ _ _ us hl => match us, hl with | [_], _ => rfl⟩
  have L_is_game : Ln K mg "is_game" s_is_game P_is_game := ⟨f_is_game, _, fun_mk (st := s_is_game) l_is_game q_is_game p_is_game, PySem.W.mg_of X G a_is_game, (fun_mk (st := s_is_game) l_is_game q_is_game p_is_game).binds (ps := P_is_game) fun _ _ _ _ _ _ us hl => match us, hl with | [_], _ => rfl⟩
  have L__law_cell_at : Ln K mg "_law_cell_at" s__law_cell_at P__law_cell_at := ⟨f__law_cell_at, _, fun_mk (st := s__law_cell_at) l__law_cell_at q__law_cell_at p__law_cell_at, PySem.W.mg_of X G a__law_cell_at, (fun_mk (st := s__law_cell_at) l__law_cell_at q__law_cell_at p__law_cell_at).binds (ps := P__law_cell_at) fun _ _ _ _ _ _ us hl => match us, hl with | [_, _], _ => rfl⟩
  have L__law_numbers : Ln K mg "_law_numbers" s__law_numbers P__law_numbers := ⟨f__law_numbers, _, fun_mk (st := s__law_numbers) l__law_numbers q__law_numbers p__law_numbers, PySem.W.mg_of X G a__law_numbers, (fun_mk (st := s__law_numbers) l__law_numbers q__law_numbers p__law_numbers).binds (ps := P__law_numbers) fun _ _ _ _ _ _ us hl => match us, hl with | [_], _ => rfl⟩
  have L__law_name : Ln K mg "_law_name" s__law_name P__law_name := ⟨f__law_name, _, fun_mk (st := s__law_name) l__law_name q__law_name p__law_name, PySem.W.mg_of X G a__law_name, (fun_mk (st := s__law_name) l__law_name q__law_name p__law_name).binds (ps := P__law_name) fun _ _ _ _ _ _ us hl => match us, hl with | [_], _ => rfl⟩
  have L__law_ratio : Ln K mg "_law_ratio" s__law_ratio P__law_ratio := ⟨f__law_ratio, _, fun_mk (st := s__law_ratio) l__law_ratio q__law_ratio p__law_ratio, PySem.W.mg_of X G a__law_ratio, (fun_mk (st := s__law_ratio) l__law_ratio q__law_ratio p__law_ratio).binds (ps := P__law_ratio) fun _ _ _ _ _ _ us hl => match us, hl with | [_], _ => rfl⟩
  have L__law_words : Ln K mg "_law_words" s__law_words P__law_words := ⟨f__law_words, _, fun_mk (st := s__law_words) l__law_words q__law_words p__law_words, PySem.W.mg_of X G a__law_words, (fun_mk (st := s__law_words) l__law_words q__law_words p__law_words).binds (ps := P__law_words) fun _ _ _ _ _ _ us hl => match us, hl with | [_, _], _ => rfl⟩
  have L__law_grown : Ln K mg "_law_grown" s__law_grown P__law_grown := ⟨f__law_grown, _, fun_mk (st := s__law_grown) l__law_grown q__law_grown p__law_grown, PySem.W.mg_of X G a__law_grown, (fun_mk (st := s__law_grown) l__law_grown q__law_grown p__law_grown).binds (ps := P__law_grown) fun _ _ _ _ _ _ us hl => match us, hl with | [_, _], _ => rfl⟩
  have L__law_spoil : Ln K mg "_law_spoil" s__law_spoil P__law_spoil := ⟨f__law_spoil, _, fun_mk (st := s__law_spoil) l__law_spoil q__law_spoil p__law_spoil, PySem.W.mg_of X G a__law_spoil, (fun_mk (st := s__law_spoil) l__law_spoil q__law_spoil p__law_spoil).binds (ps := P__law_spoil) fun _ _ _ _ _ _ us hl => match us, hl with | [_], _ => rfl⟩
  have L__law_bent : Ln K mg "_law_bent" s__law_bent P__law_bent := ⟨f__law_bent, _, fun_mk (st := s__law_bent) l__law_bent q__law_bent p__law_bent, PySem.W.mg_of X G a__law_bent, (fun_mk (st := s__law_bent) l__law_bent q__law_bent p__law_bent).binds (ps := P__law_bent) fun _ _ _ _ _ _ us hl => match us, hl with | [_], _ => rfl⟩
  have L__law_put : Ln K mg "_law_put" s__law_put P__law_put := ⟨f__law_put, _, fun_mk (st := s__law_put) l__law_put q__law_put p__law_put, PySem.W.mg_of X G a__law_put, (fun_mk (st := s__law_put) l__law_put q__law_put p__law_put).binds (ps := P__law_put) fun _ _ _ _ _ _ us hl => match us, hl with | [_, _, _], _ => rfl⟩
  have L__law_no_name : Ln K mg "_law_no_name" s__law_no_name P__law_no_name := ⟨f__law_no_name, _, fun_mk (st := s__law_no_name) l__law_no_name q__law_no_name p__law_no_name, PySem.W.mg_of X G a__law_no_name, (fun_mk (st := s__law_no_name) l__law_no_name q__law_no_name p__law_no_name).binds (ps := P__law_no_name) fun _ _ _ _ _ _ us hl => match us, hl with | [_, _], _ => rfl⟩
  refine ⟨PySem.W.fnOf "law" "law" (defArgs s_law) (defBody s_law) (defScope s_law) .none kV_law dc_law pm_law an_law cd_law ct_law, fun s v => .of_eq rfl, fun base _ _ => ?_⟩
  have F_is_whole : Fd l.prog w K mg base _ "is_whole" P_is_whole 1 Pg.d_is_whole := ok_is_whole T  L_is_whole
  have F_divisor : Fd l.prog w K mg base _ "divisor" P_divisor 1 Pg.d_divisor := ok_divisor T  L_divisor
  have F_is_ratio : Fd l.prog w K mg base _ "is_ratio" P_is_ratio 2 Pg.d_is_ratio := ok_is_ratio T F_divisor F_is_whole L_is_ratio
  have F_is_name : Fd l.prog w K mg base _ "is_name" P_is_name 1 Pg.d_is_name := ok_is_name T  L_is_name
  have F_are_pairs : Fd l.prog w K mg base _ "are_pairs" P_are_pairs 1 Pg.d_are_pairs := ok_are_pairs T  L_are_pairs
  have F_is_place : Fd l.prog w K mg base _ "is_place" P_is_place 3 Pg.d_is_place := ok_is_place T F_is_name F_are_pairs F_is_whole F_is_ratio L_is_place
  have F_parts_of : Fd l.prog w K mg base _ "parts_of" P_parts_of 1 Pg.d_parts_of := ok_parts_of T  L_parts_of
  have F_is_game : Fd l.prog w K mg base _ "is_game" P_is_game 4 Pg.d_is_game := ok_is_game T F_parts_of F_is_place L_is_game
  have F__law_cell_at : Fd l.prog w K mg base _ "_law_cell_at" P__law_cell_at 1 d__law_cell_at := ok__law_cell_at T  L__law_cell_at
  have F__law_numbers : Fd l.prog w K mg base _ "_law_numbers" P__law_numbers 1 d__law_numbers := ok__law_numbers T  L__law_numbers
  have F__law_name : Fd l.prog w K mg base _ "_law_name" P__law_name 1 d__law_name := ok__law_name T  L__law_name
  have F__law_ratio : Fd l.prog w K mg base _ "_law_ratio" P__law_ratio 1 d__law_ratio := ok__law_ratio T  L__law_ratio
  have F__law_words : Fd l.prog w K mg base _ "_law_words" P__law_words 2 d__law_words := ok__law_words T F__law_name L__law_words
  have F__law_grown : FdM l.prog w K mg base _ "_law_grown" P__law_grown 9 0 (d__law_grown 6) := (ok__law_grown T F__law_name F__law_words F__law_ratio L__law_grown 6)
  have F__law_spoil : Fd l.prog w K mg base _ "_law_spoil" P__law_spoil 1 d__law_spoil := ok__law_spoil T  L__law_spoil
  have F__law_bent : Fd l.prog w K mg base _ "_law_bent" P__law_bent 1 d__law_bent := ok__law_bent T  L__law_bent
  have F__law_put : Fd l.prog w K mg base _ "_law_put" P__law_put 9 (d__law_put 8) := (ok__law_put T  L__law_put 8)
  have F__law_no_name : Fd l.prog w K mg base _ "_law_no_name" P__law_no_name 1 d__law_no_name := ok__law_no_name T  L__law_no_name
  exact ok_law T F_is_game F__law_put F__law_bent F__law_cell_at F__law_spoil F_is_name F__law_no_name F__law_name F__law_grown F__law_numbers (fun_mk (st := s_law) l_law q_law p_law)
theorem walk {l : PySem.W.OpenLaw} {q : Program} {loose : List Str} {XP : (Str → Option Value) → Heap → Prop} {YP : World → Heap → Prop} {d : DefRec} {K : Params → PySem.W.Frag} (hn : l.most = some 63) (hdf : d.params.defaults = [])
    (hY : ∀ (w : World) (h : Heap), YP w h → (K w.params).In h) {ec : EC → Addr}
    (F : ∀ (w : World) (mg : Str → Option Value) (fa : Addr) (h : Heap), (K w.params).In h → h.Ns mainGlobals mg → mg d.name = some (.ref fa) →
      ∃ fd : FuncData, (∀ (s : Shared) (u : Value), BindsTo s fd ⟨[u], []⟩ [("_law_script", u)]) ∧ ∀ base : Heap, (K w.params).In base → base.Ns mainGlobals mg → FnOk l.prog w (K w.params) mg base (L2.CX l.prog w) 10 fa fd P_law (spD ⟨⟨K w.params, w⟩, ec, fun _ _ => False, []⟩ d_law)) :
    PySem.W.WalkO q loose XP YP l.row.toRowW d [] (fun f vs => PySem.call f vs) :=
  L2.walk_ofB (n := 63) (k := 10) (x := "_law_script") (CX := fun w => L2.CX l.prog w) (sp := fun w => spD ⟨⟨K w.params, w⟩, ec, fun _ _ => False, []⟩ d_law) hn (by decide) hdf ⟨rfl, by decide, by decide⟩ hY F (fun _ _ a ns hl hb _ hS => law_sp hS (law_ok ns hl)) fun _ _ _ _ _ z => cx_none z
end Gk06
open PySem PySem.W PyProof.Rows in
set_option maxRecDepth 100000 in
set_option maxHeartbeats 0 in
theorem PySem.Challenge.cw_hushduel_k06_what_is_a_game_holds : PySem.Challenge.rw_hushduel_k06_what_is_a_game.Holds := by
  w_on; o_law; k_head; (case hw => w_witness2)
  k_fill
  refine' Gk06.walk (l := PySem.Challenge.rw_hushduel_k06_what_is_a_game) (ec := Gk06.ecOf ) rfl rfl (fun w h Y => PySem.W.kIn_of Y) ?F
  case F =>
    intro w mg fa h KX G hmg
    refine' Gk06.all_mk KX G hmg ?a_is_whole ?l_is_whole ?q_is_whole ?p_is_whole ?a_divisor ?l_divisor ?q_divisor ?p_divisor ?a_is_ratio ?l_is_ratio ?q_is_ratio ?p_is_ratio ?a_is_name ?l_is_name ?q_is_name ?p_is_name ?a_are_pairs ?l_are_pairs ?q_are_pairs ?p_are_pairs ?a_is_place ?l_is_place ?q_is_place ?p_is_place ?a_parts_of ?l_parts_of ?q_parts_of ?p_parts_of ?a_is_game ?l_is_game ?q_is_game ?p_is_game ?a__law_cell_at ?l__law_cell_at ?q__law_cell_at ?p__law_cell_at ?a__law_numbers ?l__law_numbers ?q__law_numbers ?p__law_numbers ?a__law_name ?l__law_name ?q__law_name ?p__law_name ?a__law_ratio ?l__law_ratio ?q__law_ratio ?p__law_ratio ?a__law_words ?l__law_words ?q__law_words ?p__law_words ?a__law_grown ?l__law_grown ?q__law_grown ?p__law_grown ?a__law_spoil ?l__law_spoil ?q__law_spoil ?p__law_spoil ?a__law_bent ?l__law_bent ?q__law_bent ?p__law_bent ?a__law_put ?l__law_put ?q__law_put ?p__law_put ?a__law_no_name ?l__law_no_name ?q__law_no_name ?p__law_no_name ?a_law ?l_law ?q_law ?p_law ?zb_abs ?zb_all ?zb_bool ?zb_int ?zb_isinstance ?zb_len ?zb_list ?zb_min ?zb_range ?zb_set ?zb_str ?zb_tuple ?em_SIGNS ?em_LONGEST ?em_MOST_BRANCHES ?em_MOST_WAYS
    (case a_is_whole => k_is)
    (case l_is_whole => k_is)
    (case q_is_whole => k_is)
    (case p_is_whole => k_is)
    (case a_divisor => k_is)
    (case l_divisor => k_is)
    (case q_divisor => k_is)
    (case p_divisor => k_is)
    (case a_is_ratio => k_is)
    (case l_is_ratio => k_is)
    (case q_is_ratio => k_is)
    (case p_is_ratio => k_is)
    (case a_is_name => k_is)
    (case l_is_name => k_is)
    (case q_is_name => k_is)
    (case p_is_name => k_is)
    (case a_are_pairs => k_is)
    (case l_are_pairs => k_is)
    (case q_are_pairs => k_is)
    (case p_are_pairs => k_is)
    (case a_is_place => k_is)
    (case l_is_place => k_is)
    (case q_is_place => k_is)
    (case p_is_place => k_is)
    (case a_parts_of => k_is)
    (case l_parts_of => k_is)
    (case q_parts_of => k_is)
    (case p_parts_of => k_is)
    (case a_is_game => k_is)
    (case l_is_game => k_is)
    (case q_is_game => k_is)
    (case p_is_game => k_is)
    (case a__law_cell_at => k_is)
    (case l__law_cell_at => k_is)
    (case q__law_cell_at => k_is)
    (case p__law_cell_at => k_is)
    (case a__law_numbers => k_is)
    (case l__law_numbers => k_is)
    (case q__law_numbers => k_is)
    (case p__law_numbers => k_is)
    (case a__law_name => k_is)
    (case l__law_name => k_is)
    (case q__law_name => k_is)
    (case p__law_name => k_is)
    (case a__law_ratio => k_is)
    (case l__law_ratio => k_is)
    (case q__law_ratio => k_is)
    (case p__law_ratio => k_is)
    (case a__law_words => k_is)
    (case l__law_words => k_is)
    (case q__law_words => k_is)
    (case p__law_words => k_is)
    (case a__law_grown => k_is)
    (case l__law_grown => k_is)
    (case q__law_grown => k_is)
    (case p__law_grown => k_is)
    (case a__law_spoil => k_is)
    (case l__law_spoil => k_is)
    (case q__law_spoil => k_is)
    (case p__law_spoil => k_is)
    (case a__law_bent => k_is)
    (case l__law_bent => k_is)
    (case q__law_bent => k_is)
    (case p__law_bent => k_is)
    (case a__law_put => k_is)
    (case l__law_put => k_is)
    (case q__law_put => k_is)
    (case p__law_put => k_is)
    (case a__law_no_name => k_is)
    (case l__law_no_name => k_is)
    (case q__law_no_name => k_is)
    (case p__law_no_name => k_is)
    (case a_law => k_is)
    (case l_law => k_is)
    (case q_law => k_is)
    (case p_law => k_is)
    (case zb_abs => k_is)
    (case zb_all => k_is)
    (case zb_bool => k_is)
    (case zb_int => k_is)
    (case zb_isinstance => k_is)
    (case zb_len => k_is)
    (case zb_list => k_is)
    (case zb_min => k_is)
    (case zb_range => k_is)
    (case zb_set => k_is)
    (case zb_str => k_is)
    (case zb_tuple => k_is)
    (case em_SIGNS => k_is)
    (case em_LONGEST => k_is)
    (case em_MOST_BRANCHES => k_is)
    (case em_MOST_WAYS => k_is)
