import PyProof.Rows.All
import Wide.All
import OpenK.AllK
import Wide.FinOn
import HandS.ForMost
import HandS.ForExc
import HandS.CallSlots
import HandS.Deep
import HandS.TupAny
import HandS.TupLe
import HandS.Flow
import HandS.IsInst
import HandS.TupMul
import HandS.Conv
import HandS.SortRule
import HandS.SortInts
import HandS.Strs
import HandS.Zip
import HandS.ExcIs
import HandS.ExcField
import HandS.TryOnly
import KE.KExcIs
import PyProof.StrOps2
import HandS.RevRange
import PyProof.CollectIter
import PyProof.FactsAll.range_iterator_1
import HandS.SetFor
import HandS.More
import PyProof.TupleOfSeq
import HandS.Text
import HandS.ExcInit
import PySem.Challenge.RW_lodgefair_k01_fairs
set_option Elab.async false
set_option linter.all false
set_option maxRecDepth 100000
namespace PV
open PySem PySem.Spec L2
open PyProof.Rows hiding St

/-! ### results -/
inductive Res (α : Type) where
  | ok (a : α) | exc (c : Nat) (x : PyData) | bad
def Res.bind {α β : Type} (r : Res α) (g : α → Res β) : Res β := match r with
  | .ok a => g a
  | .exc c x => .exc c x
  | .bad => .bad
def Res.post {α : Type} (r : Res α) (P : α → Prop) (E : Nat → PyData → Prop) : Prop := match r with
  | .ok a => P a
  | .exc c x => E c x
  | .bad => False
theorem post_bind {α β : Type} {r : Res α} {g : α → Res β} {P : β → Prop} {E : Nat → PyData → Prop} (h : (r.bind g).post P E) : r.post (fun a => (g a).post P E) E := by
  cases r <;> exact h
theorem post_mono {α : Type} {r : Res α} {P P' : α → Prop} {E E' : Nat → PyData → Prop} (h : r.post P E) (hP : ∀ a, r = .ok a → P a → P' a) (hE : ∀ c x, E c x → E' c x) : r.post P' E' := by
  cases r with
  | ok a => exact hP a rfl h
  | exc c x => exact hE c x h
  | bad => exact h
theorem post_ok {α : Type} {a : α} {P : α → Prop} {E : Nat → PyData → Prop} (h : (Res.ok a).post P E) : P a := h

/-! ### deep values -/
def atomV : PyData → Option V
  | .none => some .non
  | .bool b => some (.bl b)
  | .int i => some (.int i)
  | .str x => some (.str x)
  | _ => none
def dictK : List (PyData × PyData) → Option (List (Key × V))
  | [] => some []
  | (.int k, d) :: r => match atomV d, dictK r with
    | some v, some ks => some ((Sum.inl k, v) :: ks)
    | _, _ => none
  | _ => none
/-- a list that nobody looks into or changes any more: what stands for it -/
def olP : List (PyData × PyData) := [(.none, .list [.none])]
abbrev olD : PyData := .dict olP
def isOl : List (PyData × PyData) → Bool
  | [(.none, .list [.none])] => true
  | _ => false
theorem isOl_of {kvs : List (PyData × PyData)} (h : isOl kvs = true) : kvs = olP := by
  unfold isOl at h
  split at h
  · rfl
  · cases h
mutual
def flat : PyData → Bool
  | .list _ => false
  | .dict kvs => isOl kvs
  | .tuple ds => flatL ds
  | .none => true
  | .bool _ => true
  | .int _ => true
  | .str _ => true
def flatL : List PyData → Bool
  | [] => true
  | d :: ds => flat d && flatL ds
end
/-- a tuple, its object known (no dict of its own) -/
def FT (H : Hp) (a : Addr) (xs : List V) : Prop := ∃ o : Obj, o.dict = none ∧ H a = some (.frz o (.tup xs))
theorem FT.sq {K : PySem.W.Frag} {H : Hp} {a : Addr} {xs : List V} (h : FT H a xs) : SqT K H a xs := let ⟨o, _, e⟩ := h; .inl (.inr ⟨o, e⟩)
/-- a list of ints that nobody changes (the script) -/
def Fz (K : PySem.W.Frag) (H : Hp) (a : Addr) (xs : List V) : Prop := (∃ o, H a = some (.frz o (.lst xs))) ∨
  ∃ (o : Obj) (its : Array Value) (n : Nat), K.lookup a = some o ∧ o.cls = .type "list" ∧ o.dict = none ∧ o.data = .seq its n ∧ its.size ≤ sizeLine ∧ Vals xs its.toList
theorem Fz.sq {K : PySem.W.Frag} {H : Hp} {a : Addr} {xs : List V} (h : Fz K H a xs) : SqL K H a xs := h.elim (fun h => .inl (.inr h)) .inr
/-- .. as deep data -/
def scrP (ns : List Int) : List (PyData × PyData) := [(.none, .list (ns.map .int))]
abbrev scrD (ns : List Int) : PyData := .dict (scrP ns)
/-- a caught exception, by its place; one that has the field at, with its dict's place -/
def excP (a : Addr) : List (PyData × PyData) := [(.bool true, .int (a : Nat))]
def excA (a d : Addr) (x : PyData) : List (PyData × PyData) := [(.bool true, .int (a : Nat)), (.bool false, .int (d : Nat)), (.none, x)]
def AtRep (H : Hp) (x : PyData) (w : V) : Prop := (x = .none ∧ w = .non) ∨ ∃ (s : Str) (n : Int) (T : Addr), x = .tuple [.str s, .int n] ∧ w = .ref T ∧ FT H T [.str s, .int n]
def ExRep (H : Hp) (kvs : List (PyData × PyData)) (v : V) : Prop := ∃ a, v = .ref a ∧ (kvs = excP a ∨ (∃ d x w, kvs = excA a d x ∧ H d = some (.xd [("at", w)]) ∧ AtRep H x w) ∨ (kvs = olP ∧ ∃ o xs, H a = some (.frz o (.lst xs))))
theorem ExRep.dictK {H : Hp} {kvs : List (PyData × PyData)} {v : V} (h : ExRep H kvs v) : dictK kvs = none := by
  obtain ⟨a, _, rfl | ⟨d, x, w, rfl, _⟩ | ⟨rfl, _⟩⟩ := h <;> rfl
theorem ExRep.ref {H : Hp} {kvs : List (PyData × PyData)} {v : V} (h : ExRep H kvs v) : v ≠ .non := by
  obtain ⟨a, rfl, _⟩ := h
  exact fun z => nomatch z
mutual
def Rep (K : PySem.W.Frag) (H : Hp) : PyData → V → List Addr → Prop
  | .none, v, F => v = .non ∧ F = []
  | .bool b, v, F => v = .bl b ∧ F = []
  | .int i, v, F => v = .int i ∧ F = []
  | .str x, v, F => v = .str x ∧ F = []
  | .list ds, v, F => ∃ a xs G, v = .ref a ∧ H a = some (.lst xs) ∧ RepL K H ds xs G ∧ F = a :: G
  | .tuple ds, v, F => ∃ a xs, v = .ref a ∧ FT H a xs ∧ RepL K H ds xs F
  | .dict kvs, v, F => (∃ a ks, v = .ref a ∧ dictK kvs = some ks ∧ H a = some (.dK ks) ∧ F = [a]) ∨ (∃ a ns, v = .ref a ∧ kvs = scrP ns ∧ Fz K H a (ns.map V.int) ∧ F = []) ∨ (ExRep H kvs v ∧ F = [])
def RepL (K : PySem.W.Frag) (H : Hp) : List PyData → List V → List Addr → Prop
  | [], xs, F => xs = [] ∧ F = []
  | d :: ds, xs, F => ∃ x ys F1 F2, xs = x :: ys ∧ Rep K H d x F1 ∧ RepL K H ds ys F2 ∧ F = F1 ++ F2
end
/-- what stands at a may be changed: a list or a dict of ours -/
def Mu (H : Hp) (a : Addr) : Prop := (∃ xs, H a = some (.lst xs)) ∨ ∃ ks, H a = some (.dK ks)
theorem Mu.same {H H' : Hp} {a : Addr} (s : Same H H') (m : Mu H a) : Mu H' a := m.elim (fun ⟨x, e⟩ => .inl ⟨x, s _ _ e⟩) fun ⟨x, e⟩ => .inr ⟨x, s _ _ e⟩
theorem Mu.some {H : Hp} {a : Addr} (m : Mu H a) : ∃ o, H a = some o := m.elim (fun ⟨x, e⟩ => ⟨_, e⟩) fun ⟨x, e⟩ => ⟨_, e⟩
theorem Mu.notnone {H : Hp} {a : Addr} (m : Mu H a) (n : H a = none) : False := by
  obtain ⟨o, e⟩ := m.some
  rw [n] at e; cases e

section
variable {K : PySem.W.Frag} {H H' : Hp}
theorem ft_keep0 {own : Addr → Prop} (k : ∀ a o, H a = some o → ¬ own a → H' a = some o) (m : ∀ a, own a → Mu H a) {a : Addr} {xs : List V} (h : FT H a xs) : FT H' a xs := by
  obtain ⟨o, d, h⟩ := h
  refine ⟨o, d, k _ _ h fun z => ?_⟩
  rcases m _ z with ⟨_, e⟩ | ⟨_, e⟩ <;> (rw [h] at e; cases e)
theorem ex_keep {own : Addr → Prop} (k : ∀ a o, H a = some o → ¬ own a → H' a = some o) (m : ∀ a, own a → Mu H a) {kvs : List (PyData × PyData)} {v : V} (h : ExRep H kvs v) : ExRep H' kvs v := by
  obtain ⟨a, e, h | ⟨d, x, w, h1, h2, h3⟩ | ⟨h, o, xs, h1⟩⟩ := h
  · exact ⟨a, e, .inl h⟩
  rotate_left
  · refine ⟨a, e, .inr (.inr ⟨h, o, xs, k _ _ h1 fun z => ?_⟩)⟩
    rcases m _ z with ⟨_, e⟩ | ⟨_, e⟩ <;> (rw [h1] at e; cases e)
  · refine ⟨a, e, .inr (.inl ⟨d, x, w, h1, k _ _ h2 fun z => ?_, ?_⟩)⟩
    · rcases m _ z with ⟨_, e⟩ | ⟨_, e⟩ <;> (rw [h2] at e; cases e)
    · rcases h3 with h3 | ⟨s, n, T, h4, h5, h6⟩
      · exact .inl h3
      · exact .inr ⟨s, n, T, h4, h5, ft_keep0 k m h6⟩
theorem fz_keep {own : Addr → Prop} (k : ∀ a o, H a = some o → ¬ own a → H' a = some o) (m : ∀ a, own a → Mu H a) {a : Addr} {xs : List V} (h : Fz K H a xs) : Fz K H' a xs := by
  rcases h with ⟨o, h⟩ | h
  · refine .inl ⟨o, k _ _ h fun z => ?_⟩
    rcases m _ z with ⟨_, e⟩ | ⟨_, e⟩ <;> (rw [h] at e; cases e)
  · exact .inr h
theorem ft_keep {own : Addr → Prop} (k : ∀ a o, H a = some o → ¬ own a → H' a = some o) (m : ∀ a, own a → Mu H a) {a : Addr} {xs : List V} (h : FT H a xs) : FT H' a xs := by
  obtain ⟨o, d, h⟩ := h
  refine ⟨o, d, k _ _ h fun z => ?_⟩
  rcases m _ z with ⟨_, e⟩ | ⟨_, e⟩ <;> (rw [h] at e; cases e)
mutual
theorem Rep.keep {own : Addr → Prop} (k : ∀ a o, H a = some o → ¬ own a → H' a = some o) (m : ∀ a, own a → Mu H a) : ∀ (d : PyData) (v : V) (F : List Addr), (∀ a ∈ F, ¬ own a) → Rep K H d v F → Rep K H' d v F
  | .none, _, _, _, h => h
  | .bool _, _, _, _, h => h
  | .int _, _, _, _, h => h
  | .str _, _, _, _, h => h
  | .list ds, _, _, n, h => by
    obtain ⟨a, xs, G, rfl, h1, h2, rfl⟩ := h
    exact ⟨a, xs, G, rfl, k _ _ h1 (n a List.mem_cons_self), RepL.keep k m ds xs G (fun b hb => n b (List.mem_cons_of_mem _ hb)) h2, rfl⟩
  | .tuple ds, _, _, n, h => by
    obtain ⟨a, xs, rfl, h1, h2⟩ := h
    exact ⟨a, xs, rfl, ft_keep k m h1, RepL.keep k m ds xs _ n h2⟩
  | .dict kvs, _, _, n, h => by
    rcases h with ⟨a, ks, rfl, h1, h2, rfl⟩ | ⟨a, ns, rfl, h1, h2, rfl⟩ | h
    · exact .inl ⟨a, ks, rfl, h1, k _ _ h2 (n a List.mem_cons_self), rfl⟩
    · exact .inr (.inl ⟨a, ns, rfl, h1, fz_keep k m h2, rfl⟩)
    · exact .inr (.inr ⟨ex_keep k m h.1, h.2⟩)
theorem RepL.keep {own : Addr → Prop} (k : ∀ a o, H a = some o → ¬ own a → H' a = some o) (m : ∀ a, own a → Mu H a) : ∀ (ds : List PyData) (xs : List V) (F : List Addr), (∀ a ∈ F, ¬ own a) → RepL K H ds xs F → RepL K H' ds xs F
  | [], _, _, _, h => h
  | d :: ds, _, _, n, h => by
    obtain ⟨x, ys, F1, F2, rfl, h1, h2, rfl⟩ := h
    exact ⟨x, ys, F1, F2, rfl, Rep.keep k m d x F1 (fun b hb => n b (List.mem_append_left _ hb)) h1, RepL.keep k m ds ys F2 (fun b hb => n b (List.mem_append_right _ hb)) h2, rfl⟩
end
theorem Rep.mono (s : Same H H') {d : PyData} {v : V} {F : List Addr} (h : Rep K H d v F) : Rep K H' d v F :=
  Rep.keep (own := fun _ => False) (fun a o e _ => s a o e) (fun _ z => z.elim) d v F (fun _ _ z => z) h
theorem RepL.mono (s : Same H H') {d : List PyData} {v : List V} {F : List Addr} (h : RepL K H d v F) : RepL K H' d v F :=
  RepL.keep (own := fun _ => False) (fun a o e _ => s a o e) (fun _ z => z.elim) d v F (fun _ _ z => z) h
mutual
theorem Rep.flat : ∀ (d : PyData) (v : V) (F : List Addr), flat d = true → Rep K H d v F → F = []
  | .none, _, _, _, h => h.2
  | .bool _, _, _, _, h => h.2
  | .int _, _, _, _, h => h.2
  | .str _, _, _, _, h => h.2
  | .list ds, _, _, n, h => by simp [PV.flat] at n
  | .tuple ds, _, _, n, h => by
    obtain ⟨a, xs, rfl, h1, h2⟩ := h
    exact RepL.flat ds xs _ (by simpa [PV.flat] using n) h2
  | .dict kvs, _, _, n, h => by
    have n : isOl kvs = true := by rw [PV.flat] at n; exact n
    have e := isOl_of n
    subst e
    rcases h with ⟨a, ks, _, h1, _, _⟩ | ⟨a, ns, _, h1, _, e⟩ | ⟨_, e⟩
    · cases h1
    · exact e
    · exact e
theorem RepL.flat : ∀ (ds : List PyData) (xs : List V) (F : List Addr), flatL ds = true → RepL K H ds xs F → F = []
  | [], _, _, _, h => h.2
  | d :: ds, _, _, n, h => by
    obtain ⟨x, ys, F1, F2, rfl, h1, h2, rfl⟩ := h
    have n' : PV.flat d = true ∧ flatL ds = true := by simpa [PV.flatL] using n
    rw [Rep.flat d x F1 n'.1 h1, RepL.flat ds ys F2 n'.2 h2]
    rfl
end
mutual
theorem Rep.mu : ∀ (d : PyData) (v : V) (F : List Addr), Rep K H d v F → ∀ a ∈ F, Mu H a
  | .none, _, _, h => by rw [h.2]; exact fun _ z => (nomatch z)
  | .bool _, _, _, h => by rw [h.2]; exact fun _ z => (nomatch z)
  | .int _, _, _, h => by rw [h.2]; exact fun _ z => (nomatch z)
  | .str _, _, _, h => by rw [h.2]; exact fun _ z => (nomatch z)
  | .list ds, _, _, h => by
    obtain ⟨a, xs, G, rfl, h1, h2, rfl⟩ := h
    intro b hb
    rcases List.mem_cons.mp hb with rfl | hb
    · exact .inl ⟨xs, h1⟩
    · exact RepL.mu ds xs G h2 b hb
  | .tuple ds, _, _, h => by
    obtain ⟨a, xs, rfl, h1, h2⟩ := h
    exact RepL.mu ds xs _ h2
  | .dict kvs, _, _, h => by
    rcases h with ⟨a, ks, rfl, h1, h2, rfl⟩ | ⟨a, ns, rfl, h1, h2, rfl⟩ | ⟨h1, rfl⟩
    · intro b hb
      rw [List.mem_singleton] at hb
      subst hb
      exact .inr ⟨ks, h2⟩
    · exact fun _ z => (nomatch z)
    · exact fun _ z => (nomatch z)
theorem RepL.mu : ∀ (ds : List PyData) (xs : List V) (F : List Addr), RepL K H ds xs F → ∀ a ∈ F, Mu H a
  | [], _, _, h => by rw [h.2]; exact fun _ z => (nomatch z)
  | d :: ds, _, _, h => by
    obtain ⟨x, ys, F1, F2, rfl, h1, h2, rfl⟩ := h
    intro b hb
    exact (List.mem_append.mp hb).elim (Rep.mu d x F1 h1 b) (RepL.mu ds ys F2 h2 b)
end
theorem RepL.length : ∀ {ds : List PyData} {xs : List V} {F : List Addr}, RepL K H ds xs F → xs.length = ds.length
  | [], _, _, h => by rw [h.1]; rfl
  | d :: ds, _, _, h => by
    obtain ⟨x, ys, F1, F2, rfl, h1, h2, rfl⟩ := h
    simp [RepL.length h2]
theorem RepL.get : ∀ {ds : List PyData} {xs : List V} {F : List Addr} {i : Nat} {d : PyData}, RepL K H ds xs F → ds[i]? = some d → ∃ x F1 G F2, xs[i]? = some x ∧ Rep K H d x G ∧ F = F1 ++ G ++ F2
  | [], _, _, _, _, _, e => by simp at e
  | d :: ds, _, _, 0, _, h, e => by
    obtain ⟨x, ys, F1, F2, rfl, h1, h2, rfl⟩ := h
    simp at e; subst e
    exact ⟨x, [], F1, F2, rfl, h1, rfl⟩
  | d :: ds, _, _, i + 1, e, h, he => by
    obtain ⟨x, ys, F1, F2, rfl, h1, h2, rfl⟩ := h
    obtain ⟨y, G1, G, G2, q1, q2, rfl⟩ := RepL.get (i := i) h2 (by simpa using he)
    exact ⟨y, F1 ++ G1, G, G2, by simpa using q1, q2, by simp [List.append_assoc]⟩
theorem RepL.append : ∀ {ds es : List PyData} {xs ys : List V} {F G : List Addr}, RepL K H ds xs F → RepL K H es ys G → RepL K H (ds ++ es) (xs ++ ys) (F ++ G)
  | [], _, _, _, _, _, h, q => by obtain ⟨rfl, rfl⟩ := h; exact q
  | d :: ds, _, _, _, _, _, h, q => by
    obtain ⟨x, zs, F1, F2, rfl, h1, h2, rfl⟩ := h
    exact ⟨x, _, F1, _, rfl, h1, RepL.append h2 q, by simp [List.append_assoc]⟩
theorem RepL.one {d : PyData} {x : V} {F : List Addr} (h : Rep K H d x F) : RepL K H [d] [x] F := ⟨x, [], F, [], rfl, h, ⟨rfl, rfl⟩, by simp⟩
theorem RepL.drop : ∀ (n : Nat) {ds : List PyData} {xs : List V} {F : List Addr}, RepL K H ds xs F → ∃ G1 G, F = G1 ++ G ∧ RepL K H (ds.drop n) (xs.drop n) G
  | 0, _, _, F, h => ⟨[], F, rfl, h⟩
  | n + 1, [], _, _, h => by obtain ⟨rfl, rfl⟩ := h; exact ⟨[], [], rfl, rfl, rfl⟩
  | n + 1, d :: ds, _, _, h => by
    obtain ⟨x, ys, F1, F2, rfl, h1, h2, rfl⟩ := h
    obtain ⟨G1, G, rfl, q⟩ := RepL.drop n h2
    exact ⟨F1 ++ G1, G, by simp [List.append_assoc], q⟩
theorem RepL.take : ∀ (n : Nat) {ds : List PyData} {xs : List V} {F : List Addr}, RepL K H ds xs F → ∃ G G2, F = G ++ G2 ∧ RepL K H (ds.take n) (xs.take n) G
  | 0, _, _, F, h => ⟨[], F, rfl, rfl, rfl⟩
  | n + 1, [], _, _, h => by obtain ⟨rfl, rfl⟩ := h; exact ⟨[], [], rfl, rfl, rfl⟩
  | n + 1, d :: ds, _, _, h => by
    obtain ⟨x, ys, F1, F2, rfl, h1, h2, rfl⟩ := h
    obtain ⟨G, G2, rfl, q⟩ := RepL.take n h2
    exact ⟨F1 ++ G, G2, by simp [List.append_assoc], ⟨x, _, F1, G, rfl, h1, q, rfl⟩⟩
theorem RepL.cons {d : PyData} {ds : List PyData} {x : V} {xs : List V} {F G : List Addr} (h : Rep K H d x F) (q : RepL K H ds xs G) : RepL K H (d :: ds) (x :: xs) (F ++ G) := ⟨x, xs, F, G, rfl, h, q, rfl⟩
/-- an item, from the places of the values -/
theorem RepL.getV {ds : List PyData} {xs : List V} {F : List Addr} {i : Nat} {x : V} (h : RepL K H ds xs F) (e : xs[i]? = some x) : ∃ d, ds[i]? = some d := by
  have hl := h.length
  obtain ⟨q, _⟩ := List.getElem?_eq_some_iff.mp e
  exact ⟨ds[i]'(by omega), List.getElem?_eq_getElem (by omega)⟩
end

/-! ### the locals -/
abbrev Lo := List (Option PyData)
structure Slots (K : PySem.W.Frag) (env : Lo) (σ : St) (H : Hp) (Fs : Nat → List Addr) : Prop where
  len : env.length = σ.length
  rep : ∀ (i : Nat) (d : PyData), env[i]? = some (some d) → ∃ v, σ[i]? = some (some v) ∧ Rep K H d v (Fs i)
  non : ∀ i : Nat, (∀ d, env[i]? ≠ some (some d)) → Fs i = []
theorem Slots.mono {K : PySem.W.Frag} {env : Lo} {σ : St} {H H' : Hp} {Fs : Nat → List Addr} (h : Slots K env σ H Fs) (s : Same H H') : Slots K env σ H' Fs :=
  ⟨h.len, fun i d e => let ⟨v, q, r⟩ := h.rep i d e; ⟨v, q, r.mono s⟩, h.non⟩
/-- a footprint F of something made between H and H': new, or out of the slots A -/
structure Got (K : PySem.W.Frag) (A : List Nat) (H : Hp) (Fs : Nat → List Addr) (d : PyData) (v : V) (H' : Hp) (F : List Addr) : Prop where
  rep : Rep K H' d v F
  same : Same H H'
  src : ∀ a ∈ F, (H a = none ∧ Mu H' a) ∨ a ∈ A.flatMap Fs
  nd : (A.flatMap Fs).Nodup → (∀ a ∈ A.flatMap Fs, Mu H a) → F.Nodup
structure GotL (K : PySem.W.Frag) (A : List Nat) (H : Hp) (Fs : Nat → List Addr) (d : List PyData) (v : List V) (H' : Hp) (F : List Addr) : Prop where
  rep : RepL K H' d v F
  same : Same H H'
  src : ∀ a ∈ F, (H a = none ∧ Mu H' a) ∨ a ∈ A.flatMap Fs
  nd : (A.flatMap Fs).Nodup → (∀ a ∈ A.flatMap Fs, Mu H a) → F.Nodup
/-- an exception: tag 0 has the field at -/
def ExAt (K : PySem.W.Frag) (H : Hp) (c : Nat) (x : PyData) (dx : Option Addr) : Prop :=
  if c = 0 then flat x = true ∧ ∃ d v, dx = some d ∧ H d = some (.xd [("at", v)]) ∧ Rep K H x v [] else dx = none
/-- the context's own data: the classes by tag, what is wished of exceptions -/
structure Cc where
  ec : Nat → Addr
  W : WX
def tv (K : PySem.W.Frag) (C : Cc) (A : List Nat) (f : Lo → Res PyData) : TE := fun σ H Q => ∃ env Fs, Slots K env σ H Fs ∧
  (f env).post (fun d => ∀ v H' F, Got K A H Fs d v H' F → Q v H') fun c x => ∀ H' dx, Same H H' → ExAt K H' c x dx → C.W (.ref (C.ec c)) dx σ H'
def tvs (K : PySem.W.Frag) (C : Cc) (A : List Nat) (f : Lo → Res (List PyData)) : TA := fun σ H Q => ∃ env Fs, Slots K env σ H Fs ∧
  (f env).post (fun d => ∀ v H' F, GotL K A H Fs d v H' F → Q v H') fun c x => ∀ H' dx, Same H H' → ExAt K H' c x dx → C.W (.ref (C.ec c)) dx σ H'
def tvt (K : PySem.W.Frag) (C : Cc) (f : Lo → Res Bool) : TT := fun σ H Q => ∃ env Fs, Slots K env σ H Fs ∧
  (f env).post (fun b => ∀ H', Same H H' → Q b H') fun c x => ∀ H' dx, Same H H' → ExAt K H' c x dx → C.W (.ref (C.ec c)) dx σ H'
abbrev VE (X : Cx) (C : Cc) (A : List Nat) (e : Expr) (f : Lo → Res PyData) : Prop := PE X e (tv X.K C A f)
abbrev VA (X : Cx) (C : Cc) (A : List Nat) (es : List Expr) (f : Lo → Res (List PyData)) : Prop := PA X es (tvs X.K C A f)
abbrev VT (X : Cx) (C : Cc) (e : Expr) (f : Lo → Res Bool) : Prop := PT X e (tvt X.K C f)

section
variable {X : Cx} {C : Cc} {e a b : Expr} {es : List Expr} {pos : Pos}
theorem _root_.L2.PE.by {t' : TE} (h : ∀ σ H Q, t' σ H Q → ∃ t, PE X e t ∧ t σ H Q) : PE X e t' := ⟨fun pins s σ H Q I hw => let ⟨t, p, q⟩ := h σ H Q hw; p.run pins s σ H Q I q⟩
theorem _root_.L2.PE.imp {t t' : TE} (p : PE X e t) (h : ∀ σ H Q, t' σ H Q → t σ H Q) : PE X e t' := ⟨fun pins s σ H Q I hw => p.run pins s σ H Q I (h σ H Q hw)⟩
theorem _root_.L2.PT.by {t' : TT} (h : ∀ σ H Q, t' σ H Q → ∃ t, PT X e t ∧ t σ H Q) : PT X e t' := ⟨fun pins s σ H Q I hw => let ⟨t, p, q⟩ := h σ H Q hw; p.run pins s σ H Q I q⟩
theorem _root_.L2.PT.imp {t t' : TT} (p : PT X e t) (h : ∀ σ H Q, t' σ H Q → t σ H Q) : PT X e t' := ⟨fun pins s σ H Q I hw => p.run pins s σ H Q I (h σ H Q hw)⟩
theorem _root_.L2.PA.imp {t t' : TA} (p : PA X es t) (h : ∀ σ H Q, t' σ H Q → t σ H Q) : PA X es t' := ⟨fun ps pins s σ H Q I hw => p.run ps pins s σ H Q I (h σ H Q hw)⟩

/-! the sequence of two: the workhorse -/
theorem Got.flat {K : PySem.W.Frag} {A : List Nat} {H H' : Hp} {Fs : Nat → List Addr} {d : PyData} {v : V} (s : Same H H') (r : Rep K H' d v []) : Got K A H Fs d v H' [] := ⟨r, s, fun _ z => (nomatch z), fun _ _ => List.nodup_nil⟩

/-! ### names, constants -/
def eVar (i : Nat) : Lo → Res PyData := fun env => match env[i]? with
  | some (some d) => .ok d
  | _ => .bad
def eC (d : PyData) : Lo → Res PyData := fun _ => .ok d
theorem ve_var (i : Nat) {x : Str} (hN : X.N[i]? = some x := by rfl) (hv : Vis X.env.scope x := by first | exact Or.inl rfl | exact Or.inr (Or.inl rfl) | exact Or.inr (Or.inr rfl)) (hd : (x == ("__debug__" : Str)) = false := by decide)
    (hcd : (x == ("__classdict__" : Str)) = false := by decide) : VE X C [i] (.Name x pos) (eVar i) := (pv i hN hv hd hcd).imp fun σ H Q ⟨env, Fs, hs, h⟩ => by
  unfold eVar at h
  split at h
  · rename_i d e
    obtain ⟨v, q, r⟩ := hs.rep i d e
    exact ⟨v, q, h v H (Fs i) ⟨r, Same.refl H, fun a ha => .inr (by simpa using ha), fun nd _ => by simpa using nd⟩⟩
  · exact h.elim
theorem ve_C {v : V} {d : PyData} (p : PE X e (tC v)) (r : ∀ H, Rep X.K H d v []) : VE X C [] e (eC d) := p.imp fun σ H Q ⟨env, Fs, hs, h⟩ => h v H [] (.flat (Same.refl H) (r H))
theorem ve_int {i j pos} : VE X C [] (.Constant (.int i) j pos) (eC (.int i)) := ve_C pe_int fun _ => ⟨rfl, rfl⟩
theorem ve_bl {i j pos} : VE X C [] (.Constant (.bool i) j pos) (eC (.bool i)) := ve_C pe_bl fun _ => ⟨rfl, rfl⟩
theorem ve_non {j pos} : VE X C [] (.Constant .none j pos) (eC .none) := ve_C pe_non fun _ => ⟨rfl, rfl⟩
theorem ve_str {i j pos} : VE X C [] (.Constant (.str i) j pos) (eC (.str i)) := ve_C pe_str fun _ => ⟨rfl, rfl⟩
/-- a global that is a constant -/
theorem ve_glob {x : Str} {i : Int} {u : Value} (hg : Gl X x) (hm : X.mg x = some u) (r : ∃ t, u = .int i t) (hd : (x == ("__debug__" : Str)) = false := by decide) : VE X C [] (.Name x pos) (eC (.int i)) :=
  ve_C (pe_glob (v := .int i) hg hm r hd) fun _ => ⟨rfl, rfl⟩

/-! ### arguments, displays -/
def eNil : Lo → Res (List PyData) := fun _ => .ok []
def eCons (f : Lo → Res PyData) (g : Lo → Res (List PyData)) : Lo → Res (List PyData) := fun env => (f env).bind fun d => (g env).bind fun ds => .ok (d :: ds)
theorem va_nil : VA X C [] [] eNil := pa_nil.imp fun σ H Q ⟨env, Fs, hs, h⟩ => h [] H [] ⟨⟨rfl, rfl⟩, Same.refl H, fun _ z => (nomatch z), fun _ _ => List.nodup_nil⟩
/-- two footprints, got one behind the other -/
theorem nodup_app {H H1 : Hp} {F1 F2 G1 G2 : List Addr} (n1 : F1.Nodup) (n2 : F2.Nodup) (s : Same H H1) (s1 : ∀ a ∈ F1, (H a = none ∧ Mu H1 a) ∨ a ∈ G1) (s2 : ∀ a ∈ F2, H1 a = none ∨ a ∈ G2)
    (nd : (G1 ++ G2).Nodup) (mu : ∀ a ∈ G1 ++ G2, Mu H a) : (F1 ++ F2).Nodup :=
  List.nodup_append.mpr ⟨n1, n2, fun a ha b hb e => by
    subst e
    rcases s1 a ha with ⟨z1, m1⟩ | z1 <;> rcases s2 a hb with z2 | z2
    · exact m1.notnone z2
    · exact (mu a (List.mem_append_right _ z2)).notnone z1
    · exact ((mu a (List.mem_append_left _ z1)).same s).notnone z2
    · exact (List.nodup_append.mp nd).2.2 a z1 a z2 rfl⟩
theorem nodupL {G1 G2 : List Addr} (nd : (G1 ++ G2).Nodup) : G1.Nodup := (List.nodup_append.mp nd).1
theorem nodupR {G1 G2 : List Addr} (nd : (G1 ++ G2).Nodup) : G2.Nodup := (List.nodup_append.mp nd).2.1
theorem fm_app {A B : List Nat} {Fs : Nat → List Addr} : (A ++ B).flatMap Fs = A.flatMap Fs ++ B.flatMap Fs := List.flatMap_append
theorem va_cons {A B : List Nat} {f : Lo → Res PyData} {g : Lo → Res (List PyData)} (ha : VE X C A e f) (hr : VA X C B es g) (hs : starEach (e :: es) X.env = (false, eval e X.env) :: starEach es X.env := by rfl) : VA X C (A ++ B) (e :: es) (eCons f g) :=
  (pa_cons ha hr hs).imp fun σ H Q ⟨env, Fs, hs, h⟩ => by
  refine ⟨env, Fs, hs, post_mono (post_bind h) (fun d _ h1 v H1 F g1 => ?_) fun _ _ h => h⟩
  refine ⟨env, Fs, hs.mono g1.same, post_mono (post_bind h1) (fun ds _ h2 vs H2 G g2 => ?_) fun _ _ h H' dx s x => h H' dx (g1.same.trans s) x⟩
  refine h2 (v :: vs) H2 (F ++ G) ⟨.cons (g1.rep.mono g2.same) g2.rep, g1.same.trans g2.same, fun a ha => ?_, fun nd mu => ?_⟩
  · rw [fm_app]
    rcases List.mem_append.mp ha with ha | ha
    · rcases g1.src a ha with ⟨n, m⟩ | z
      · exact .inl ⟨n, m.same g2.same⟩
      · exact .inr (List.mem_append_left _ z)
    · rcases g2.src a ha with ⟨n, m⟩ | z
      · exact .inl ⟨g1.same.free n, m⟩
      · exact .inr (List.mem_append_right _ z)
  · rw [fm_app] at nd mu
    exact nodup_app (g1.nd (nodupL nd) fun a ha => mu a (List.mem_append_left _ ha)) (g2.nd (nodupR nd) fun a ha => (mu a (List.mem_append_right _ ha)).same g1.same) g1.same g1.src (fun a ha => (g2.src a ha).imp (fun z => z.1) id) nd mu
def eTup (f : Lo → Res (List PyData)) : Lo → Res PyData := fun env => (f env).bind fun ds => if ds.length ≤ 1000 then .ok (.tuple ds) else .bad
def eLst (f : Lo → Res (List PyData)) : Lo → Res PyData := fun env => (f env).bind fun ds => if ds.length ≤ 1000 then .ok (.list ds) else .bad
theorem line1000 {n : Nat} (h : n ≤ 1000) : n ≤ sizeLine := Nat.le_of_lt (small1000 h)
theorem same_upd {H : Hp} {p : Addr} {o : HO} (h : H p = none) : Same H (upd H p o) := fun b x e => by
  rw [upd_ne (ne_of_none e h)]
  exact e
def TupO (us : List Value) : Obj := { cls := .type "tuple", data := .seq us.toArray }
/-- a new tuple is laid -/
theorem _root_.L2.Inv.newTup {pins : List (Addr × Obj)} {σ : St} {H : Hp} {s : Shared} {us : List Value} {xs : List V} {t' : Nat} (I : Inv X pins σ H s) (r : Vals xs us) (z : xs.length ≤ sizeLine) :
    Inv X pins σ (upd H s.heap.objs.size (.frz (TupO us) (.tup xs))) { s with heap := s.heap.push (TupO us), toks := t' } :=
  I.laid (o := .frz (TupO us) (.tup xs)) (fun b u e => Heap.get?_push_of_some _ e) (Nat.le_refl _) ⟨Heap.get?_push_size _ rfl, z, us, r, ⟨_, Heap.get?_push_size _ rfl, rfl, _, rfl⟩⟩
def tTupF (t : TA) : TE := fun σ H Q => t σ H fun xs H1 => xs.length ≤ sizeLine ∧ ∀ p o, H1 p = none → o.dict = none → Q (.ref p) (upd H1 p (.frz o (.tup xs)))
theorem pe_tupF {x1} {t : TA} (h : PA X es t) : PE X (.Tuple es x1 pos) (tTupF t) := by
  refine ⟨fun pins s σ H Q I hq => ?_⟩
  refine wpAny_Tuple_spliced (thn (h.run pos pins s σ H _ I hq) fun us s1 ⟨xs, H1, I1, r, z, q⟩ => ⟨by rw [← r.length]; exact z, ?_⟩)
  have hf : H1 s1.heap.objs.size = none := I1.hok.fresh (Nat.le_refl _)
  exact ⟨.ref s1.heap.objs.size, _, I1.newTup (t' := s1.toks) r z, rfl, q _ _ hf rfl⟩
/-- a new tuple at p on top of what was got -/
theorem got_tup {K : PySem.W.Frag} {A : List Nat} {H H1 : Hp} {Fs : Nat → List Addr} {ds : List PyData} {xs : List V} {G : List Addr} {p : Addr} {o : Obj} (rep : RepL K H1 ds xs G) (same : Same H H1)
    (src : ∀ a ∈ G, (H a = none ∧ Mu H1 a) ∨ a ∈ A.flatMap Fs) (nd : (A.flatMap Fs).Nodup → (∀ a ∈ A.flatMap Fs, Mu H a) → G.Nodup) (np : H1 p = none) (od : o.dict = none) : Got K A H Fs (.tuple ds) (.ref p) (upd H1 p (.frz o (.tup xs))) G := by
  have s := same_upd (o := .frz o (.tup xs)) np
  refine ⟨⟨p, xs, rfl, ⟨o, od, upd_same⟩, rep.mono s⟩, same.trans s, fun a ha => ?_, nd⟩
  rcases src a ha with ⟨n, m⟩ | z
  · exact .inl ⟨n, m.same s⟩
  · exact .inr z
theorem ve_tup {A : List Nat} {f : Lo → Res (List PyData)} {x1} (h : VA X C A es f) : VE X C A (.Tuple es x1 pos) (eTup f) := (pe_tupF h).imp fun σ H Q ⟨env, Fs, hs, h⟩ => by
  refine ⟨env, Fs, hs, post_mono (post_bind h) (fun ds _ h1 v H1 F g1 => ?_) fun _ _ h => h⟩
  by_cases hl : ds.length ≤ 1000
  · rw [if_pos hl] at h1
    exact ⟨by rw [g1.rep.length]; exact line1000 hl, fun p o np od => h1 (.ref p) _ F (got_tup g1.rep g1.same g1.src g1.nd np od)⟩
  · rw [if_neg hl] at h1
    exact h1.elim
/-- a new list at p on top of what was got -/
theorem got_lst {K : PySem.W.Frag} {A : List Nat} {H H1 : Hp} {Fs : Nat → List Addr} {ds : List PyData} {xs : List V} {G : List Addr} {p : Addr} (rep : RepL K H1 ds xs G) (same : Same H H1)
    (src : ∀ a ∈ G, (H a = none ∧ Mu H1 a) ∨ a ∈ A.flatMap Fs) (nd : (A.flatMap Fs).Nodup → (∀ a ∈ A.flatMap Fs, Mu H a) → G.Nodup) (np : H1 p = none) : Got K A H Fs (.list ds) (.ref p) (upd H1 p (.lst xs)) (p :: G) := by
  have s := same_upd (o := .lst xs) np
  refine ⟨⟨p, xs, G, rfl, upd_same, rep.mono s, rfl⟩, same.trans s, fun a ha => ?_, fun n m => ?_⟩
  · rcases List.mem_cons.mp ha with rfl | ha
    · exact .inl ⟨same.free np, .inl ⟨xs, upd_same⟩⟩
    · rcases src a ha with ⟨n, m⟩ | z
      · exact .inl ⟨n, m.same s⟩
      · exact .inr z
  · refine List.nodup_cons.mpr ⟨fun hp => ?_, nd n m⟩
    rcases src p hp with ⟨_, m'⟩ | z
    · exact m'.notnone np
    · exact (m p z).notnone (same.free np)
theorem ve_lst {A : List Nat} {f : Lo → Res (List PyData)} (h : VA X C A es f) : VE X C A (.List es pos) (eLst f) := (pe_lst h).imp fun σ H Q ⟨env, Fs, hs, h⟩ => by
  refine ⟨env, Fs, hs, post_mono (post_bind h) (fun ds _ h1 v H1 F g1 => ?_) fun _ _ h => h⟩
  by_cases hl : ds.length ≤ 1000
  · rw [if_pos hl] at h1
    exact ⟨by rw [g1.rep.length]; exact line1000 hl, fun p np => h1 (.ref p) _ (p :: F) (got_lst g1.rep g1.same g1.src g1.nd np)⟩
  · rw [if_neg hl] at h1
    exact h1.elim
end
end PV

set_option Elab.async false
set_option linter.all false
set_option maxRecDepth 100000
namespace PV
open PySem PySem.Spec L2
open PyProof.Rows hiding St
section
variable {X : Cx} {C : Cc} {e a b c : Expr} {es : List Expr} {pos : Pos} {A B B' : List Nat} {fa fb fc : Lo → Res PyData}
def Res.of {α : Type} : Option α → Res α
  | some a => .ok a
  | none => .bad
/-- a two-place operation on values does what g says of deep values -/
def OkP (X : Cx) (P : R2 → Prop) (g : PyData → PyData → Option PyData) : Prop := ∀ d1 d2 d, g d1 d2 = some d → ∃ r : R2, P r ∧
  ∀ (x y : V) (F1 F2 : List Addr) (H : Hp) (Q : VK), Rep X.K H d1 x F1 → Rep X.K H d2 y F2 →
    (∀ v H' F, Rep X.K H' d v F → Same H H' → (∀ a ∈ F, (H a = none ∧ Mu H' a) ∨ a ∈ F1 ∨ a ∈ F2) → ((F1 ++ F2).Nodup → (∀ a ∈ F1 ++ F2, Mu H a) → F.Nodup) → Q v H') → r x y H Q
abbrev OpOk (X : Cx) (f : Value → Value → Sem Value) (g : PyData → PyData → Option PyData) : Prop := OkP X (OpR X f) g
theorem OkP.pick {P : R2 → Prop} {g : PyData → PyData → Option PyData} (hF : P fun _ _ _ _ => False) (ho : OkP X P g) (r1 r2 : Res PyData) : ∃ r : R2, P r ∧
    ∀ d1 d2 d, r1 = .ok d1 → r2 = .ok d2 → g d1 d2 = some d → ∀ (x y : V) (F1 F2 : List Addr) (H : Hp) (Q : VK), Rep X.K H d1 x F1 → Rep X.K H d2 y F2 →
    (∀ v H' F, Rep X.K H' d v F → Same H H' → (∀ a ∈ F, (H a = none ∧ Mu H' a) ∨ a ∈ F1 ∨ a ∈ F2) → ((F1 ++ F2).Nodup → (∀ a ∈ F1 ++ F2, Mu H a) → F.Nodup) → Q v H') → r x y H Q := by
  by_cases h : ∃ d1 d2 d, r1 = .ok d1 ∧ r2 = .ok d2 ∧ g d1 d2 = some d
  · obtain ⟨d1, d2, d, rfl, rfl, e⟩ := h
    obtain ⟨r, q, z⟩ := ho d1 d2 d e
    refine ⟨r, q, fun e1 e2 e' h1 h2 h3 => ?_⟩
    cases h1; cases h2
    rw [e] at h3; cases h3
    exact z
  · exact ⟨fun _ _ _ _ => False, hF, fun d1 d2 d h1 h2 h3 => absurd ⟨d1, d2, d, h1, h2, h3⟩ h⟩
theorem opF {f : Value → Value → Sem Value} : OpR X f fun _ _ _ _ => False := fun _ _ _ _ _ _ _ _ _ _ _ _ z => z.elim
def eOp (g : PyData → PyData → Option PyData) (fa fb : Lo → Res PyData) : Lo → Res PyData := fun env => (fa env).bind fun x => (fb env).bind fun y => .of (g x y)
/-- the reading of two operands and an operation -/
theorem op_reads {r : R2} {g : PyData → PyData → Option PyData} {σ : St} {H : Hp} {Q : VK} {env : Lo} {Fs : Nat → List Addr} (hs : Slots X.K env σ H Fs)
    (z : ∀ d1 d2 d, fa env = .ok d1 → fb env = .ok d2 → g d1 d2 = some d → ∀ (x y : V) (F1 F2 : List Addr) (H : Hp) (Q : VK), Rep X.K H d1 x F1 → Rep X.K H d2 y F2 →
      (∀ v H' F, Rep X.K H' d v F → Same H H' → (∀ a ∈ F, (H a = none ∧ Mu H' a) ∨ a ∈ F1 ∨ a ∈ F2) → ((F1 ++ F2).Nodup → (∀ a ∈ F1 ++ F2, Mu H a) → F.Nodup) → Q v H') → r x y H Q)
    (h : (eOp g fa fb env).post (fun d => ∀ v H' F, Got X.K (A ++ B) H Fs d v H' F → Q v H') fun c x => ∀ H' dx, Same H H' → ExAt X.K H' c x dx → C.W (.ref (C.ec c)) dx σ H') :
    tv X.K C A fa σ H fun x H1 => tv X.K C B fb σ H1 fun y H2 => r x y H2 Q := by
  refine ⟨env, Fs, hs, post_mono (post_bind h) (fun d1 e1 h1 v H1 F1 g1 => ?_) fun _ _ h => h⟩
  refine ⟨env, Fs, hs.mono g1.same, post_mono (post_bind h1) (fun d2 e2 h2 w H2 F2 g2 => ?_) fun _ _ h H' dx s x => h H' dx (g1.same.trans s) x⟩
  cases q : g d1 d2 with
  | none => rw [q] at h2; exact h2.elim
  | some d =>
    rw [q] at h2
    refine z d1 d2 d e1 e2 q v w F1 F2 H2 Q (g1.rep.mono g2.same) g2.rep fun u H3 F r3 s3 src nd => h2 u H3 F ⟨r3, (g1.same.trans g2.same).trans s3, fun a ha => ?_, fun n m => ?_⟩
    · rw [fm_app]
      rcases src a ha with ⟨n, m⟩ | ha | ha
      · exact .inl ⟨(g1.same.trans g2.same).free n, m⟩
      · rcases g1.src a ha with ⟨n, m⟩ | z
        · exact .inl ⟨n, m.same (g2.same.trans s3)⟩
        · exact .inr (List.mem_append_left _ z)
      · rcases g2.src a ha with ⟨n, m⟩ | z
        · exact .inl ⟨g1.same.free n, m.same s3⟩
        · exact .inr (List.mem_append_right _ z)
    · rw [fm_app] at n m
      refine nd (nodup_app (g1.nd (nodupL n) fun a ha => m a (List.mem_append_left _ ha)) (g2.nd (nodupR n) fun a ha => (m a (List.mem_append_right _ ha)).same g1.same) g1.same g1.src (fun a ha => (g2.src a ha).imp (fun z => z.1) id) n m) fun a ha => ?_
      rcases List.mem_append.mp ha with ha | ha
      · rcases g1.src a ha with ⟨_, z⟩ | z
        · exact z.same g2.same
        · exact (m a (List.mem_append_left _ z)).same (g1.same.trans g2.same)
      · rcases g2.src a ha with ⟨_, z⟩ | z
        · exact z
        · exact (m a (List.mem_append_right _ z)).same (g1.same.trans g2.same)
theorem ve_op {op : Operator} {g : PyData → PyData → Option PyData} (ho : OpOk X (binaryOp op) g) (ha : VE X C A a fa) (hb : VE X C B b fb) : VE X C (A ++ B) (.BinOp a op b pos) (eOp g fa fb) := .by fun σ H Q ⟨env, Fs, hs, h⟩ => by
  obtain ⟨r, q, z⟩ := OkP.pick opF ho (fa env) (fb env)
  exact ⟨_, pe_op q ha hb, op_reads hs z h⟩
theorem ve_cmp {op : CmpOp} {g : PyData → PyData → Option PyData} (ho : OpOk X (compareOp op) g) (ha : VE X C A a fa) (hb : VE X C B b fb) (hm : behindInMarks op b = false := by first | exact nomark _ | with_unfolding_all rfl) :
    VE X C (A ++ B) (.Compare a [op] [b] pos) (eOp g fa fb) := .by fun σ H Q ⟨env, Fs, hs, h⟩ => by
  obtain ⟨r, q, z⟩ := OkP.pick opF ho (fa env) (fb env)
  exact ⟨_, pe_cmpR q ha hb hm, op_reads hs z h⟩
/-! ### arithmetic -/
def small (i : Int) : Bool := decide (-(2 ^ 64) < i) && decide (i < 2 ^ 64)
def dAdd : PyData → PyData → Option PyData
  | .int i, .int j => some (.int (i + j))
  | .list xs, .list ys => if xs.length + ys.length ≤ 1000 then some (.list (xs ++ ys)) else none
  | .tuple xs, .tuple ys => if xs.length + ys.length ≤ 1000 then some (.tuple (xs ++ ys)) else none
  | .str x, .str y => if x.length + y.length ≤ 1000000 then some (.str (x ++ y)) else none
  | _, _ => none
def dSub : PyData → PyData → Option PyData
  | .int i, .int j => some (.int (i - j))
  | _, _ => none
def dMul : PyData → PyData → Option PyData
  | .int i, .int j => if small i || small j then some (.int (i * j)) else none
  | _, _ => none
def dMod : PyData → PyData → Option PyData
  | .int i, .int j => if 0 < j then some (.int (i % j)) else none
  | _, _ => none
def dDiv : PyData → PyData → Option PyData
  | .int i, .int j => if 0 < j ∧ j < 1073741824 then some (.int (i / j)) else none
  | _, _ => none
def dPow : PyData → PyData → Option PyData
  | .int i, .int j => if 0 ≤ j ∧ j ≤ 1000 ∧ i.natAbs < 2 ^ 64 then some (.int (i ^ j.toNat)) else none
  | _, _ => none
def rCatF : R2 := fun x y H Q => ∃ a b xs ys, x = .ref a ∧ y = .ref b ∧ FT H a xs ∧ FT H b ys ∧ xs.length + ys.length ≤ sizeLine ∧
  (xs = [] → Q (.ref b) H) ∧ (xs ≠ [] → ys = [] → Q (.ref a) H) ∧ (xs ≠ [] → ys ≠ [] → ∀ p o, H p = none → o.dict = none → Q (.ref p) (upd H p (.frz o (.tup (xs ++ ys)))))
theorem op_catF : OpR X (binaryOp .Add) rCatF := by
  intro pins s σ H x y v u Q I rx ry h
  obtain ⟨a, b, xs, ys, rfl, rfl, ha, hb, hz, q0, q1, q2⟩ := h
  cases rx
  cases ry
  obtain ⟨its, r1, p1, _⟩ := I.tuple (ha.sq (K := X.K))
  obtain ⟨its2, r2, p2, _⟩ := I.tuple (hb.sq (K := X.K))
  by_cases hx : xs = []
  · subst hx
    cases r1
    exact cat_tup0 p1 p2 ⟨.ref b, H, I, rfl, q0 rfl⟩
  · refine HT.cat_tup p1 p2 (fun z => hx (r1.nil_iff.mp z)) (fun z => ⟨.ref a, H, I, rfl, q1 hx (r2.nil_iff.mp z)⟩) (fun z => ?_) (by rw [← r1.length, ← r2.length]; exact hz)
    exact ⟨.ref s.heap.objs.size, _, I.newTup (t' := s.toks) (r1.append r2) (by rw [List.length_append]; exact hz), rfl, q2 hx (fun w => z (r2.nil_iff.mpr w)) _ _ (I.hok.fresh (Nat.le_refl _)) rfl⟩
theorem rep_seqL {K : PySem.W.Frag} {H : Hp} {ds : List PyData} {v : V} {F : List Addr} (h : Rep K H (.list ds) v F) : ∃ a xs G, v = .ref a ∧ H a = some (.lst xs) ∧ RepL K H ds xs G ∧ F = a :: G := h
theorem rep_nil {K : PySem.W.Frag} {H : Hp} {ds : List PyData} {xs : List V} {F : List Addr} (h : RepL K H ds xs F) : xs = [] ↔ ds = [] := by
  have := h.length
  constructor
  · intro e; subst e; exact List.eq_nil_of_length_eq_zero (by simpa using this.symm)
  · intro e; subst e; exact List.eq_nil_of_length_eq_zero (by simpa using this)
theorem nil_rep {K : PySem.W.Frag} {H : Hp} {xs : List V} {F : List Addr} (h : RepL K H [] xs F) : F = [] := h.2
theorem nodup_new {H : Hp} {p a b : Addr} {G1 G2 : List Addr} (nd : (a :: G1 ++ b :: G2).Nodup) (mu : ∀ c ∈ a :: G1 ++ b :: G2, Mu H c) (np : H p = none) : (p :: (G1 ++ G2)).Nodup := by
  have sub : (G1 ++ G2).Sublist (a :: G1 ++ b :: G2) := (List.sublist_cons_self a G1).append (List.sublist_cons_self b G2)
  exact List.nodup_cons.mpr ⟨fun h => (mu p (sub.subset h)).notnone np, nd.sublist sub⟩
theorem ok_add : OpOk X (binaryOp .Add) dAdd := fun d1 d2 d e => by
  unfold dAdd at e
  split at e
  · cases e
    rename_i i j
    refine ⟨_, op_add, fun x y F1 F2 H Q h1 h2 k => ?_⟩
    obtain ⟨rfl, rfl⟩ := h1
    obtain ⟨rfl, rfl⟩ := h2
    exact ⟨i, j, rfl, rfl, k _ H [] ⟨rfl, rfl⟩ (Same.refl H) (fun _ z => (nomatch z)) fun _ _ => List.nodup_nil⟩
  · rename_i xs ys
    split at e
    · rename_i hl
      cases e
      refine ⟨_, op_cat, fun x y F1 F2 H Q h1 h2 k => ?_⟩
      obtain ⟨a, us, G1, rfl, s1, r1, rfl⟩ := h1
      obtain ⟨b, ws, G2, rfl, s2, r2, rfl⟩ := h2
      refine ⟨a, b, us, ws, rfl, rfl, s1, s2, by rw [r1.length, r2.length]; exact line1000 hl, fun p np => k _ _ (p :: (G1 ++ G2)) ⟨p, us ++ ws, G1 ++ G2, rfl, upd_same, (r1.append r2).mono (same_upd np), rfl⟩ (same_upd np) (fun c hc => ?_) fun nd mu => ?_⟩
      · rcases List.mem_cons.mp hc with rfl | hc
        · exact .inl ⟨np, .inl ⟨_, upd_same⟩⟩
        · rcases List.mem_append.mp hc with hc | hc
          · exact .inr (.inl (List.mem_cons_of_mem _ hc))
          · exact .inr (.inr (List.mem_cons_of_mem _ hc))
      · exact nodup_new nd mu np
    · cases e
  · rename_i xs ys
    split at e
    · rename_i hl
      cases e
      refine ⟨_, op_catF, fun x y F1 F2 H Q h1 h2 k => ?_⟩
      obtain ⟨a, us, rfl, s1, r1⟩ := h1
      obtain ⟨b, ws, rfl, s2, r2⟩ := h2
      refine ⟨a, b, us, ws, rfl, rfl, s1, s2, by rw [r1.length, r2.length]; exact line1000 hl, fun z => ?_, fun _ z => ?_, fun _ _ p o np od => ?_⟩
      · subst z
        obtain rfl := (rep_nil r1).mp rfl
        exact k _ H F2 ⟨b, ws, rfl, s2, r2⟩ (Same.refl H) (fun c hc => .inr (.inr hc)) fun nd _ => (List.nodup_append.mp nd).2.1
      · subst z
        obtain rfl := (rep_nil r2).mp rfl
        rw [List.append_nil] at k
        exact k _ H F1 ⟨a, us, rfl, s1, r1⟩ (Same.refl H) (fun c hc => .inr (.inl hc)) fun nd _ => (List.nodup_append.mp nd).1
      · exact k _ _ (F1 ++ F2) ⟨p, us ++ ws, rfl, ⟨o, od, upd_same⟩, (r1.append r2).mono (same_upd np)⟩ (same_upd np) (fun c hc => .inr (List.mem_append.mp hc)) fun nd _ => nd
    · cases e
  · rename_i x y
    split at e
    · rename_i hl
      cases e
      refine ⟨_, op_add_str, fun x y F1 F2 H Q h1 h2 k => ?_⟩
      obtain ⟨rfl, rfl⟩ := h1
      obtain ⟨rfl, rfl⟩ := h2
      have hsz := sizeLine_eq
      exact ⟨_, _, rfl, rfl, by omega, k _ H [] ⟨rfl, rfl⟩ (Same.refl H) (fun _ z => (nomatch z)) fun _ _ => List.nodup_nil⟩
    · cases e
  · cases e

theorem rep_int {K : PySem.W.Frag} {H : Hp} {i : Int} : Rep K H (.int i) (.int i) [] := ⟨rfl, rfl⟩
theorem rep_bool {K : PySem.W.Frag} {H : Hp} {b : Bool} : Rep K H (.bool b) (.bl b) [] := ⟨rfl, rfl⟩
/-- an int out of two ints -/
theorem ok_int {f : Value → Value → Sem Value} {r : R2} {P : Int → Int → Prop} {g : PyData → PyData → Option PyData} {h : Int → Int → Int} (ho : OpR X f r)
    (hr : ∀ i j H Q, P i j → Q (.int (h i j)) H → r (.int i) (.int j) H Q) (hg : ∀ d1 d2 d, g d1 d2 = some d → ∃ i j, d1 = .int i ∧ d2 = .int j ∧ P i j ∧ d = .int (h i j)) : OpOk X f g := fun d1 d2 d e => by
  obtain ⟨i, j, rfl, rfl, p, rfl⟩ := hg d1 d2 d e
  refine ⟨r, ho, fun x y F1 F2 H Q h1 h2 k => ?_⟩
  obtain ⟨rfl, rfl⟩ := h1
  obtain ⟨rfl, rfl⟩ := h2
  exact hr i j H Q p (k _ H [] rep_int (Same.refl H) (fun _ z => (nomatch z)) fun _ _ => List.nodup_nil)
theorem ok_cmpI {f : Value → Value → Sem Value} {r : R2} {g : PyData → PyData → Option PyData} {h : Int → Int → Bool} (ho : OpR X f r)
    (hr : ∀ i j H Q, Q (.bl (h i j)) H → r (.int i) (.int j) H Q) (hg : ∀ d1 d2 d, g d1 d2 = some d → ∃ i j, d1 = .int i ∧ d2 = .int j ∧ d = .bool (h i j)) : OpOk X f g := fun d1 d2 d e => by
  obtain ⟨i, j, rfl, rfl, rfl⟩ := hg d1 d2 d e
  refine ⟨r, ho, fun x y F1 F2 H Q h1 h2 k => ?_⟩
  obtain ⟨rfl, rfl⟩ := h1
  obtain ⟨rfl, rfl⟩ := h2
  exact hr i j H Q (k _ H [] rep_bool (Same.refl H) (fun _ z => (nomatch z)) fun _ _ => List.nodup_nil)
theorem ok_sub : OpOk X (binaryOp .Sub) dSub := ok_int (P := fun _ _ => True) (h := fun i j => i - j) op_sub (fun i j H Q _ q => ⟨i, j, rfl, rfl, q⟩) fun d1 d2 d e => by
  unfold dSub at e
  split at e
  · cases e; exact ⟨_, _, rfl, rfl, trivial, rfl⟩
  · cases e
theorem ok_mulI : OpOk X (binaryOp .Mult) dMul := ok_int (P := fun i j => (small i || small j) = true) (h := fun i j => i * j) op_mul (fun i j H Q p q => ⟨i, j, rfl, rfl, by
    simp only [small, Bool.or_eq_true, Bool.and_eq_true, decide_eq_true_eq] at p
    exact p, q⟩) fun d1 d2 d e => by
  unfold dMul at e
  split at e
  · split at e
    · cases e; rename_i h; exact ⟨_, _, rfl, rfl, h, rfl⟩
    · cases e
  · cases e
theorem ok_mod : OpOk X (binaryOp .Mod) dMod := ok_int (P := fun i j => 0 < j) (h := fun i j => i % j) op_mod (fun i j H Q p q => ⟨i, j, rfl, rfl, p, q⟩) fun d1 d2 d e => by
  unfold dMod at e
  split at e
  · split at e
    · cases e; rename_i h; exact ⟨_, _, rfl, rfl, h, rfl⟩
    · cases e
  · cases e
theorem ok_div : OpOk X (binaryOp .FloorDiv) dDiv := ok_int (P := fun i j => 0 < j ∧ j < 1073741824) (h := fun i j => i / j) op_fdiv (fun i j H Q p q => ⟨i, j, rfl, rfl, p, q⟩) fun d1 d2 d e => by
  unfold dDiv at e
  split at e
  · split at e
    · cases e; rename_i h; exact ⟨_, _, rfl, rfl, h, rfl⟩
    · cases e
  · cases e
theorem ok_pow : OpOk X (binaryOp .Pow) dPow := ok_int (P := fun i j => 0 ≤ j ∧ j ≤ 1000 ∧ i.natAbs < 2 ^ 64) (h := fun i j => i ^ j.toNat) op_pow (fun i j H Q p q => ⟨i, j, rfl, rfl, ⟨p.1, by omega, p.2.2⟩, q⟩) fun d1 d2 d e => by
  unfold dPow at e
  split at e
  · split at e
    · cases e; rename_i h; exact ⟨_, _, rfl, rfl, h, rfl⟩
    · cases e
  · cases e
def dLt : PyData → PyData → Option PyData
  | .int i, .int j => some (.bool (decide (i < j)))
  | _, _ => none
def dLe : PyData → PyData → Option PyData
  | .int i, .int j => some (.bool (decide (i ≤ j)))
  | _, _ => none
def dGt : PyData → PyData → Option PyData
  | .int i, .int j => some (.bool (decide (j < i)))
  | _, _ => none
def dGe : PyData → PyData → Option PyData
  | .int i, .int j => some (.bool (decide (j ≤ i)))
  | _, _ => none
theorem ok_lt : OpOk X (compareOp .Lt) dLt := ok_cmpI (h := fun i j => decide (i < j)) op_lt (fun i j H Q q => ⟨i, j, rfl, rfl, q⟩) fun d1 d2 d e => by
  unfold dLt at e; split at e <;> cases e; exact ⟨_, _, rfl, rfl, rfl⟩
theorem ok_le : OpOk X (compareOp .LtE) dLe := ok_cmpI (h := fun i j => decide (i ≤ j)) op_le (fun i j H Q q => ⟨i, j, rfl, rfl, q⟩) fun d1 d2 d e => by
  unfold dLe at e; split at e <;> cases e; exact ⟨_, _, rfl, rfl, rfl⟩
theorem ok_gt : OpOk X (compareOp .Gt) dGt := ok_cmpI (h := fun i j => decide (j < i)) op_gt (fun i j H Q q => ⟨i, j, rfl, rfl, q⟩) fun d1 d2 d e => by
  unfold dGt at e; split at e <;> cases e; exact ⟨_, _, rfl, rfl, rfl⟩
theorem ok_ge : OpOk X (compareOp .GtE) dGe := ok_cmpI (h := fun i j => decide (j ≤ i)) op_ge (fun i j H Q q => ⟨i, j, rfl, rfl, q⟩) fun d1 d2 d e => by
  unfold dGe at e; split at e <;> cases e; exact ⟨_, _, rfl, rfl, rfl⟩

/-! ### == and in -/
mutual
theorem rep_dp {K : PySem.W.Frag} {H : Hp} : ∀ (d : PyData) (v : V) (F : List Addr), d.canLay0 = true → Rep K H d v F → Dp K H v d
  | .none, _, _, _, h => by obtain ⟨rfl, _⟩ := h; exact .non
  | .bool b, _, _, _, h => by obtain ⟨rfl, _⟩ := h; exact .bl b
  | .int i, _, _, _, h => by obtain ⟨rfl, _⟩ := h; exact .int i
  | .str x, _, _, _, h => by obtain ⟨rfl, _⟩ := h; exact .str x
  | .list ds, _, _, c, h => by
    obtain ⟨a, xs, G, rfl, s, r, _⟩ := h
    exact .lst (SqL.of s) (rep_dpl ds xs G (by simpa [PyData.canLay0] using c) r)
  | .tuple ds, _, _, c, h => by
    obtain ⟨a, xs, rfl, s, r⟩ := h
    exact .tup s.sq (rep_dpl ds xs _ (by simpa [PyData.canLay0] using c) r)
  | .dict kvs, _, _, c, h => by simp [PyData.canLay0] at c
theorem rep_dpl {K : PySem.W.Frag} {H : Hp} : ∀ (ds : List PyData) (xs : List V) (F : List Addr), PyData.canLayAll0 ds = true → RepL K H ds xs F → DpAll K H xs ds
  | [], _, _, _, h => by obtain ⟨rfl, _⟩ := h; exact .nil
  | d :: ds, _, _, c, h => by
    obtain ⟨x, ys, F1, F2, rfl, r1, r2, _⟩ := h
    have c' : d.canLay0 = true ∧ PyData.canLayAll0 ds = true := by simpa [PyData.canLayAll0] using c
    exact .cons (rep_dp d x F1 c'.1 r1) (rep_dpl ds ys F2 c'.2 r2)
end
def isStr : PyData → Bool
  | .str _ => true
  | _ => false
def dEq (x y : PyData) : Option PyData := if isStr x && isStr y || SeqAt.shaped x && SeqAt.shaped y then some (.bool (PyData.eqv x y)) else none
def dNe (x y : PyData) : Option PyData := if isStr x && isStr y || SeqAt.shaped x && SeqAt.shaped y then some (.bool (!PyData.eqv x y)) else none
theorem fin_bool {K : PySem.W.Frag} {H : Hp} {b : Bool} {F1 F2 : List Addr} {Q : VK} (k : ∀ v H' F, Rep K H' (.bool b) v F → Same H H' → (∀ a ∈ F, (H a = none ∧ Mu H' a) ∨ a ∈ F1 ∨ a ∈ F2) → ((F1 ++ F2).Nodup → (∀ a ∈ F1 ++ F2, Mu H a) → F.Nodup) → Q v H') : Q (.bl b) H :=
  k _ H [] rep_bool (Same.refl H) (fun _ z => (nomatch z)) fun _ _ => List.nodup_nil
theorem isStr_of {x : PyData} (h : isStr x = true) : ∃ z, x = .str z := by
  cases x <;> first | exact ⟨_, rfl⟩ | cases h
theorem shaped_lay {x : PyData} (h : SeqAt.shaped x = true) : x.canLay0 = true := SeqAt.canLay_of_shaped h
theorem ok_eq (hu : X.A.units + 64 < cLine) : OpOk X (compareOp .Eq) dEq := fun d1 d2 d e => by
  unfold dEq at e
  split at e
  · rename_i hc
    cases e
    rw [Bool.or_eq_true, Bool.and_eq_true, Bool.and_eq_true] at hc
    rcases hc with ⟨s1, s2⟩ | ⟨s1, s2⟩
    · obtain ⟨z, rfl⟩ := isStr_of s1
      obtain ⟨w, rfl⟩ := isStr_of s2
      refine ⟨_, op_eq, fun x y F1 F2 H Q h1 h2 k => ?_⟩
      obtain ⟨rfl, rfl⟩ := h1
      obtain ⟨rfl, rfl⟩ := h2
      refine ⟨rfl, ?_⟩
      have k' := fin_bool k
      rw [show PyData.eqv (.str z) (.str w) = decide (V.str z = V.str w) by rw [dec_str]; simp [PyData.eqv]] at k'
      exact k'
    · refine ⟨_, op_eqD hu, fun x y F1 F2 H Q h1 h2 k => ?_⟩
      exact ⟨d1, d2, rep_dp d1 x F1 (shaped_lay s1) h1, rep_dp d2 y F2 (shaped_lay s2) h2, s1, s2, fin_bool k⟩
  · cases e
theorem ok_ne (hu : X.A.units + 64 < cLine) : OpOk X (compareOp .NotEq) dNe := fun d1 d2 d e => by
  unfold dNe at e
  split at e
  · rename_i hc
    cases e
    rw [Bool.or_eq_true, Bool.and_eq_true, Bool.and_eq_true] at hc
    rcases hc with ⟨s1, s2⟩ | ⟨s1, s2⟩
    · obtain ⟨z, rfl⟩ := isStr_of s1
      obtain ⟨w, rfl⟩ := isStr_of s2
      refine ⟨_, op_ne, fun x y F1 F2 H Q h1 h2 k => ?_⟩
      obtain ⟨rfl, rfl⟩ := h1
      obtain ⟨rfl, rfl⟩ := h2
      refine ⟨rfl, ?_⟩
      have k' := fin_bool k
      rw [show PyData.eqv (.str z) (.str w) = decide (V.str z = V.str w) by rw [dec_str]; simp [PyData.eqv]] at k'
      exact k'
    · refine ⟨_, op_neD hu, fun x y F1 F2 H Q h1 h2 k => ?_⟩
      exact ⟨d1, d2, rep_dp d1 x F1 (shaped_lay s1) h1, rep_dp d2 y F2 (shaped_lay s2) h2, s1, s2, fin_bool k⟩
  · cases e
def dIs (x y : PyData) : Option PyData := match x, y with
  | .bool a, .bool b => some (.bool (decide (a = b)))
  | .none, .none => some (.bool true)
  | _, .none => some (.bool false)
  | _, _ => none
def dIsN (x y : PyData) : Option PyData := match x, y with
  | .none, .none => some (.bool false)
  | _, .none => some (.bool true)
  | _, _ => none
theorem rep_isN {K : PySem.W.Frag} {H : Hp} {d : PyData} {v : V} {F : List Addr} (h : Rep K H d v F) (n : d ≠ .none) : v ≠ .non := by
  cases d with
  | none => exact absurd rfl n
  | bool b => obtain ⟨rfl, _⟩ := h; exact fun z => nomatch z
  | int b => obtain ⟨rfl, _⟩ := h; exact fun z => nomatch z
  | str b => obtain ⟨rfl, _⟩ := h; exact fun z => nomatch z
  | list b => obtain ⟨_, _, _, rfl, _⟩ := h; exact fun z => nomatch z
  | tuple b => obtain ⟨_, _, rfl, _⟩ := h; exact fun z => nomatch z
  | dict b =>
    rcases h with ⟨_, _, rfl, _⟩ | ⟨_, _, rfl, _⟩ | ⟨h, _⟩
    · exact fun z => nomatch z
    · exact fun z => nomatch z
    · exact h.ref
theorem ok_is : OpOk X (compareOp .Is) dIs := fun d1 d2 d e => by
  unfold dIs at e
  split at e
  · cases e
    refine ⟨_, op_is_bl, fun x y F1 F2 H Q h1 h2 k => ?_⟩
    obtain ⟨rfl, rfl⟩ := h1
    obtain ⟨rfl, rfl⟩ := h2
    exact ⟨_, _, rfl, rfl, fin_bool k⟩
  · cases e
    refine ⟨_, op_isN, fun x y F1 F2 H Q h1 h2 k => ?_⟩
    obtain ⟨rfl, rfl⟩ := h1
    obtain ⟨rfl, rfl⟩ := h2
    exact ⟨rfl, fin_bool k⟩
  · rename_i hn
    cases e
    refine ⟨_, op_isN, fun x y F1 F2 H Q h1 h2 k => ?_⟩
    obtain ⟨rfl, rfl⟩ := h2
    refine ⟨rfl, ?_⟩
    rw [decide_eq_false (rep_isN h1 fun z => by subst z; exact hn rfl)]
    exact fin_bool k
  · cases e
theorem ok_isN : OpOk X (compareOp .IsNot) dIsN := fun d1 d2 d e => by
  unfold dIsN at e
  split at e
  · cases e
    refine ⟨_, op_notN, fun x y F1 F2 H Q h1 h2 k => ?_⟩
    obtain ⟨rfl, rfl⟩ := h1
    obtain ⟨rfl, rfl⟩ := h2
    exact ⟨rfl, fin_bool k⟩
  · rename_i hn
    cases e
    refine ⟨_, op_notN, fun x y F1 F2 H Q h1 h2 k => ?_⟩
    obtain ⟨rfl, rfl⟩ := h2
    refine ⟨rfl, ?_⟩
    rw [decide_eq_false (rep_isN h1 fun z => by subst z; exact hn rfl)]
    exact fin_bool k
  · cases e
/-! in -/
def atom (d : PyData) : Bool := (atomV d).isSome
theorem rep_atom {K : PySem.W.Frag} {H : Hp} {d : PyData} {v w : V} {F : List Addr} (h : Rep K H d v F) (e : atomV d = some w) : v = w := by
  cases d <;> first | (cases e; exact h.1) | cases e
theorem atomV_flat {d : PyData} {w : V} (e : atomV d = some w) : flatV w = true := by
  cases d <;> first | (cases e; rfl) | cases e
theorem eqv_atom {d e : PyData} {x y : V} (h1 : atomV d = some x) (h2 : atomV e = some y) : eqV x y = PyData.eqv d e := by
  cases d <;> cases h1 <;> cases e <;> cases h2 <;> first | rfl | simp [eqV, PyData.eqv]
theorem repl_atoms {K : PySem.W.Frag} {H : Hp} : ∀ {ds : List PyData} {xs : List V} {F : List Addr}, RepL K H ds xs F → ds.all atom = true → xs.all flatV = true ∧ ∀ d x, atomV d = some x → inV x xs = ds.any fun z => PyData.eqv z d
  | [], _, _, h, _ => by obtain ⟨rfl, _⟩ := h; exact ⟨rfl, fun _ _ _ => rfl⟩
  | d :: ds, _, _, h, c => by
    obtain ⟨x, ys, F1, F2, rfl, r1, r2, _⟩ := h
    rw [List.all_cons, Bool.and_eq_true] at c
    obtain ⟨w, hw⟩ := Option.isSome_iff_exists.mp c.1
    obtain rfl := rep_atom r1 hw
    obtain ⟨q1, q2⟩ := repl_atoms r2 c.2
    refine ⟨by rw [List.all_cons, atomV_flat hw, q1]; rfl, fun d' x' h' => ?_⟩
    have := q2 d' x' h'
    unfold inV at this ⊢
    rw [List.any_cons, List.any_cons, this, eqv_atom hw h']
def inD (x : PyData) (ds : List PyData) : Bool := ds.any fun z => PyData.eqv z x
def dIn (x y : PyData) : Option PyData := match y with
  | .list ds => if atom x && ds.all atom || SeqAt.shaped x && SeqAt.shaped (.list ds) then some (.bool (inD x ds)) else none
  | .tuple ds => if atom x && ds.all atom then some (.bool (inD x ds)) else none
  | _ => none
def dNotIn (x y : PyData) : Option PyData := match y with
  | .list ds => if atom x && ds.all atom || SeqAt.shaped x && SeqAt.shaped (.list ds) then some (.bool (!inD x ds)) else none
  | .tuple ds => if atom x && ds.all atom then some (.bool (!inD x ds)) else none
  | _ => none
theorem ok_in (hu : X.A.units + 65 < cLine) : OpOk X (compareOp .In) dIn := fun d1 d2 d e => by
  unfold dIn at e
  split at e
  · rename_i ds
    split at e
    · rename_i hc
      cases e
      rw [Bool.or_eq_true, Bool.and_eq_true, Bool.and_eq_true] at hc
      rcases hc with ⟨s1, s2⟩ | ⟨s1, s2⟩
      · obtain ⟨w, hw⟩ := Option.isSome_iff_exists.mp s1
        refine ⟨_, op_in_seq, fun x y F1 F2 H Q h1 h2 k => ?_⟩
        obtain rfl := rep_atom h1 hw
        obtain ⟨a, xs, G, rfl, hs, r, rfl⟩ := h2
        obtain ⟨q1, q2⟩ := repl_atoms r s2
        refine ⟨a, xs, rfl, .inl (SqL.of hs), atomV_flat hw, q1, ?_⟩
        show Q (.bl (inV x xs)) H
        rw [q2 _ _ hw]
        exact fin_bool k
      · refine ⟨_, op_inD hu, fun x y F1 F2 H Q h1 h2 k => ?_⟩
        exact ⟨d1, ds, rep_dp d1 x F1 (shaped_lay s1) h1, rep_dp _ y F2 (shaped_lay s2) h2, s1, s2, fin_bool k⟩
    · cases e
  · rename_i ds
    split at e
    · rename_i hc
      cases e
      rw [Bool.and_eq_true] at hc
      obtain ⟨s1, s2⟩ := hc
      obtain ⟨w, hw⟩ := Option.isSome_iff_exists.mp s1
      refine ⟨_, op_in_seq, fun x y F1 F2 H Q h1 h2 k => ?_⟩
      obtain rfl := rep_atom h1 hw
      obtain ⟨a, xs, rfl, hs, r⟩ := h2
      obtain ⟨q1, q2⟩ := repl_atoms r s2
      refine ⟨a, xs, rfl, .inr hs.sq, atomV_flat hw, q1, ?_⟩
      show Q (.bl (inV x xs)) H
      rw [q2 _ _ hw]
      exact fin_bool k
    · cases e
  · cases e
theorem ok_notIn (hu : X.A.units + 65 < cLine) : OpOk X (compareOp .NotIn) dNotIn := fun d1 d2 d e => by
  unfold dNotIn at e
  split at e
  · rename_i ds
    split at e
    · rename_i hc
      cases e
      rw [Bool.or_eq_true, Bool.and_eq_true, Bool.and_eq_true] at hc
      rcases hc with ⟨s1, s2⟩ | ⟨s1, s2⟩
      · obtain ⟨w, hw⟩ := Option.isSome_iff_exists.mp s1
        refine ⟨_, op_notIn_seq, fun x y F1 F2 H Q h1 h2 k => ?_⟩
        obtain rfl := rep_atom h1 hw
        obtain ⟨a, xs, G, rfl, hs, r, rfl⟩ := h2
        obtain ⟨q1, q2⟩ := repl_atoms r s2
        refine ⟨a, xs, rfl, .inl (SqL.of hs), atomV_flat hw, q1, ?_⟩
        show Q (.bl (!inV x xs)) H
        rw [q2 _ _ hw]
        exact fin_bool k
      · refine ⟨_, op_notInD hu, fun x y F1 F2 H Q h1 h2 k => ?_⟩
        exact ⟨d1, ds, rep_dp d1 x F1 (shaped_lay s1) h1, rep_dp _ y F2 (shaped_lay s2) h2, s1, s2, fin_bool k⟩
    · cases e
  · rename_i ds
    split at e
    · rename_i hc
      cases e
      rw [Bool.and_eq_true] at hc
      obtain ⟨s1, s2⟩ := hc
      obtain ⟨w, hw⟩ := Option.isSome_iff_exists.mp s1
      refine ⟨_, op_notIn_seq, fun x y F1 F2 H Q h1 h2 k => ?_⟩
      obtain rfl := rep_atom h1 hw
      obtain ⟨a, xs, rfl, hs, r⟩ := h2
      obtain ⟨q1, q2⟩ := repl_atoms r s2
      refine ⟨a, xs, rfl, .inr hs.sq, atomV_flat hw, q1, ?_⟩
      show Q (.bl (!inV x xs)) H
      rw [q2 _ _ hw]
      exact fin_bool k
    · cases e
  · cases e
end
end PV

set_option Elab.async false
set_option linter.all false
set_option maxRecDepth 100000
namespace PV
open PySem PySem.Spec L2
open PyProof.Rows hiding St
section
variable {X : Cx} {C : Cc} {e a b c : Expr} {es rest : List Expr} {pos : Pos} {A B B' : List Nat} {fa fb fc f : Lo → Res PyData} {ta tb : Lo → Res Bool}
/-! ### truth -/
def truD : PyData → Option Bool
  | .none => some false
  | .bool b => some b
  | .int i => some (i != 0)
  | .str x => if x.length ≤ 1000000 then some ((x.length : Int) != 0) else none
  | .list ds => some (!ds.isEmpty)
  | .tuple ds => some (!ds.isEmpty)
  | .dict kvs => match dictK kvs with
    | some _ => some (!kvs.isEmpty)
    | none => none
theorem isEmpty_rep {K : PySem.W.Frag} {H : Hp} {ds : List PyData} {xs : List V} {F : List Addr} (h : RepL K H ds xs F) : ds.isEmpty = xs.isEmpty := by
  have := h.length
  cases ds <;> cases xs <;> first | rfl | simp at this
theorem dictK_empty : ∀ {kvs : List (PyData × PyData)} {ks : List (Key × V)}, dictK kvs = some ks → kvs.isEmpty = ks.isEmpty
  | [], _, h => by cases h; rfl
  | (k, d) :: r, _, h => by
    cases k <;> simp only [dictK] at h <;> try (cases h)
    split at h
    · cases h; rfl
    · cases h
theorem rep_tru {K : PySem.W.Frag} {H : Hp} {d : PyData} {v : V} {F : List Addr} {k : Bool} (h : Rep K H d v F) (e : truD d = some k) : TruV K v H k := by
  cases d with
  | none => obtain ⟨rfl, _⟩ := h; cases e; rfl
  | bool b => obtain ⟨rfl, _⟩ := h; cases e; rfl
  | int i => obtain ⟨rfl, _⟩ := h; cases e; rfl
  | str x =>
    obtain ⟨rfl, _⟩ := h
    simp only [truD] at e
    split at e
    · rename_i hl
      cases e
      have := sizeLine_eq
      exact ⟨by omega, rfl⟩
    · cases e
  | list ds =>
    obtain ⟨a, xs, G, rfl, s, r, _⟩ := h
    cases e
    exact .inl ⟨xs, SqL.of s, by rw [isEmpty_rep r]⟩
  | tuple ds =>
    obtain ⟨a, xs, rfl, s, r⟩ := h
    cases e
    exact .inr (.inl ⟨xs, s.sq, by rw [isEmpty_rep r]⟩)
  | dict kvs =>
    simp only [truD] at e
    split at e
    · rename_i hk
      cases e
      rcases h with ⟨a, ks, rfl, s, r, _⟩ | ⟨a, ns, rfl, s, r, _⟩ | ⟨s, _⟩
      · exact .inr (.inr ⟨ks, r, by rw [dictK_empty s]⟩)
      · subst s
        cases hk
      · rw [s.dictK] at hk
        cases hk
    · cases e
def eAnd (fa fb : Lo → Res PyData) : Lo → Res PyData := fun env => (fa env).bind fun x => (Res.of (truD x)).bind fun k => if k then fb env else .ok x
def eOr (fa fb : Lo → Res PyData) : Lo → Res PyData := fun env => (fa env).bind fun x => (Res.of (truD x)).bind fun k => if k then .ok x else fb env
def eNot (fa : Lo → Res PyData) : Lo → Res PyData := fun env => (fa env).bind fun x => (Res.of (truD x)).bind fun k => .ok (.bool (!k))
theorem ve_one {op} (h : VE X C A a fa) : VE X C A (.BoolOp op [a] pos) fa := pe_one h
theorem Got.wider {K : PySem.W.Frag} {H H1 H' : Hp} {Fs : Nat → List Addr} {d : PyData} {v : V} {F : List Addr} (s : Same H H1) (g : Got K B H1 Fs d v H' F) (hA : (B.flatMap Fs).Sublist (A.flatMap Fs)) : Got K A H Fs d v H' F :=
  ⟨g.rep, s.trans g.same, fun a ha => (g.src a ha).elim (fun z => .inl ⟨s.free z.1, z.2⟩) fun z => .inr (hA.subset z), fun n m => g.nd (n.sublist hA) fun a ha => (m a (hA.subset ha)).same s⟩
theorem subL {A B : List Nat} {Fs : Nat → List Addr} : (A.flatMap Fs).Sublist ((A ++ B).flatMap Fs) := by rw [fm_app]; exact List.sublist_append_left _ _
theorem subR {A B : List Nat} {Fs : Nat → List Addr} : (B.flatMap Fs).Sublist ((A ++ B).flatMap Fs) := by rw [fm_app]; exact List.sublist_append_right _ _
theorem of_post {α : Type} {o : Option α} {P : α → Prop} {E : Nat → PyData → Prop} (h : (Res.of o).post P E) : ∃ a, o = some a ∧ P a := by
  cases o with
  | none => exact h.elim
  | some a => exact ⟨a, rfl, h⟩
theorem ve_and (ha : VE X C A a fa) (hb : VE X C B (.BoolOp .And (b :: rest) pos) fb) : VE X C (A ++ B) (.BoolOp .And (a :: b :: rest) pos) (eAnd fa fb) :=
  (pe_andT ha hb).imp fun σ H Q ⟨env, Fs, hs, h⟩ => by
  refine ⟨env, Fs, hs, post_mono (post_bind h) (fun d _ h1 v H1 F g1 => ?_) fun _ _ h => h⟩
  obtain ⟨k, hk, h2⟩ := of_post (post_bind h1)
  refine ⟨k, rep_tru g1.rep hk, ?_⟩
  cases k with
  | true =>
    simp only [if_true] at h2 ⊢
    exact ⟨env, Fs, hs.mono g1.same, post_mono h2 (fun d _ h3 w H2 F2 g2 => h3 w H2 F2 (g2.wider g1.same subR)) fun _ _ h H' dx s x => h H' dx (g1.same.trans s) x⟩
  | false =>
    simp only [Bool.false_eq_true, if_false] at h2 ⊢
    exact h2 v H1 F (g1.wider (Same.refl H) subL)
theorem ve_or (ha : VE X C A a fa) (hb : VE X C B (.BoolOp .Or (b :: rest) pos) fb) : VE X C (A ++ B) (.BoolOp .Or (a :: b :: rest) pos) (eOr fa fb) :=
  (pe_orT ha hb).imp fun σ H Q ⟨env, Fs, hs, h⟩ => by
  refine ⟨env, Fs, hs, post_mono (post_bind h) (fun d _ h1 v H1 F g1 => ?_) fun _ _ h => h⟩
  obtain ⟨k, hk, h2⟩ := of_post (post_bind h1)
  refine ⟨k, rep_tru g1.rep hk, ?_⟩
  cases k with
  | false =>
    simp only [Bool.false_eq_true, if_false] at h2 ⊢
    exact ⟨env, Fs, hs.mono g1.same, post_mono h2 (fun d _ h3 w H2 F2 g2 => h3 w H2 F2 (g2.wider g1.same subR)) fun _ _ h H' dx s x => h H' dx (g1.same.trans s) x⟩
  | true =>
    simp only [if_true] at h2 ⊢
    exact h2 v H1 F (g1.wider (Same.refl H) subL)
theorem ve_not (ha : VE X C A a fa) : VE X C [] (.UnaryOp .Not a pos) (eNot fa) := (pe_notT ha).imp fun σ H Q ⟨env, Fs, hs, h⟩ => by
  refine ⟨env, Fs, hs, post_mono (post_bind h) (fun d _ h1 v H1 F g1 => ?_) fun _ _ h => h⟩
  obtain ⟨k, hk, h2⟩ := of_post (post_bind h1)
  exact ⟨k, rep_tru g1.rep hk, h2 _ H1 [] (.flat g1.same rep_bool)⟩

/-! ### flat results have no footprint -/
theorem ve_flat (h : VE X C A e f) (hf : ∀ env d, f env = .ok d → flat d = true) : VE X C [] e f := h.imp fun σ H Q ⟨env, Fs, hs, h⟩ => by
  refine ⟨env, Fs, hs, post_mono h (fun d e1 h1 v H1 F g1 => ?_) fun _ _ h => h⟩
  obtain rfl := Rep.flat d v F (hf env d e1) g1.rep
  exact h1 v H1 [] (.flat g1.same g1.rep)
def eFlat (f : Lo → Res PyData) : Lo → Res PyData := fun env => (f env).bind fun d => if flat d then .ok d else .bad
theorem ve_guard (h : VE X C A e f) : VE X C [] e (eFlat f) := h.imp fun σ H Q ⟨env, Fs, hs, h⟩ => by
  refine ⟨env, Fs, hs, post_mono (post_bind h) (fun d e1 h1 v H1 F g1 => ?_) fun _ _ h => h⟩
  by_cases hf : flat d = true
  · rw [if_pos hf] at h1
    obtain rfl := Rep.flat d v F hf g1.rep
    exact h1 v H1 [] (.flat g1.same g1.rep)
  · rw [if_neg hf] at h1
    exact h1.elim
theorem flatOp {g : PyData → PyData → Option PyData} (hg : ∀ d1 d2 d, g d1 d2 = some d → flat d = true) : ∀ env d, eOp g fa fb env = .ok d → flat d = true := fun env d h => by
  unfold eOp at h
  cases e1 : fa env <;> rw [e1] at h <;> try (cases h)
  cases e2 : fb env <;> rw [e2] at h <;> try (cases h)
  rename_i x y
  have h : Res.of (g x y) = .ok d := h
  cases e3 : g x y <;> rw [e3] at h <;> cases h
  exact hg _ _ _ e3
theorem fl_sub : ∀ d1 d2 d, dSub d1 d2 = some d → flat d = true := fun d1 d2 d h => by unfold dSub at h; split at h <;> cases h; simp [flat]
theorem fl_mul : ∀ d1 d2 d, dMul d1 d2 = some d → flat d = true := fun d1 d2 d h => by
  unfold dMul at h; split at h
  · split at h <;> cases h; simp [flat]
  · cases h
theorem fl_mod : ∀ d1 d2 d, dMod d1 d2 = some d → flat d = true := fun d1 d2 d h => by
  unfold dMod at h; split at h
  · split at h <;> cases h; simp [flat]
  · cases h
theorem fl_div : ∀ d1 d2 d, dDiv d1 d2 = some d → flat d = true := fun d1 d2 d h => by
  unfold dDiv at h; split at h
  · split at h <;> cases h; simp [flat]
  · cases h
theorem fl_pow : ∀ d1 d2 d, dPow d1 d2 = some d → flat d = true := fun d1 d2 d h => by
  unfold dPow at h; split at h
  · split at h <;> cases h; simp [flat]
  · cases h
def boolG (g : PyData → PyData → Option PyData) : Prop := ∀ d1 d2 d, g d1 d2 = some d → ∃ k, d = .bool k
theorem boolG.fl {g : PyData → PyData → Option PyData} (h : boolG g) : ∀ d1 d2 d, g d1 d2 = some d → flat d = true := fun d1 d2 d e => by obtain ⟨k, rfl⟩ := h d1 d2 d e; simp [flat]
theorem bo_lt : boolG dLt := fun d1 d2 d h => by unfold dLt at h; split at h <;> cases h; exact ⟨_, rfl⟩
theorem bo_le : boolG dLe := fun d1 d2 d h => by unfold dLe at h; split at h <;> cases h; exact ⟨_, rfl⟩
theorem bo_gt : boolG dGt := fun d1 d2 d h => by unfold dGt at h; split at h <;> cases h; exact ⟨_, rfl⟩
theorem bo_ge : boolG dGe := fun d1 d2 d h => by unfold dGe at h; split at h <;> cases h; exact ⟨_, rfl⟩
theorem bo_eq : boolG dEq := fun d1 d2 d h => by unfold dEq at h; split at h <;> cases h; exact ⟨_, rfl⟩
theorem bo_ne : boolG dNe := fun d1 d2 d h => by unfold dNe at h; split at h <;> cases h; exact ⟨_, rfl⟩
theorem bo_is : boolG dIs := fun d1 d2 d h => by unfold dIs at h; split at h <;> cases h <;> exact ⟨_, rfl⟩
theorem bo_isN : boolG dIsN := fun d1 d2 d h => by unfold dIsN at h; split at h <;> cases h <;> exact ⟨_, rfl⟩
theorem bo_in : boolG dIn := fun d1 d2 d h => by
  unfold dIn at h; split at h
  · split at h <;> cases h; exact ⟨_, rfl⟩
  · split at h <;> cases h; exact ⟨_, rfl⟩
  · cases h
theorem bo_notIn : boolG dNotIn := fun d1 d2 d h => by
  unfold dNotIn at h; split at h
  · split at h <;> cases h; exact ⟨_, rfl⟩
  · split at h <;> cases h; exact ⟨_, rfl⟩
  · cases h
/-- the forms one uses -/
theorem ve_add (ha : VE X C A a fa) (hb : VE X C B b fb) : VE X C (A ++ B) (.BinOp a .Add b pos) (eOp dAdd fa fb) := ve_op ok_add ha hb
theorem ve_sub (ha : VE X C A a fa) (hb : VE X C B b fb) : VE X C [] (.BinOp a .Sub b pos) (eOp dSub fa fb) := ve_flat (ve_op ok_sub ha hb) (flatOp fl_sub)
theorem ve_mul (ha : VE X C A a fa) (hb : VE X C B b fb) : VE X C [] (.BinOp a .Mult b pos) (eOp dMul fa fb) := ve_flat (ve_op ok_mulI ha hb) (flatOp fl_mul)
theorem ve_mod (ha : VE X C A a fa) (hb : VE X C B b fb) : VE X C [] (.BinOp a .Mod b pos) (eOp dMod fa fb) := ve_flat (ve_op ok_mod ha hb) (flatOp fl_mod)
theorem ve_div (ha : VE X C A a fa) (hb : VE X C B b fb) : VE X C [] (.BinOp a .FloorDiv b pos) (eOp dDiv fa fb) := ve_flat (ve_op ok_div ha hb) (flatOp fl_div)
theorem ve_pow (ha : VE X C A a fa) (hb : VE X C B b fb) : VE X C [] (.BinOp a .Pow b pos) (eOp dPow fa fb) := ve_flat (ve_op ok_pow ha hb) (flatOp fl_pow)
theorem ve_cmpB {op : CmpOp} {g : PyData → PyData → Option PyData} (ho : OpOk X (compareOp op) g) (bo : boolG g) (ha : VE X C A a fa) (hb : VE X C B b fb) (hm : behindInMarks op b = false := by first | exact nomark _ | with_unfolding_all rfl) :
    VE X C [] (.Compare a [op] [b] pos) (eOp g fa fb) := ve_flat (ve_cmp ho ha hb hm) (flatOp bo.fl)
def dNeg : PyData → Option PyData
  | .int i => some (.int (-i))
  | _ => none
def eNeg (fa : Lo → Res PyData) : Lo → Res PyData := fun env => (fa env).bind fun x => .of (dNeg x)
theorem ve_neg (ha : VE X C A a fa) : VE X C [] (.UnaryOp .USub a pos) (eNeg fa) := (pe_un un_neg ha).imp fun σ H Q ⟨env, Fs, hs, h⟩ => by
  refine ⟨env, Fs, hs, post_mono (post_bind h) (fun d _ h1 v H1 F g1 => ?_) fun _ _ h => h⟩
  obtain ⟨k, hk, h2⟩ := of_post h1
  unfold dNeg at hk
  split at hk
  · cases hk
    have r := g1.rep
    obtain ⟨rfl, _⟩ := r
    exact ⟨_, rfl, h2 _ H1 [] (.flat g1.same rep_int)⟩
  · cases hk

/-! ### a <= b <= c -/
def eChain (g g' : PyData → PyData → Option PyData) (fa fb fc : Lo → Res PyData) : Lo → Res PyData := fun env => (fa env).bind fun x => (fb env).bind fun y => (Res.of (g x y)).bind fun z => match z with
  | .bool true => (fc env).bind fun w => .of (g' y w)
  | .bool false => .ok (.bool false)
  | _ => .bad
theorem ve_chain {op op' : CmpOp} {g g' : PyData → PyData → Option PyData} (ho : OpOk X (compareOp op) g) (ho' : OpOk X (compareOp op') g') (bo : boolG g) (bo' : boolG g') (ha : VE X C A a fa) (hb : VE X C B b fb) (hc : VE X C B' c fc)
    (hm : lastMarks [op, op'] [b, c] = false := by with_unfolding_all rfl) : VE X C [] (.Compare a [op, op'] [b, c] pos) (eChain g g' fa fb fc) := .by fun σ H Q ⟨env, Fs, hs, h⟩ => by
  obtain ⟨r, q, z⟩ := OkP.pick opF ho (fa env) (fb env)
  obtain ⟨r', q', z'⟩ := OkP.pick opF ho' (fb env) (fc env)
  refine ⟨_, pe_chain q q' ha hb hc hm, ?_⟩
  refine ⟨env, Fs, hs, post_mono (post_bind h) (fun d1 e1 h1 v H1 F1 g1 => ?_) fun _ _ h => h⟩
  refine ⟨env, Fs, hs.mono g1.same, post_mono (post_bind h1) (fun d2 e2 h2 w H2 F2 g2 => ?_) fun _ _ h H' dx s x => h H' dx (g1.same.trans s) x⟩
  obtain ⟨d, hd, h3⟩ := of_post (post_bind h2)
  refine z d1 d2 d e1 e2 hd v w F1 F2 H2 _ (g1.rep.mono g2.same) g2.rep fun u H3 F r3 s3 src nd => ?_
  obtain ⟨k, rfl⟩ := bo _ _ _ hd
  obtain ⟨rfl, rfl⟩ := r3
  refine ⟨k, rfl, ?_⟩
  have s13 : Same H H3 := (g1.same.trans g2.same).trans s3
  cases k with
  | true =>
    simp only [if_true]
    refine ⟨env, Fs, hs.mono s13, post_mono (post_bind h3) (fun d4 e4 h4 w4 H4 F4 g4 => ?_) fun _ _ h H' dx s x => h H' dx (s13.trans s) x⟩
    obtain ⟨d5, hd5, h5⟩ := of_post h4
    refine z' d2 d4 d5 e2 e4 hd5 w w4 F2 F4 H4 _ (g2.rep.mono (s3.trans g4.same)) g4.rep fun u5 H5 F5 r5 s5 _ _ => ?_
    obtain ⟨k5, rfl⟩ := bo' _ _ _ hd5
    obtain ⟨rfl, rfl⟩ := r5
    exact h5 _ H5 [] (.flat ((s13.trans g4.same).trans s5) rep_bool)
  | false =>
    simp only [Bool.false_eq_true, if_false]
    exact h3 _ H3 [] (.flat s13 rep_bool)

/-! ### tests -/
def eT (f : Lo → Res PyData) : Lo → Res Bool := fun env => (f env).bind fun x => .of (truD x)
def tNotB (f : Lo → Res Bool) : Lo → Res Bool := fun env => (f env).bind fun k => .ok (!k)
def tAndB (f g : Lo → Res Bool) : Lo → Res Bool := fun env => (f env).bind fun k => if k then g env else .ok false
def tOrB (f g : Lo → Res Bool) : Lo → Res Bool := fun env => (f env).bind fun k => if k then .ok true else g env
theorem vt_val (ha : VE X C A a fa) (he : ∀ whole, isTrue a X.env whole = (do let v ← whole; standAt a.pos; holding [v] (truthy v)) := by intro _; rfl) : VT X C a (eT fa) := (pt_truth ha he).imp fun σ H Q ⟨env, Fs, hs, h⟩ => by
  refine ⟨env, Fs, hs, post_mono (post_bind h) (fun d _ h1 v H1 F g1 => ?_) fun _ _ h => h⟩
  obtain ⟨k, hk, h2⟩ := of_post h1
  exact ⟨k, rep_tru g1.rep hk, h2 H1 g1.same⟩
theorem vt_cmp {op : CmpOp} {g : PyData → PyData → Option PyData} (ho : OpOk X (compareOp op) g) (bo : boolG g) (ha : VE X C A a fa) (hb : VE X C B b fb) (hm : behindInMarks op b = false := by first | exact nomark _ | with_unfolding_all rfl) :
    VT X C (.Compare a [op] [b] pos) (eT (eOp g fa fb)) := .by fun σ H Q ⟨env, Fs, hs, h⟩ => by
  obtain ⟨r, q, z⟩ := OkP.pick opF ho (fa env) (fb env)
  refine ⟨_, pt_cmpR q ha hb hm, op_reads (C := C) (A := A) (B := B) hs z (post_mono (post_bind h) (fun d e1 h1 v H' F g1 => ?_) fun _ _ h => h)⟩
  obtain ⟨k, hk, h2⟩ := of_post h1
  have : ∃ k, d = .bool k := by
    unfold eOp at e1
    cases q1 : fa env <;> rw [q1] at e1 <;> try (cases e1)
    cases q2 : fb env <;> rw [q2] at e1 <;> try (cases e1)
    rename_i x y
    have e1 : Res.of (g x y) = .ok d := e1
    cases q3 : g x y <;> rw [q3] at e1 <;> cases e1
    exact bo _ _ _ q3
  obtain ⟨k', rfl⟩ := this
  cases hk
  have r := g1.rep
  obtain ⟨rfl, _⟩ := r
  exact ⟨_, rfl, h2 H' g1.same⟩
theorem vt_chain {op op' : CmpOp} {g g' : PyData → PyData → Option PyData} (ho : OpOk X (compareOp op) g) (ho' : OpOk X (compareOp op') g') (bo : boolG g) (bo' : boolG g') (ha : VE X C A a fa) (hb : VE X C B b fb) (hc : VE X C B' c fc)
    (hm : lastMarks [op, op'] [b, c] = false := by with_unfolding_all rfl) : VT X C (.Compare a [op, op'] [b, c] pos) (eT (eChain g g' fa fb fc)) := .by fun σ H Q ⟨env, Fs, hs, h⟩ => by
  obtain ⟨r, q, z⟩ := OkP.pick opF ho (fa env) (fb env)
  obtain ⟨r', q', z'⟩ := OkP.pick opF ho' (fb env) (fc env)
  refine ⟨_, pt_chain q q' ha hb hc hm, ?_⟩
  refine ⟨env, Fs, hs, post_mono (post_bind (post_bind h)) (fun d1 e1 h1 v H1 F1 g1 => ?_) fun _ _ h => h⟩
  refine ⟨env, Fs, hs.mono g1.same, post_mono (post_bind h1) (fun d2 e2 h2 w H2 F2 g2 => ?_) fun _ _ h H' dx s x => h H' dx (g1.same.trans s) x⟩
  obtain ⟨d, hd, h3⟩ := of_post (post_bind h2)
  refine z d1 d2 d e1 e2 hd v w F1 F2 H2 _ (g1.rep.mono g2.same) g2.rep fun u H3 F r3 s3 src nd => ?_
  obtain ⟨k, rfl⟩ := bo _ _ _ hd
  obtain ⟨rfl, rfl⟩ := r3
  refine ⟨k, rfl, ?_⟩
  have s13 : Same H H3 := (g1.same.trans g2.same).trans s3
  cases k with
  | true =>
    simp only [if_true]
    refine ⟨env, Fs, hs.mono s13, post_mono (post_bind h3) (fun d4 e4 h4 w4 H4 F4 g4 => ?_) fun _ _ h H' dx s x => h H' dx (s13.trans s) x⟩
    obtain ⟨d5, hd5, h5⟩ := of_post h4
    refine z' d2 d4 d5 e2 e4 hd5 w w4 F2 F4 H4 _ (g2.rep.mono (s3.trans g4.same)) g4.rep fun u5 H5 F5 r5 s5 _ _ => ?_
    obtain ⟨k5, rfl⟩ := bo' _ _ _ hd5
    obtain ⟨rfl, rfl⟩ := r5
    exact ⟨k5, rfl, h5 H5 ((s13.trans g4.same).trans s5)⟩
  | false =>
    simp only [Bool.false_eq_true, if_false]
    exact ⟨false, rfl, h3 H3 s13⟩
theorem vt_not (ha : VT X C a ta) : VT X C (.UnaryOp .Not a pos) (tNotB ta) := (pt_not ha).imp fun σ H Q ⟨env, Fs, hs, h⟩ => ⟨env, Fs, hs, post_mono (post_bind h) (fun _ _ h => h) fun _ _ h => h⟩
abbrev VW (X : Cx) (C : Cc) (e : Expr) (f : Lo → Res Bool) : Prop := PW X e (tvt X.K C f)
theorem PWimp {t t' : TT} (p : PW X e t) (h : ∀ σ H Q, t' σ H Q → t σ H Q) : PW X e t' := ⟨fun wh pins s σ H Q I hw => p.run wh pins s σ H Q I (h σ H Q hw)⟩
theorem vw_and1 (ha : VT X C a ta) : VW X C (.BoolOp .And [a] pos) ta := pw_and1 ha
theorem vw_or1 (ha : VT X C a ta) : VW X C (.BoolOp .Or [a] pos) ta := pw_or1 ha
theorem vw_and (ha : VT X C a ta) (hb : VW X C (.BoolOp .And (b :: rest) pos) tb) : VW X C (.BoolOp .And (a :: b :: rest) pos) (tAndB ta tb) :=
  PWimp (pw_and ha hb) fun σ H Q ⟨env, Fs, hs, h⟩ => ⟨env, Fs, hs, post_mono (post_bind h) (fun k _ h1 H1 s1 => by
    cases k with
    | true =>
      simp only [if_true] at h1 ⊢
      exact ⟨env, Fs, hs.mono s1, post_mono h1 (fun _ _ h H' s => h H' (s1.trans s)) fun _ _ h H' dx s x => h H' dx (s1.trans s) x⟩
    | false =>
      simp only [Bool.false_eq_true, if_false] at h1 ⊢
      exact h1 H1 s1) fun _ _ h => h⟩
theorem vw_or (ha : VT X C a ta) (hb : VW X C (.BoolOp .Or (b :: rest) pos) tb) : VW X C (.BoolOp .Or (a :: b :: rest) pos) (tOrB ta tb) :=
  PWimp (pw_or ha hb) fun σ H Q ⟨env, Fs, hs, h⟩ => ⟨env, Fs, hs, post_mono (post_bind h) (fun k _ h1 H1 s1 => by
    cases k with
    | false =>
      simp only [Bool.false_eq_true, if_false] at h1 ⊢
      exact ⟨env, Fs, hs.mono s1, post_mono h1 (fun _ _ h H' s => h H' (s1.trans s)) fun _ _ h H' dx s x => h H' dx (s1.trans s) x⟩
    | true =>
      simp only [if_true] at h1 ⊢
      exact h1 H1 s1) fun _ _ h => h⟩
theorem vt_pw (h : VW X C e ta) : VT X C e ta := h.pt
end
end PV

set_option Elab.async false
set_option linter.all false
set_option maxRecDepth 100000
namespace PV
open PySem PySem.Spec L2
open PyProof.Rows hiding St
/-- what the rules want of a context -/
structure Gd (X : Cx) : Prop where
  calm : X.calm = true
  hu : X.A.units + 65 < cLine
  nd : X.N.Nodup
section
variable {X : Cx} {C : Cc} {e a b c : Expr} {es rest : List Expr} {pos : Pos} {A B B' : List Nat} {fa fb fc f : Lo → Res PyData} {ta tb : Lo → Res Bool}
theorem Gd.hu1 (g : Gd X) : X.A.units + 1 < cLine := by have := g.hu; omega
theorem Gd.hu64 (g : Gd X) : X.A.units + 64 < cLine := by have := g.hu; omega
/-! ### subscripts -/
def scrL : List (PyData × PyData) → Option (List PyData)
  | [(.none, .list ds)] => if isOl [(.none, .list ds)] then none else some ds
  | _ => none
theorem scrL_P (ns : List Int) : scrL (scrP ns) = some (ns.map .int) := by
  cases ns with
  | nil => rfl
  | cons n ns => cases ns <;> rfl
theorem scrL_dictK {kvs : List (PyData × PyData)} {ds : List PyData} (h : scrL kvs = some ds) : dictK kvs = none := by
  unfold scrL at h
  split at h
  · rfl
  · cases h
def lookD : List (PyData × PyData) → Int → Option PyData
  | [], _ => none
  | (.int k, d) :: r, i => if k = i then some d else lookD r i
  | _ :: r, i => lookD r i
def dIx : PyData → PyData → Option PyData
  | .list ds, .int i => atI ds i
  | .tuple ds, .int i => atI ds i
  | .str z, .int i => if z.length ≤ 1000000 then (atI z.cps.toList i).map fun c => .str ⟨#[c]⟩ else none
  | .dict kvs, .int i => match scrL kvs with
    | some ds => atI ds i
    | none => lookD kvs i
  | _, _ => none
def dIx0 (x y : PyData) : Option PyData := match x with
  | .dict _ => none
  | .none | .bool _ | .int _ | .list _ | .tuple _ | .str _ => dIx x y
theorem repl_atI {K : PySem.W.Frag} {H : Hp} {ds : List PyData} {xs : List V} {F : List Addr} {i : Int} {d : PyData} (h : RepL K H ds xs F) (e : atI ds i = some d) : ∃ x F1 G F2, atI xs i = some x ∧ Rep K H d x G ∧ F = F1 ++ G ++ F2 := by
  unfold atI at e ⊢
  rw [h.length]
  cases q : ixN ds.length i with
  | none => rw [q] at e; cases e
  | some j =>
    rw [q] at e
    exact h.get (i := j) e
theorem sub_mid {F1 G F2 : List Addr} : G.Sublist (F1 ++ G ++ F2) := (List.sublist_append_right F1 G).trans (List.sublist_append_left _ F2)
theorem atom_rep {K : PySem.W.Frag} {H : Hp} {d : PyData} {w : V} (e : atomV d = some w) : Rep K H d w [] := by
  cases d <;> first | (cases e; exact ⟨rfl, rfl⟩) | cases e
theorem exRep_look {H : Hp} {kvs : List (PyData × PyData)} {v : V} (h : ExRep H kvs v) (i : Int) : lookD kvs i = none := by
  obtain ⟨a, _, rfl | ⟨d, x, w, rfl, _⟩ | ⟨rfl, _⟩⟩ := h <;> simp [excP, excA, olP, lookD]
theorem exRep_scr {H : Hp} {kvs : List (PyData × PyData)} {v : V} (h : ExRep H kvs v) : scrL kvs = none := by
  obtain ⟨a, _, rfl | ⟨d, x, w, rfl, _⟩ | ⟨rfl, _⟩⟩ := h <;> simp [excP, excA, olP, scrL, isOl]
theorem lookD_val : ∀ {kvs : List (PyData × PyData)} {ks : List (Key × V)} {i : Int}, dictK kvs = some ks → valV ks (.inl i) = (lookD kvs i).bind atomV ∧ (∀ d, lookD kvs i = some d → (atomV d).isSome = true)
  | [], _, _, h => by cases h; exact ⟨rfl, fun _ z => nomatch z⟩
  | (k, d) :: r, _, i, h => by
    cases k <;> simp only [dictK] at h <;> try (cases h)
    rename_i k
    split at h
    · rename_i v ks hv hr
      cases h
      obtain ⟨h1, h2⟩ := lookD_val (i := i) hr
      unfold valV at h1 ⊢
      rw [List.find?_cons]
      by_cases e : k = i
      · subst e
        simp only [lookD, decide_true, Option.map_some, if_true]
        exact ⟨by simp [hv], fun d' z => by cases z; rw [hv]; rfl⟩
      · have : decide ((Sum.inl k : Key) = Sum.inl i) = false := decide_eq_false fun z => e (Sum.inl.inj z)
        simp only [this, lookD, if_neg e]
        exact ⟨h1, h2⟩
    · cases h
theorem ixF : IxR X fun _ _ _ _ => False := fun _ _ _ _ _ _ _ _ _ _ _ _ _ _ z => z.elim
theorem ok_ix : OkP X (IxR X) dIx0 := fun d1 d2 d e => by
  by_cases hd : ∃ kvs, d1 = .dict kvs
  · obtain ⟨kvs, rfl⟩ := hd
    cases e
  · have e : dIx d1 d2 = some d := by
      cases d1 <;> first | exact e | exact absurd ⟨_, rfl⟩ hd
    unfold dIx at e
    split at e
    · rename_i ds i _
      refine ⟨_, ix_list, fun x y F1 F2 H Q h1 h2 k => ?_⟩
      obtain ⟨p, xs, G, rfl, s, r, rfl⟩ := h1
      obtain ⟨rfl, rfl⟩ := h2
      obtain ⟨x, G1, G', G2, q1, q2, rfl⟩ := repl_atI r e
      refine ⟨p, xs, i, x, rfl, rfl, SqL.of s, q1, k x H G' q2 (Same.refl H) (fun a ha => .inr (.inl (List.mem_cons_of_mem _ (sub_mid.subset ha)))) fun nd _ => ?_⟩
      rw [List.append_nil] at nd
      exact (List.nodup_cons.mp nd).2.sublist sub_mid
    · rename_i ds i _
      refine ⟨_, ix_tup, fun x y F1 F2 H Q h1 h2 k => ?_⟩
      obtain ⟨p, xs, rfl, s, r⟩ := h1
      obtain ⟨rfl, rfl⟩ := h2
      obtain ⟨x, G1, G', G2, q1, q2, rfl⟩ := repl_atI r e
      refine ⟨p, xs, i, x, rfl, rfl, s.sq, q1, k x H G' q2 (Same.refl H) (fun a ha => .inr (.inl (sub_mid.subset ha))) fun nd _ => ?_⟩
      rw [List.append_nil] at nd
      exact nd.sublist sub_mid
    · rename_i z i _
      split at e
      · rename_i hz
        refine ⟨_, ix_str, fun x y F1 F2 H Q h1 h2 k => ?_⟩
        obtain ⟨rfl, rfl⟩ := h1
        obtain ⟨rfl, rfl⟩ := h2
        have hsz := sizeLine_eq
        cases q : atI z.cps.toList i with
        | none => rw [q] at e; cases e
        | some c =>
          rw [q] at e
          cases e
          exact ⟨z, i, c, rfl, rfl, by omega, q, k _ H [] ⟨rfl, rfl⟩ (Same.refl H) (fun _ z => (nomatch z)) fun _ _ => List.nodup_nil⟩
      · cases e
    · exact absurd ⟨_, rfl⟩ hd
    · cases e
theorem scr_rep {K : PySem.W.Frag} {H : Hp} : ∀ (ns : List Int), RepL K H (ns.map .int) (ns.map V.int) []
  | [] => ⟨rfl, rfl⟩
  | n :: ns => ⟨.int n, ns.map V.int, [], [], rfl, ⟨rfl, rfl⟩, scr_rep ns, rfl⟩
theorem ve_ix (g : Gd X) (ha : VE X C A a fa) (hb : VE X C B b fb) (hs : PlainIx b := by exact fun _ _ => rfl) : VE X C (A ++ B) (.Subscript a b pos) (eOp dIx fa fb) := .by fun σ H Q ⟨env, Fs, hs', h⟩ => by
  by_cases hd : ∃ kvs, fa env = .ok (.dict kvs)
  · obtain ⟨kvs, hd⟩ := hd
    cases hk : scrL kvs with
    | none =>
      refine ⟨_, pe_dget g.hu1 ha hb hs, ?_⟩
      refine ⟨env, Fs, hs', post_mono (post_bind h) (fun d1 e1 h1 v H1 F1 g1 => ?_) fun _ _ h => h⟩
      rw [hd] at e1; cases e1
      refine ⟨env, Fs, hs'.mono g1.same, post_mono (post_bind h1) (fun d2 e2 h2 w H2 F2 g2 => ?_) fun _ _ h H' dx s x => h H' dx (g1.same.trans s) x⟩
      obtain ⟨d, hd, h3⟩ := of_post h2
      cases d2 <;> simp only [dIx, hk] at hd <;> try (cases hd)
      rename_i i
      have r1 := g1.rep.mono g2.same
      have r2 := g2.rep
      obtain ⟨rfl, rfl⟩ := r2
      rcases r1 with ⟨p, ks, rfl, hk', hH, rfl⟩ | ⟨p, ns, rfl, rfl, _, _⟩ | ⟨hx, _⟩
      · obtain ⟨q1, q2⟩ := lookD_val (i := i) hk'
        obtain ⟨w, hw⟩ := Option.isSome_iff_exists.mp (q2 d hd)
        rw [hd] at q1
        have q1 : valV ks (.inl i) = some w := by rw [q1]; exact hw
        have dg := DGet.k (k := Sum.inl i) hH
        rw [q1] at dg
        exact ⟨p, w, rfl, dg, h3 w H2 [] (.flat (g1.same.trans g2.same) (atom_rep hw))⟩
      · rw [scrL_P] at hk
        cases hk
      · rw [exRep_look hx] at hd; cases hd
    | some ds =>
      refine ⟨_, pe_ix ix_list ha hb hs, ?_⟩
      refine ⟨env, Fs, hs', post_mono (post_bind h) (fun d1 e1 h1 v H1 F1 g1 => ?_) fun _ _ h => h⟩
      rw [hd] at e1; cases e1
      refine ⟨env, Fs, hs'.mono g1.same, post_mono (post_bind h1) (fun d2 e2 h2 w H2 F2 g2 => ?_) fun _ _ h H' dx s x => h H' dx (g1.same.trans s) x⟩
      obtain ⟨d, hd, h3⟩ := of_post h2
      cases d2 <;> simp only [dIx, hk] at hd <;> try (cases hd)
      rename_i i
      have r1 := g1.rep.mono g2.same
      have r2 := g2.rep
      obtain ⟨rfl, rfl⟩ := r2
      rcases r1 with ⟨p, ks, rfl, hk', hH, rfl⟩ | ⟨p, ns, rfl, rfl, hz, _⟩ | ⟨hx, _⟩
      · rw [scrL_dictK hk] at hk'
        cases hk'
      · rw [scrL_P] at hk
        cases hk
        obtain ⟨x, G1, G, G2, q1, q2, hG⟩ := repl_atI (scr_rep (K := X.K) (H := H2) ns) hd
        have : G = [] := by
          have := congrArg List.length hG
          simp at this
          exact List.eq_nil_of_length_eq_zero (by omega)
        subst this
        exact ⟨p, _, i, x, rfl, rfl, hz.sq, q1, h3 x H2 [] (.flat (g1.same.trans g2.same) q2)⟩
      · rw [exRep_scr hx] at hk; cases hk
  · obtain ⟨r, q, z⟩ := OkP.pick ixF ok_ix (fa env) (fb env)
    exact ⟨_, pe_ix q ha hb hs, op_reads (g := dIx) hs' (fun d1 d2 d e1 e2 e3 => z d1 d2 d e1 e2 (by
      cases d1 <;> first | exact e3 | exact absurd ⟨_, e1⟩ hd)) h⟩
/-! ### slices -/
abbrev VO (X : Cx) (C : Cc) (e : Option Expr) (f : Lo → Res (Option Int)) : Prop := PO X e (fun σ H Q => ∃ env Fs, Slots X.K env σ H Fs ∧
  (f env).post (fun d => ∀ H', Same H H' → Q d H') fun c x => ∀ H' dx, Same H H' → ExAt X.K H' c x dx → C.W (.ref (C.ec c)) dx σ H')
theorem POimp {e : Option Expr} {t t' : TO} (p : PO X e t) (h : ∀ σ H Q, t' σ H Q → t σ H Q) : PO X e t' := ⟨fun pins s σ H Q I hw => p.run pins s σ H Q I (h σ H Q hw)⟩
def oNone : Lo → Res (Option Int) := fun _ => .ok none
def oSome (f : Lo → Res PyData) : Lo → Res (Option Int) := fun env => (f env).bind fun d => match d with
  | .int i => .ok (some i)
  | _ => .bad
theorem vo_none : VO X C none oNone := POimp po_none fun σ H Q ⟨env, Fs, hs, h⟩ => h H (Same.refl H)
theorem vo_some (h : VE X C A e f) : VO X C (some e) (oSome f) := POimp (po_some h) fun σ H Q ⟨env, Fs, hs, h⟩ => by
  refine ⟨env, Fs, hs, post_mono (post_bind h) (fun d _ h1 v H1 F g1 => ?_) fun _ _ h => h⟩
  split at h1
  · have r := g1.rep
    obtain ⟨rfl, _⟩ := r
    exact ⟨_, rfl, h1 H1 g1.same⟩
  · exact h1.elim
def cutD (ds : List PyData) (lo hi : Option Int) : List PyData := (ds.drop (HT.sIx ds.length 0 lo)).take (HT.sIx ds.length ds.length hi - HT.sIx ds.length 0 lo)
def dSl (d : PyData) (lo hi : Option Int) : Option PyData := match d with
  | .list ds => some (.list (cutD ds lo hi))
  | .tuple ds => some (.tuple (cutD ds lo hi))
  | .str z => if z.length ≤ 1000000 then some (.str (cutS z lo hi)) else none
  | _ => none
def eSl (fa : Lo → Res PyData) (fl fh : Lo → Res (Option Int)) : Lo → Res PyData := fun env => (fa env).bind fun d => (fl env).bind fun lo => (fh env).bind fun hi => .of (dSl d lo hi)
theorem repl_cut {K : PySem.W.Frag} {H : Hp} {ds : List PyData} {xs : List V} {F : List Addr} (lo hi : Option Int) (h : RepL K H ds xs F) : ∃ G, G.Sublist F ∧ RepL K H (cutD ds lo hi) (cutV xs lo hi) G := by
  unfold cutD cutV
  rw [h.length]
  obtain ⟨G1, G, rfl, q⟩ := h.drop (HT.sIx ds.length 0 lo)
  obtain ⟨G2, G3, rfl, q2⟩ := q.take (HT.sIx ds.length ds.length hi - HT.sIx ds.length 0 lo)
  exact ⟨G2, (List.sublist_append_left G2 G3).trans (List.sublist_append_right G1 _), q2⟩
def rSlF : V → Option Int → Option Int → Hp → VK → Prop := fun x lo hi H Q => ∃ a xs, x = .ref a ∧ FT H a xs ∧
  (HT.sIx xs.length 0 lo = 0 ∧ HT.sIx xs.length xs.length hi = xs.length → Q (.ref a) H) ∧ (¬ (HT.sIx xs.length 0 lo = 0 ∧ HT.sIx xs.length xs.length hi = xs.length) → ∀ p o, H p = none → o.dict = none → Q (.ref p) (upd H p (.frz o (.tup (cutV xs lo hi)))))
theorem sl_tupF : SlR X rSlF := by
  intro pins s σ H x v vl vu lo hi sl Q I rx hs pl pu h
  obtain ⟨a, xs, rfl, hx, q1, q2⟩ := h
  cases rx
  obtain ⟨its, r, ht, hz⟩ := I.tuple (hx.sq (K := X.K))
  have hlen : its.toArray.size = xs.length := by rw [List.size_toArray]; exact r.length.symm
  refine ⟨"tuple", _, PyProof.Rows.slot_tuple_getitem.lookup, ht.typeIs, ?_⟩
  by_cases hw : HT.sIx xs.length 0 lo = 0 ∧ HT.sIx xs.length xs.length hi = xs.length
  · exact getItem_tuple_whole ht hs pl pu (by rw [hlen]; exact hw) ⟨.ref a, H, I, rfl, q1 hw⟩
  · refine HT.getItem_tuple_cut ht hs pl pu (by rw [hlen]; exact hw) ?_ (by rw [hlen]; exact hz)
    rw [hlen]
    exact ⟨.ref s.heap.objs.size, _, I.newTup (t' := s.toks) ((r.drop (HT.sIx xs.length 0 lo)).take (HT.sIx xs.length xs.length hi - HT.sIx xs.length 0 lo)) (Nat.le_trans (cutV_length xs lo hi) hz), rfl, q2 hw _ _ (I.hok.fresh (Nat.le_refl _)) rfl⟩
theorem ve_slice {lo hi : Option Expr} {fl fh : Lo → Res (Option Int)} {p2} (ha : VE X C A a fa) (hl : VO X C lo fl) (hh : VO X C hi fh) : VE X C A (.Subscript a (.Slice lo hi none p2) pos) (eSl fa fl fh) := .by fun σ H Q ⟨env, Fs, hs, h⟩ => by
  have key : ∀ r : V → Option Int → Option Int → Hp → VK → Prop, (∀ d lo hi, fa env = .ok d → ∀ d', dSl d lo hi = some d' → ∀ x F H Q, Rep X.K H d x F → (∀ v H' G, Rep X.K H' d' v G → Same H H' → (∀ a ∈ G, (H a = none ∧ Mu H' a) ∨ a ∈ F) → (F.Nodup → (∀ a ∈ F, Mu H a) → G.Nodup) → Q v H') → r x lo hi H Q) →
      tSl r (tv X.K C A fa) (fun σ H Q => ∃ env Fs, Slots X.K env σ H Fs ∧ (fl env).post (fun d => ∀ H', Same H H' → Q d H') fun c x => ∀ H' dx, Same H H' → ExAt X.K H' c x dx → C.W (.ref (C.ec c)) dx σ H')
        (fun σ H Q => ∃ env Fs, Slots X.K env σ H Fs ∧ (fh env).post (fun d => ∀ H', Same H H' → Q d H') fun c x => ∀ H' dx, Same H H' → ExAt X.K H' c x dx → C.W (.ref (C.ec c)) dx σ H') σ H Q := fun r hr => by
    refine ⟨env, Fs, hs, post_mono (post_bind h) (fun d1 e1 h1 v H1 F1 g1 => ?_) fun _ _ h => h⟩
    refine ⟨env, Fs, hs.mono g1.same, post_mono (post_bind h1) (fun lo e2 h2 H2 s2 => ?_) fun _ _ h H' dx s x => h H' dx (g1.same.trans s) x⟩
    refine ⟨env, Fs, hs.mono (g1.same.trans s2), post_mono (post_bind h2) (fun hi e3 h3 H3 s3 => ?_) fun _ _ h H' dx s x => h H' dx ((g1.same.trans s2).trans s) x⟩
    obtain ⟨d, hd, h4⟩ := of_post h3
    have s13 := s2.trans s3
    refine hr d1 lo hi e1 d hd v F1 H3 Q (g1.rep.mono s13) fun u H4 G r4 s4 src nd => h4 u H4 G ⟨r4, (g1.same.trans s13).trans s4, fun a ha => ?_, fun n m => ?_⟩
    · rcases src a ha with ⟨n, m⟩ | ha
      · exact .inl ⟨(g1.same.trans s13).free n, m⟩
      · rcases g1.src a ha with ⟨n, m⟩ | z
        · exact .inl ⟨n, m.same (s13.trans s4)⟩
        · exact .inr z
    · refine nd (g1.nd n m) fun a ha => ?_
      rcases g1.src a ha with ⟨_, z⟩ | z
      · exact z.same s13
      · exact (m a z).same (g1.same.trans s13)
  by_cases ht : ∃ ds, fa env = .ok (.tuple ds)
  · obtain ⟨ds, ht⟩ := ht
    refine ⟨_, pe_slice sl_tupF ha hl hh, key _ fun d lo hi e d' hd x F H Q r k => ?_⟩
    rw [ht] at e; cases e
    cases hd
    obtain ⟨p, xs, rfl, s, r⟩ := r
    refine ⟨p, xs, rfl, s, fun hw => ?_, fun _ q o nq od => ?_⟩
    · have e : cutD ds lo hi = ds := by
        unfold cutD
        rw [r.length] at hw
        rw [hw.1, hw.2, List.drop_zero, Nat.sub_zero, List.take_length]
      rw [e] at k
      exact k _ H F ⟨p, xs, rfl, s, r⟩ (Same.refl H) (fun a ha => .inr ha) fun nd _ => nd
    · obtain ⟨G, sub, r'⟩ := repl_cut lo hi r
      exact k _ _ G ⟨q, _, rfl, ⟨o, od, upd_same⟩, r'.mono (same_upd nq)⟩ (same_upd nq) (fun a ha => .inr (sub.subset ha)) fun nd _ => nd.sublist sub
  · by_cases hl' : ∃ ds, fa env = .ok (.list ds)
    · obtain ⟨ds, hl'⟩ := hl'
      refine ⟨_, pe_slice sl_list ha hl hh, key _ fun d lo hi e d' hd x F H Q r k => ?_⟩
      rw [hl'] at e; cases e
      cases hd
      obtain ⟨p, xs, G, rfl, s, r, rfl⟩ := r
      refine ⟨p, xs, rfl, SqL.of s, fun q nq => ?_⟩
      obtain ⟨G', sub, r'⟩ := repl_cut lo hi r
      refine k _ _ (q :: G') ⟨q, _, G', rfl, upd_same, r'.mono (same_upd nq), rfl⟩ (same_upd nq) (fun a ha => ?_) fun nd mu => ?_
      · rcases List.mem_cons.mp ha with rfl | ha
        · exact .inl ⟨nq, .inl ⟨_, upd_same⟩⟩
        · exact .inr (List.mem_cons_of_mem _ (sub.subset ha))
      · exact List.nodup_cons.mpr ⟨fun z => (mu q (List.mem_cons_of_mem _ (sub.subset z))).notnone nq, (List.nodup_cons.mp nd).2.sublist sub⟩
    · refine ⟨_, pe_slice sl_str ha hl hh, key _ fun d lo hi e d' hd x F H Q r k => ?_⟩
      unfold dSl at hd
      split at hd
      · exact absurd ⟨_, e⟩ hl'
      · exact absurd ⟨_, e⟩ ht
      · split at hd
        · rename_i hz
          cases hd
          obtain ⟨rfl, rfl⟩ := r
          have hsz := sizeLine_eq
          exact ⟨_, rfl, by omega, k _ H [] ⟨rfl, rfl⟩ (Same.refl H) (fun _ z => (nomatch z)) fun _ _ => List.nodup_nil⟩
        · cases hd
      · cases hd
end
end PV

set_option Elab.async false
set_option linter.all false
set_option maxRecDepth 100000
namespace PV
open PySem PySem.Spec L2
open PyProof.Rows hiding St
section
variable {X : Cx} {C : Cc} {e a b c : Expr} {es rest : List Expr} {pos : Pos} {A B B' : List Nat} {fa fb fc f : Lo → Res PyData} {ta tb : Lo → Res Bool} {fs : Lo → Res (List PyData)}
/-! ### calls of built-ins by their values -/
/-- what a new value is allowed to stand on -/
def Kont (X : Cx) (H : Hp) (F : List Addr) (d : PyData) (Q : VK) : Prop := ∀ v H' G, Rep X.K H' d v G → Same H H' → (∀ a ∈ G, (H a = none ∧ Mu H' a) ∨ a ∈ F) → (F.Nodup → (∀ a ∈ F, Mu H a) → G.Nodup) → Q v H'
theorem Kont.flat {H : Hp} {F : List Addr} {d : PyData} {Q : VK} (k : Kont X H F d Q) {v : V} (r : Rep X.K H d v []) : Q v H := k v H [] r (Same.refl H) (fun _ z => (nomatch z)) fun _ _ => List.nodup_nil
def CaOk (X : Cx) (P : (List V → Hp → VK → Prop) → Prop) (g : List PyData → Option PyData) : Prop := ∀ ds d, g ds = some d → ∃ r, P r ∧ ∀ xs F H Q, RepL X.K H ds xs F → Kont X H F d Q → r xs H Q
theorem CaOk.pick {P : (List V → Hp → VK → Prop) → Prop} {g : List PyData → Option PyData} (hF : P fun _ _ _ => False) (ho : CaOk X P g) (r1 : Res (List PyData)) : ∃ r, P r ∧
    ∀ ds d, r1 = .ok ds → g ds = some d → ∀ xs F H Q, RepL X.K H ds xs F → Kont X H F d Q → r xs H Q := by
  by_cases h : ∃ ds d, r1 = .ok ds ∧ g ds = some d
  · obtain ⟨ds, d, rfl, e⟩ := h
    obtain ⟨r, q, z⟩ := ho ds d e
    refine ⟨r, q, fun ds' d' h1 h2 => ?_⟩
    cases h1
    rw [e] at h2; cases h2
    exact z
  · exact ⟨fun _ _ _ => False, hF, fun ds d h1 h2 => absurd ⟨ds, d, h1, h2⟩ h⟩
theorem caF {f : Value} : CallR X f fun _ _ _ => False := fun _ _ _ _ _ _ _ _ _ z => z.elim
def eCall (g : List PyData → Option PyData) (fs : Lo → Res (List PyData)) : Lo → Res PyData := fun env => (fs env).bind fun ds => .of (g ds)
theorem kont_of {H H1 : Hp} {Fs : Nat → List Addr} {ds : List PyData} {vs : List V} {G : List Addr} {d : PyData} {Q : VK} (g1 : GotL X.K A H Fs ds vs H1 G) (h : ∀ v H' F, Got X.K A H Fs d v H' F → Q v H') : Kont X H1 G d Q :=
  fun v H' F r s src nd => h v H' F ⟨r, g1.same.trans s, fun a ha => (src a ha).elim (fun z => .inl ⟨g1.same.free z.1, z.2⟩) fun z => (g1.src a z).elim (fun y => .inl ⟨y.1, y.2.same s⟩) .inr,
    fun n m => nd (g1.nd n m) fun a ha => (g1.src a ha).elim (fun z => z.2) fun z => (m a z).same g1.same⟩
theorem call_reads {r : List V → Hp → VK → Prop} {g : List PyData → Option PyData} {σ : St} {H : Hp} {Q : VK} {env : Lo} {Fs : Nat → List Addr} (hs : Slots X.K env σ H Fs)
    (z : ∀ ds d, fs env = .ok ds → g ds = some d → ∀ xs F H Q, RepL X.K H ds xs F → Kont X H F d Q → r xs H Q)
    (h : (eCall g fs env).post (fun d => ∀ v H' F, Got X.K A H Fs d v H' F → Q v H') fun c x => ∀ H' dx, Same H H' → ExAt X.K H' c x dx → C.W (.ref (C.ec c)) dx σ H') :
    tvs X.K C A fs σ H fun xs H1 => r xs H1 Q := by
  refine ⟨env, Fs, hs, post_mono (post_bind h) (fun ds e1 h1 vs H1 G g1 => ?_) fun _ _ h => h⟩
  obtain ⟨d, hd, h2⟩ := of_post h1
  exact z ds d e1 hd vs G H1 Q g1.rep (kont_of g1 h2)
theorem ve_callB {id : String} {x : Str} {p : Pos} {g : List PyData → Option PyData} (hc : CaOk X (CallR X (.builtin id)) g) (hg : Gl X x) (hm : X.mg x = none) (hv : bootBuiltins x = some (.builtin id)) (ha : VA X C A (e :: es) fs) (hn : x ≠ "__name__" := by decide) (hdb : (x == ("__debug__" : Str)) = false := by decide)
    (he : starEach (e :: es) X.env = (false, eval e X.env) :: starEach es X.env := by rfl) (hpl : (backTo pos (starEach es X.env)).any (·.1) = false := by rfl) : VE X C A (.Call (.Name x p) (e :: es) [] pos) (eCall g fs) := .by fun σ H Q ⟨env, Fs, hs, h⟩ => by
  obtain ⟨r, q, z⟩ := CaOk.pick caF hc (fs env)
  exact ⟨_, pe_callB q hg hm hv ha hn hdb he hpl, call_reads hs z h⟩
theorem ve_callTy {T : String} {x : Str} {p : Pos} {g : List PyData → Option PyData} (hc : CaOk X (CallR X (.type T)) g) (hg : Gl X x) (hm : X.mg x = none) (hv : bootBuiltins x = some (.type T)) (ha : VA X C A (e :: es) fs) (hn : x ≠ "__name__" := by decide) (hdb : (x == ("__debug__" : Str)) = false := by decide)
    (he : starEach (e :: es) X.env = (false, eval e X.env) :: starEach es X.env := by rfl) (hpl : (backTo pos (starEach es X.env)).any (·.1) = false := by rfl) : VE X C A (.Call (.Name x p) (e :: es) [] pos) (eCall g fs) := .by fun σ H Q ⟨env, Fs, hs, h⟩ => by
  obtain ⟨r, q, z⟩ := CaOk.pick caF hc (fs env)
  exact ⟨_, pe_callTy q hg hm hv ha hn hdb he hpl, call_reads hs z h⟩
theorem repl_one {K : PySem.W.Frag} {H : Hp} {d : PyData} {xs : List V} {F : List Addr} (h : RepL K H [d] xs F) : ∃ x, xs = [x] ∧ Rep K H d x F := by
  obtain ⟨x, ys, F1, F2, rfl, r, ⟨rfl, rfl⟩, rfl⟩ := h
  exact ⟨x, rfl, by rw [List.append_nil]; exact r⟩
theorem repl_two {K : PySem.W.Frag} {H : Hp} {d1 d2 : PyData} {xs : List V} {F : List Addr} (h : RepL K H [d1, d2] xs F) : ∃ x y F1 F2, xs = [x, y] ∧ Rep K H d1 x F1 ∧ Rep K H d2 y F2 ∧ F = F1 ++ F2 := by
  obtain ⟨x, ys, F1, F2, rfl, r, h, rfl⟩ := h
  obtain ⟨y, rfl, r2⟩ := repl_one h
  exact ⟨x, y, F1, F2, rfl, r, r2, rfl⟩
def gLen : List PyData → Option PyData
  | [.dict kvs] => (scrL kvs).map fun ds => .int ds.length
  | [.list ds] => some (.int ds.length)
  | [.tuple ds] => some (.int ds.length)
  | [.str z] => if z.length ≤ 1000000 then some (.int z.length) else none
  | _ => none
theorem ca_len : CaOk X (CallR X (.builtin "len")) gLen := fun ds d e => by
  unfold gLen at e
  split at e
  · rename_i kvs
    cases hk : scrL kvs with
    | none => rw [hk] at e; cases e
    | some ds =>
      rw [hk] at e
      cases e
      refine ⟨_, call_len_seq, fun xs F H Q r k => ?_⟩
      obtain ⟨x, rfl, r1⟩ := repl_one r
      rcases r1 with ⟨p, ks, rfl, hk', hH, rfl⟩ | ⟨p, ns, rfl, rfl, hz, _⟩ | ⟨hx, _⟩
      · rw [scrL_dictK hk] at hk'
        cases hk'
      · rw [scrL_P] at hk
        cases hk
        have k' : Kont X H F (.int ((ns.map PyData.int).length : Nat)) Q := k
        exact ⟨p, _, rfl, .inl hz.sq, by rw [List.length_map] at k' ⊢; exact k'.flat rep_int⟩
      · rw [exRep_scr hx] at hk; cases hk
  · cases e
    refine ⟨_, call_len_seq, fun xs F H Q r k => ?_⟩
    obtain ⟨x, rfl, r1⟩ := repl_one r
    obtain ⟨a, us, G, rfl, s, r2, rfl⟩ := r1
    exact ⟨a, us, rfl, .inl (SqL.of s), by rw [r2.length]; exact k.flat rep_int⟩
  · cases e
    refine ⟨_, call_len_seq, fun xs F H Q r k => ?_⟩
    obtain ⟨x, rfl, r1⟩ := repl_one r
    obtain ⟨a, us, rfl, s, r2⟩ := r1
    exact ⟨a, us, rfl, .inr s.sq, by rw [r2.length]; exact k.flat rep_int⟩
  · split at e
    · rename_i z hz
      cases e
      refine ⟨_, call_len_str, fun xs F H Q r k => ?_⟩
      obtain ⟨x, rfl, r1⟩ := repl_one r
      obtain ⟨rfl, rfl⟩ := r1
      have hsz := sizeLine_eq
      exact ⟨z, rfl, by omega, k.flat rep_int⟩
    · cases e
  · cases e
def flG (g : List PyData → Option PyData) : Prop := ∀ ds d, g ds = some d → flat d = true
theorem flatCall {g : List PyData → Option PyData} (hg : flG g) : ∀ env d, eCall g fs env = .ok d → flat d = true := fun env d h => by
  unfold eCall at h
  cases e1 : fs env <;> rw [e1] at h <;> try (cases h)
  rename_i ds
  have h : Res.of (g ds) = .ok d := h
  cases e3 : g ds <;> rw [e3] at h <;> cases h
  exact hg _ _ e3
theorem fl_len : flG gLen := fun ds d e => by
  unfold gLen at e; split at e
  · rename_i kvs
    cases hk : scrL kvs <;> rw [hk] at e <;> cases e
    rfl
  · cases e; rfl
  · cases e; rfl
  · split at e <;> cases e; rfl
  · cases e
theorem ve_len {p : Pos} (hg : Gl X "len") (hm : X.mg "len" = none) (ha : VA X C A [e] fs) (he : starEach [e] X.env = (false, eval e X.env) :: starEach [] X.env := by rfl) : VE X C [] (.Call (.Name "len" p) [e] [] pos) (eCall gLen fs) := ve_flat (ve_callB ca_len hg hm PySem.boot_len ha (he := he)) (flatCall fl_len)
/-! tuple(x), list(x) -/
theorem call_tuple_F : CallR X (.type "tuple") (fun xs H Q => ∃ p ys, xs = [.ref p] ∧ ((SqL X.K H p ys ∧ ∀ l o, H l = none → o.dict = none → Q (.ref l) (upd H l (.frz o (.tup ys)))) ∨ (SqT X.K H p ys ∧ Q (.ref p) H))) := by
  intro pins s σ H xs us Q I r h
  obtain ⟨p, ys, rfl, h⟩ := h
  obtain ⟨u, rfl, rx⟩ := vals1 r
  cases rx
  rcases h with ⟨hq, q⟩ | ⟨hq, q⟩
  · obtain ⟨its, r', pl, hz⟩ := I.list hq
    have hlen := r'.length
    refine call_tuple_list pl.isList (fun h' kp => ?_) (by simp only [List.size_toArray] <;> omega)
    have I1 : Inv X pins σ H { s with heap := h' } := I.kept (t' := s.toks) kp
    exact ⟨.ref h'.objs.size, _, I1.newTup (t' := s.toks) r' hz, rfl, q _ _ (I1.hok.fresh (Nat.le_refl _)) rfl⟩
  · obtain ⟨its, r', pl, hz⟩ := I.tuple hq
    exact call_tuple_same pl ⟨.ref p, H, I, rfl, q⟩
def gTuple : List PyData → Option PyData
  | [.list ds] => some (.tuple ds)
  | [.tuple ds] => some (.tuple ds)
  | _ => none
def gList : List PyData → Option PyData
  | [.list ds] => some (.list ds)
  | [.tuple ds] => some (.list ds)
  | _ => none
theorem ca_tuple : CaOk X (CallR X (.type "tuple")) gTuple := fun ds d e => by
  unfold gTuple at e
  split at e
  · cases e
    refine ⟨_, call_tuple_F, fun xs F H Q r k => ?_⟩
    obtain ⟨x, rfl, r1⟩ := repl_one r
    obtain ⟨a, us, G, rfl, s, r2, rfl⟩ := r1
    exact ⟨a, us, rfl, .inl ⟨SqL.of s, fun p o np od => k _ _ G ⟨p, us, rfl, ⟨o, od, upd_same⟩, r2.mono (same_upd np)⟩ (same_upd np) (fun c hc => .inr (List.mem_cons_of_mem _ hc)) fun n _ => (List.nodup_cons.mp n).2⟩⟩
  · cases e
    refine ⟨_, call_tuple_F, fun xs F H Q r k => ?_⟩
    obtain ⟨x, rfl, r1⟩ := repl_one r
    obtain ⟨a, us, rfl, s, r2⟩ := r1
    exact ⟨a, us, rfl, .inr ⟨s.sq, k _ H F ⟨a, us, rfl, s, r2⟩ (Same.refl H) (fun c hc => .inr hc) fun n _ => n⟩⟩
  · cases e
theorem ca_list : CaOk X (CallR X (.type "list")) gList := fun ds d e => by
  have key : ∀ {a : Addr} {us : List V} {G F : List Addr} {ds : List PyData} {H : Hp} {Q : VK}, RepL X.K H ds us G → G.Sublist F → Kont X H F (.list ds) Q → ∀ l, H l = none → Q (.ref l) (upd H l (.lst us)) :=
    fun {a us G F ds H Q} r sub k p np => k _ _ (p :: G) ⟨p, us, G, rfl, upd_same, r.mono (same_upd np), rfl⟩ (same_upd np) (fun c hc => by
      rcases List.mem_cons.mp hc with rfl | hc
      · exact .inl ⟨np, .inl ⟨_, upd_same⟩⟩
      · exact .inr (sub.subset hc)) fun n m => List.nodup_cons.mpr ⟨fun z => (m p (sub.subset z)).notnone np, n.sublist sub⟩
  unfold gList at e
  split at e
  · cases e
    refine ⟨_, call_list_of, fun xs F H Q r k => ?_⟩
    obtain ⟨x, rfl, r1⟩ := repl_one r
    obtain ⟨a, us, G, rfl, s, r2, rfl⟩ := r1
    exact ⟨a, us, rfl, .inl (SqL.of s), key (a := a) r2 (List.sublist_cons_self a G) k⟩
  · cases e
    refine ⟨_, call_list_of, fun xs F H Q r k => ?_⟩
    obtain ⟨x, rfl, r1⟩ := repl_one r
    obtain ⟨a, us, rfl, s, r2⟩ := r1
    exact ⟨a, us, rfl, .inr s.sq, key (a := a) r2 (List.Sublist.refl _) k⟩
  · cases e
theorem ve_tupleOf {p : Pos} (hg : Gl X "tuple") (hm : X.mg "tuple" = none) (ha : VA X C A [e] fs) (he : starEach [e] X.env = (false, eval e X.env) :: starEach [] X.env := by rfl) : VE X C A (.Call (.Name "tuple" p) [e] [] pos) (eCall gTuple fs) := ve_callTy ca_tuple hg hm (by decide +kernel) ha (he := he)
theorem ve_listOf {p : Pos} (hg : Gl X "list") (hm : X.mg "list" = none) (ha : VA X C A [e] fs) (he : starEach [e] X.env = (false, eval e X.env) :: starEach [] X.env := by rfl) : VE X C A (.Call (.Name "list" p) [e] [] pos) (eCall gList fs) := ve_callTy ca_list hg hm (by decide +kernel) ha (he := he)
/-! int(x), str(n) -/
def gInt : List PyData → Option PyData
  | [.int i] => some (.int i)
  | [.bool b] => some (.int (if b then 1 else 0))
  | [.str z] => match PySem.intText? z with
    | some n => if z.length ≤ 640 then some (.int n) else none
    | none => none
  | _ => none
theorem ca_int : CaOk X (CallR X (.type "int")) gInt := fun ds d e => by
  unfold gInt at e
  split at e
  · cases e
    refine ⟨_, call_int1, fun xs F H Q r k => ?_⟩
    obtain ⟨x, rfl, r1⟩ := repl_one r
    obtain ⟨rfl, rfl⟩ := r1
    exact .inl ⟨_, rfl, k.flat rep_int⟩
  · cases e
    refine ⟨_, call_int1, fun xs F H Q r k => ?_⟩
    obtain ⟨x, rfl, r1⟩ := repl_one r
    obtain ⟨rfl, rfl⟩ := r1
    exact .inr ⟨_, rfl, k.flat rep_int⟩
  · rename_i z
    split at e
    · rename_i n hn
      split at e
      · rename_i hz
        cases e
        refine ⟨_, call_int_str, fun xs F H Q r k => ?_⟩
        obtain ⟨x, rfl, r1⟩ := repl_one r
        obtain ⟨rfl, rfl⟩ := r1
        exact ⟨z, n, rfl, hn, hz, k.flat rep_int⟩
      · cases e
    · cases e
  · cases e
theorem fl_int : flG gInt := fun ds d e => by
  unfold gInt at e; split at e
  · cases e; rfl
  · cases e; rfl
  · split at e
    · split at e <;> cases e; rfl
    · cases e
  · cases e
theorem ve_intOf {p : Pos} (hg : Gl X "int") (hm : X.mg "int" = none) (ha : VA X C A [e] fs) (he : starEach [e] X.env = (false, eval e X.env) :: starEach [] X.env := by rfl) : VE X C [] (.Call (.Name "int" p) [e] [] pos) (eCall gInt fs) := ve_flat (ve_callTy ca_int hg hm (by decide +kernel) ha (he := he)) (flatCall fl_int)
def gStr : List PyData → Option PyData
  | [.int i] => if i.natAbs.log2 < 1920 then some (.str (toString i)) else none
  | _ => none
theorem ca_str : CaOk X (CallR X (.type "str")) gStr := fun ds d e => by
  unfold gStr at e
  split at e
  · rename_i i
    split at e
    · rename_i hz
      cases e
      refine ⟨_, call_str_int, fun xs F H Q r k => ?_⟩
      obtain ⟨x, rfl, r1⟩ := repl_one r
      obtain ⟨rfl, rfl⟩ := r1
      exact ⟨i, rfl, hz, k.flat ⟨rfl, rfl⟩⟩
    · cases e
  · cases e
theorem fl_str : flG gStr := fun ds d e => by
  unfold gStr at e; split at e
  · split at e <;> cases e; rfl
  · cases e
theorem ve_strOf {p : Pos} (hg : Gl X "str") (hm : X.mg "str" = none) (ha : VA X C A [e] fs) (he : starEach [e] X.env = (false, eval e X.env) :: starEach [] X.env := by rfl) : VE X C [] (.Call (.Name "str" p) [e] [] pos) (eCall gStr fs) := ve_flat (ve_callTy ca_str hg hm (by decide +kernel) ha (he := he)) (flatCall fl_str)

/-! ### a def of the text -/
def spV (K : PySem.W.Frag) (ec : Nat → Addr) (fn : List PyData → Res PyData) : Sp := fun vs H Q E => ∃ ds G, RepL K H ds vs G ∧
  (fn ds).post (fun d => ∀ v H' F, Rep K H' d v F → Same H H' → F.Nodup → (∀ a ∈ F, H a = none ∧ Mu H' a) → Q v H') fun c x => ∀ H' dx, Same H H' → ExAt K H' c x dx → E (.ref (ec c)) dx H'
def eFn (fn : List PyData → Res PyData) (fs : Lo → Res (List PyData)) : Lo → Res PyData := fun env => (fs env).bind fn
/-- a def as it stands behind the top, with what it does -/
structure Dn (P : Program) (w : World) (K : PySem.W.Frag) (mg : Str → Option Value) (base : Heap) (ec : Nat → Addr) (n : Nat) (x : Str) (fn : List PyData → Res PyData) : Prop where
  ex : ∃ (f : Addr) (fd : FuncData) (ps : List Str), FnOk P w K mg base (L2.CX P w) n f fd ps (spV K ec fn) ∧ mg x = some (.ref f) ∧ PySem.W.keepIn K (.ref f) = true ∧ Binds K fd ps []
theorem ve_fn {x : Str} {p : Pos} {n m : Nat} {fn : List PyData → Res PyData} (D : Dn X.prog X.w X.K X.mg X.base C.ec n x fn) (hr : Room m X.A) (hnm : n ≤ m) (tk : Takes X C.W) (hg : Gl X x) (ha : VA X C A (e :: es) fs)
    (hdb : (x == ("__debug__" : Str)) = false := by decide) (he : starEach (e :: es) X.env = (false, eval e X.env) :: starEach es X.env := by rfl) (hpl : (backTo pos (starEach es X.env)).any (·.1) = false := by rfl) :
    VE X C [] (.Call (.Name x p) (e :: es) [] pos) (eFn fn fs) := by
  obtain ⟨f, fd, ps, F, hm, hk, hb⟩ := D.ex
  refine (pe_callS F (hr.mono hnm) hg hm hk hb (fun σ => passAt tk σ) ha hdb he hpl).imp fun σ H Q ⟨env, Fs, hs, h⟩ => ?_
  refine ⟨env, Fs, hs, post_mono (post_bind h) (fun ds e1 h1 vs H1 G g1 => ?_) fun _ _ h => h⟩
  refine ⟨ds, G, g1.rep, post_mono h1 (fun d _ h2 v H2 F2 r s nd mu => h2 v H2 F2 ⟨r, g1.same.trans s, fun a ha => .inl ⟨g1.same.free (mu a ha).1, (mu a ha).2⟩, fun _ _ => nd⟩) fun c x h H' dx s ex => ?_⟩
  exact h H' dx (g1.same.trans s) ex
end
end PV

set_option Elab.async false
set_option linter.all false
set_option maxRecDepth 100000
namespace PV
open PySem PySem.Spec L2
open PyProof.Rows hiding St
/-! ### statements -/
inductive Out where
  | nx (env : Lo) | rt (d : PyData) | ct (env : Lo) | ex (env : Lo) (c : Nat) (x : PyData) | bad
def Out.seq (o : Out) (g : Lo → Out) : Out := match o with
  | .nx env => g env
  | o => o
/-- what follows a result -/
def Res.out {α : Type} (r : Res α) (env : Lo) (g : α → Out) : Out := match r with
  | .ok a => g a
  | .exc c x => .ex env c x
  | .bad => .bad
def own (O : List Nat) (Fs : Nat → List Addr) (a : Addr) : Prop := ∃ i ∈ O, a ∈ Fs i
structure Owns (O : List Nat) (Fs : Nat → List Addr) : Prop where
  nd : ∀ i ∈ O, (Fs i).Nodup
  dj : ∀ i ∈ O, ∀ j, j ≠ i → ∀ a ∈ Fs i, a ∉ Fs j
structure Fr (ow : Addr → Prop) (H : Hp) (ow' : Addr → Prop) (H' : Hp) : Prop where
  keep : ∀ a o, H a = some o → ¬ ow a → H' a = some o
  src : ∀ a, ow' a → ow a ∨ H a = none
  dom : ∀ a, H' a = none → H a = none
theorem Fr.trans {p q r : Addr → Prop} {H H1 H2 : Hp} (a : Fr p H q H1) (b : Fr q H1 r H2) : Fr p H r H2 :=
  ⟨fun x o e n => b.keep x o (a.keep x o e n) fun z => (a.src x z).elim n fun y => (by rw [e] at y; cases y), fun x z => (b.src x z).elim (a.src x) fun y => .inr (a.dom x y), fun x z => a.dom x (b.dom x z)⟩
theorem Fr.same {p : Addr → Prop} {H H' : Hp} (s : Same H H') {q : Addr → Prop} (h : ∀ a, q a → p a ∨ H a = none) : Fr p H q H' := ⟨fun a o e _ => s a o e, h, fun a z => s.free z⟩
def postS (K : PySem.W.Frag) (C : Cc) (O O' : List Nat) (H : Hp) (Fs : Nat → List Addr) (D : Ends) : Out → Prop
  | .nx env' => ∀ σ' H' Fs', Slots K env' σ' H' Fs' → Owns O' Fs' → Fr (own O Fs) H (own O' Fs') H' → D.nx σ' H'
  | .ct env' => ∀ σ' H' Fs', Slots K env' σ' H' Fs' → Fr (own O Fs) H (fun _ => False) H' → D.ct σ' H'
  | .rt d => ∀ v H' F, Rep K H' d v F → F.Nodup → Fr (own O Fs) H (fun a => a ∈ F) H' → D.rt v H'
  | .ex env' c x => ∀ σ' H' Fs' dx, Slots K env' σ' H' Fs' → Fr (own O Fs) H (fun _ => False) H' → ExAt K H' c x dx → C.W (.ref (C.ec c)) dx σ' H'
  | .bad => False
def ts (K : PySem.W.Frag) (C : Cc) (O O' : List Nat) (g : Lo → Out) : TS := fun D σ H => ∃ env Fs, Slots K env σ H Fs ∧ Owns O Fs ∧ postS K C O O' H Fs D (g env)
abbrev VS (X : Cx) (C : Cc) (O O' : List Nat) (st : Stmt) (g : Lo → Out) : Prop := PS X st (ts X.K C O O' g)
abbrev VB (X : Cx) (C : Cc) (O O' : List Nat) (sts : List Stmt) (g : Lo → Out) : Prop := PSs X sts (ts X.K C O O' g)
theorem PSimp {X : Cx} {st : Stmt} {t t' : TS} (p : PS X st t) (h : ∀ D σ H, t' D σ H → t D σ H) : PS X st t' := ⟨fun pins s σ H D I hw => p.run pins s σ H D I (h D σ H hw)⟩
theorem PSby {X : Cx} {st : Stmt} {t' : TS} (h : ∀ D σ H, t' D σ H → ∃ t, PS X st t ∧ t D σ H) : PS X st t' := ⟨fun pins s σ H D I hw => let ⟨t, p, q⟩ := h D σ H hw; p.run pins s σ H D I q⟩
theorem PSsimp {X : Cx} {st : List Stmt} {t t' : TS} (p : PSs X st t) (h : ∀ D σ H, t' D σ H → t D σ H) : PSs X st t' := ⟨fun pins s σ H D I hw => p.run pins s σ H D I (h D σ H hw)⟩
/-- what follows may be read from an earlier state -/
theorem postS_fr {K : PySem.W.Frag} {C : Cc} {O O1 O' : List Nat} {H H1 : Hp} {Fs Fs1 : Nat → List Addr} {D : Ends} {o : Out} (fr : Fr (own O Fs) H (own O1 Fs1) H1) (h : postS K C O O' H Fs D o) : postS K C O1 O' H1 Fs1 D o := by
  cases o with
  | nx env => exact fun σ' H' Fs' a b c => h σ' H' Fs' a b (fr.trans c)
  | ct env => exact fun σ' H' Fs' a c => h σ' H' Fs' a (fr.trans c)
  | rt d => exact fun v H' F a b c => h v H' F a b (fr.trans c)
  | ex env c x => exact fun σ' H' Fs' dx a b c => h σ' H' Fs' dx a (fr.trans b) c
  | bad => exact h
theorem fr_same {O : List Nat} {Fs : Nat → List Addr} {H H' : Hp} (s : Same H H') : Fr (own O Fs) H (own O Fs) H' := .same s fun _ z => .inl z
theorem fr_none {p : Addr → Prop} {H H' : Hp} (s : Same H H') : Fr p H (fun _ => False) H' := .same s fun _ z => z.elim
theorem out_post {α : Type} {K : PySem.W.Frag} {C : Cc} {O O' : List Nat} {σ : St} {H : Hp} {Fs : Nat → List Addr} {D : Ends} {env : Lo} {r : Res α} {g : α → Out} (hs : Slots K env σ H Fs) (h : postS K C O O' H Fs D (r.out env g)) :
    r.post (fun a => postS K C O O' H Fs D (g a)) fun c x => ∀ H' dx, Same H H' → ExAt K H' c x dx → C.W (.ref (C.ec c)) dx σ H' := by
  cases r with
  | ok a => exact h
  | exc c x => exact fun H' dx s e => h σ H' Fs dx (hs.mono s) (fr_none s) e
  | bad => exact h.elim
section
variable {X : Cx} {C : Cc} {st : Stmt} {rest sts : List Stmt} {e : Expr} {pos : Pos} {A B O O1 O2 O' : List Nat} {f : Lo → Res PyData} {g g1 g2 : Lo → Out}
/-! blocks -/
theorem vb_nil (hO : ∀ i ∈ O', i ∈ O := by decide) : VB X C O O' [] .nx := PSsimp pss_nil fun D σ H ⟨env, Fs, hs, ho, h⟩ =>
  h σ H Fs hs ⟨fun i hi => ho.nd i (hO i hi), fun i hi => ho.dj i (hO i hi)⟩ (.same (Same.refl H) fun a ⟨i, hi, z⟩ => .inl ⟨i, hO i hi, z⟩)
def sSeq (g1 g2 : Lo → Out) : Lo → Out := fun env => (g1 env).seq g2
theorem seq_reads {t u : TS} {σ : St} {H : Hp} {D : Ends} {env : Lo} {Fs : Nat → List Addr} (h : postS X.K C O O' H Fs D (sSeq g1 g2 env)) : postS X.K C O O1 H Fs { D with nx := ts X.K C O1 O' g2 D } (g1 env) := by
  unfold sSeq at h
  cases e : g1 env with
  | nx env' =>
    rw [e] at h
    exact fun σ' H' Fs' a b c => ⟨env', Fs', a, b, postS_fr c h⟩
  | ct env' => rw [e] at h; exact h
  | rt d => rw [e] at h; exact h
  | ex env c x => rw [e] at h; exact h
  | bad => rw [e] at h; exact h
theorem vb_cons (h1 : VS X C O O1 st g1) (h2 : VB X C O1 O' rest g2) : VB X C O O' (st :: rest) (sSeq g1 g2) := PSsimp (pss_cons h1 h2) fun D σ H ⟨env, Fs, hs, ho, h⟩ =>
  ⟨env, Fs, hs, ho, seq_reads (t := ts X.K C O O1 g1) (u := ts X.K C O1 O' g2) (σ := σ) h⟩
theorem vb_one (h1 : VS X C O O' st g) : VB X C O O' [st] g := pss_one h1
theorem owns_nodup {Fs : Nat → List Addr} (ho : Owns O Fs) : ∀ (A : List Nat), A.Nodup → (∀ i ∈ A, i ∈ O) → (A.flatMap Fs).Nodup
  | [], _, _ => List.nodup_nil
  | i :: A, hA, hO => by
    rw [List.flatMap_cons]
    obtain ⟨h1, h2⟩ := List.nodup_cons.mp hA
    refine List.nodup_append.mpr ⟨ho.nd i (hO i List.mem_cons_self), owns_nodup ho A h2 fun j hj => hO j (List.mem_cons_of_mem _ hj), fun a ha b hb e => ?_⟩
    subst e
    obtain ⟨j, hj, z⟩ := List.mem_flatMap.mp hb
    exact ho.dj i (hO i List.mem_cons_self) j (fun e => h1 (e ▸ hj)) a ha z
/-! return -/
def sRet (f : Lo → Res PyData) : Lo → Out := fun env => (f env).out env fun d => .rt d
theorem vs_ret (h : VE X C A e f) (hA : A.Nodup := by decide) (hO : ∀ i ∈ A, i ∈ O := by decide) : VS X C O O' (.Return (some e) pos) (sRet f) := PSimp (ps_ret h) fun D σ H ⟨env, Fs, hs, ho, h⟩ => by
  refine ⟨env, Fs, hs, post_mono (out_post hs h) (fun d _ h1 v H1 F g1 => ?_) fun _ _ h => h⟩
  have mem : ∀ a, a ∈ A.flatMap Fs → own O Fs a := fun a ha => by
    obtain ⟨i, hi, z⟩ := List.mem_flatMap.mp ha
    exact ⟨i, hO i hi, z⟩
  have nd : (A.flatMap Fs).Nodup := by
    exact owns_nodup ho A hA hO
  have mu : ∀ a ∈ A.flatMap Fs, Mu H a := fun a ha => by
    obtain ⟨i, hi, z⟩ := List.mem_flatMap.mp ha
    by_cases hd : ∃ d, env[i]? = some (some d)
    · obtain ⟨d, hd⟩ := hd
      obtain ⟨v, _, r⟩ := hs.rep i d hd
      exact Rep.mu d v _ r a z
    · rw [hs.non i fun d e => hd ⟨d, e⟩] at z
      exact nomatch z
  exact h1 v H1 F g1.rep (g1.nd nd mu) (.same g1.same fun a ha => (g1.src a ha).elim (fun z => .inr z.1) fun z => .inl (mem a z))
/-! pass, continue, an expression -/
theorem vs_pass : VS X C O O (.Pass pos) .nx := PSimp ps_pass fun D σ H ⟨env, Fs, hs, ho, h⟩ => h σ H Fs hs ho (fr_same (Same.refl H))
theorem vs_continue : VS X C O O' (.Continue pos) .ct := PSimp ps_continue fun D σ H ⟨env, Fs, hs, ho, h⟩ => h σ H Fs hs (fr_none (Same.refl H))
theorem vs_doc {x j pos'} : VS X C O O (.Expr (.Constant (.str x) j pos) pos') .nx := PSimp ps_doc fun D σ H ⟨env, Fs, hs, ho, h⟩ => h σ H Fs hs ho (fr_same (Same.refl H))
def sExpr (f : Lo → Res PyData) : Lo → Out := fun env => (f env).out env fun _ => .nx env
theorem vs_expr (h : VE X C A e f) (hs : swapsWith e none pos.line X.env = pure false := by rfl) : VS X C O O (.Expr e pos) (sExpr f) := PSimp (ps_expr h hs) fun D σ H ⟨env, Fs, hs, ho, h⟩ => by
  refine ⟨env, Fs, hs, post_mono (out_post hs h) (fun d _ h1 v H1 F g1 => ?_) fun _ _ h => h⟩
  exact h1 σ H1 Fs (hs.mono g1.same) ho (fr_same g1.same)
/-! if -/
def sIf (t : Lo → Res Bool) (g1 g2 : Lo → Out) : Lo → Out := fun env => (t env).out env fun b => if b then g1 env else g2 env
theorem vs_if {c : Expr} {a b : List Stmt} {t : Lo → Res Bool} (hc : VT X C c t) (ha : VB X C O O' a g1) (hb : VB X C O O' b g2) : VS X C O O' (.If c a b pos) (sIf t g1 g2) := PSimp (ps_if hc ha hb) fun D σ H ⟨env, Fs, hs, ho, h⟩ => by
  refine ⟨env, Fs, hs, post_mono (out_post hs h) (fun b _ h1 H1 s1 => ?_) fun _ _ h => h⟩
  cases b with
  | true =>
    simp only [if_true] at h1 ⊢
    exact ⟨env, Fs, hs.mono s1, ho, postS_fr (fr_same s1) h1⟩
  | false =>
    simp only [Bool.false_eq_true, if_false] at h1 ⊢
    exact ⟨env, Fs, hs.mono s1, ho, postS_fr (fr_same s1) h1⟩
/-! assignment of a name -/
def updF (Fs : Nat → List Addr) (i : Nat) (F : List Addr) : Nat → List Addr := fun j => if j = i then F else Fs j
theorem updF_same {Fs : Nat → List Addr} {i : Nat} {F : List Addr} : updF Fs i F i = F := if_pos rfl
theorem updF_ne {Fs : Nat → List Addr} {i j : Nat} {F : List Addr} (h : j ≠ i) : updF Fs i F j = Fs j := if_neg h
theorem Got.mu0 {K : PySem.W.Frag} {H H' : Hp} {Fs : Nat → List Addr} {d : PyData} {v : V} {F : List Addr} (g : Got K [] H Fs d v H' F) : ∀ a ∈ F, H a = none ∧ Mu H' a := fun a ha => (g.src a ha).elim id fun z => (by simp at z)
theorem Slots.set {K : PySem.W.Frag} {env : Lo} {σ : St} {H : Hp} {Fs : Nat → List Addr} {i : Nat} {d : PyData} {v : V} {F : List Addr} (h : Slots K env σ H Fs) (hi : i < env.length) (r : Rep K H d v F) : Slots K (env.set i (some d)) (σ.set i (some v)) H (updF Fs i F) := by
  have hl := h.len
  refine ⟨by simp [hl], fun j d' e => ?_, fun j n => ?_⟩
  · by_cases hj : j = i
    · subst hj
      rw [List.getElem?_set_self hi] at e
      cases e
      exact ⟨v, List.getElem?_set_self (by omega), by rw [updF_same]; exact r⟩
    · rw [List.getElem?_set_ne (Ne.symm hj)] at e
      obtain ⟨w, q, r'⟩ := h.rep j d' e
      exact ⟨w, by rw [List.getElem?_set_ne (Ne.symm hj)]; exact q, by rw [updF_ne hj]; exact r'⟩
  · by_cases hj : j = i
    · subst hj
      exact absurd (List.getElem?_set_self hi) (n d)
    · rw [updF_ne hj]
      exact h.non j fun d' e => n d' (by rw [List.getElem?_set_ne (Ne.symm hj)]; exact e)
/-- no address of a slot is new -/
theorem Slots.old {K : PySem.W.Frag} {env : Lo} {σ : St} {H : Hp} {Fs : Nat → List Addr} (h : Slots K env σ H Fs) (i : Nat) : ∀ a ∈ Fs i, Mu H a := fun a ha => by
  by_cases hd : ∃ d, env[i]? = some (some d)
  · obtain ⟨d, hd⟩ := hd
    obtain ⟨v, _, r⟩ := h.rep i d hd
    exact Rep.mu d v _ r a ha
  · rw [h.non i fun d e => hd ⟨d, e⟩] at ha
    exact nomatch ha
/-- what is owned behind a store into the slot i of a value that was got: O' without i is out of O and apart from A; i itself is owned only if the value is new -/
def okSet (O O' A : List Nat) (i : Nat) : Bool := O'.all fun k => if k = i then A.isEmpty else O.contains k && !A.contains k
theorem owns_set {K : PySem.W.Frag} {env : Lo} {σ : St} {H H1 : Hp} {Fs : Nat → List Addr} {i : Nat} {d : PyData} {v : V} {F : List Addr} (hs : Slots K env σ H Fs) (ho : Owns O Fs) (g : Got K A H Fs d v H1 F) (ok : okSet O O' A i = true) :
    Owns O' (updF Fs i F) ∧ Fr (own O Fs) H (own O' (updF Fs i F)) H1 := by
  have hk : ∀ k ∈ O', k ≠ i → k ∈ O ∧ k ∉ A := fun k hk hne => by
    have := List.all_eq_true.mp ok k hk
    rw [if_neg hne, Bool.and_eq_true] at this
    refine ⟨by simpa using this.1, fun z => ?_⟩
    have h2 := this.2
    simp [z] at h2
  have hi : i ∈ O' → A = [] := fun hi => by
    have := List.all_eq_true.mp ok i hi
    rw [if_pos rfl] at this
    simpa using this
  -- an owned slot stands apart from the value
  have apart : ∀ k ∈ O', k ≠ i → ∀ a ∈ Fs k, a ∉ F := fun k hk' hne a ha hF => by
    rcases g.src a hF with ⟨n, _⟩ | z
    · exact (hs.old k a ha).notnone n
    · obtain ⟨j, hj, z⟩ := List.mem_flatMap.mp z
      have hkj := hk k hk' hne
      exact ho.dj k hkj.1 j (fun e => hkj.2 (e ▸ hj)) a ha z
  refine ⟨⟨fun k hk' => ?_, fun k hk' j hj a ha => ?_⟩, .same g.same fun a ⟨k, hk', ha⟩ => ?_⟩
  · by_cases e : k = i
    · subst e
      rw [updF_same]
      obtain rfl := hi hk'
      exact g.nd (by simp) fun a ha => by simp at ha
    · rw [updF_ne e]
      exact ho.nd k (hk k hk' e).1
  · by_cases e : k = i
    · subst e
      rw [updF_same] at ha
      rw [updF_ne hj]
      obtain rfl := hi hk'
      intro hz
      exact (hs.old j a hz).notnone (g.mu0 a ha).1
    · rw [updF_ne e] at ha
      by_cases e2 : j = i
      · subst e2
        rw [updF_same]
        exact apart k hk' e a ha
      · rw [updF_ne e2]
        exact ho.dj k (hk k hk' e).1 j hj a ha
  · by_cases e : k = i
    · subst e
      rw [updF_same] at ha
      obtain rfl := hi hk'
      exact .inr (g.mu0 a ha).1
    · rw [updF_ne e] at ha
      exact .inl ⟨k, (hk k hk' e).1, ha⟩
def sSet (i : Nat) (f : Lo → Res PyData) : Lo → Out := fun env => (f env).out env fun d => if i < env.length then .nx (env.set i (some d)) else .bad
theorem vs_set (i : Nat) {x : Str} {pos' : Pos} (hN : X.N.Nodup) (he : VE X C A e f) (hi : X.N[i]? = some x := by rfl) (hx : Loc X.env.scope x := by first | exact Or.inl rfl | exact Or.inr rfl) (ok : okSet O O' A i = true := by decide)
    (hs : swapsWith e (some (.Name x pos')) pos.line X.env = pure false := by rfl) (hf : X.fn x = true ∨ X.env.scope.names.lookup x = some .local := by first | exact .inl rfl | exact .inr rfl | assumption) :
    VS X C O O' (.Assign [.Name x pos'] e pos) (sSet i f) := PSimp (ps_set hN hi hx he hs hf) fun D σ H ⟨env, Fs, hs, ho, h⟩ => by
  refine ⟨env, Fs, hs, post_mono (out_post hs h) (fun d _ h1 v H1 F g1 => ?_) fun _ _ h => h⟩
  by_cases hl : i < env.length
  · rw [if_pos hl] at h1
    obtain ⟨o1, o2⟩ := owns_set hs ho g1 ok
    exact h1 _ H1 _ ((hs.mono g1.same).set hl g1.rep) o1 o2
  · rw [if_neg hl] at h1
    exact h1.elim
/-- x = y, y owned: y is given up -/
def sMove (i j : Nat) : Lo → Out := fun env => match env[j]? with
  | some (some d) => if i < env.length then .nx ((env.set j none).set i (some d)) else .bad
  | _ => .bad
theorem Slots.drop {K : PySem.W.Frag} {env : Lo} {σ : St} {H : Hp} {Fs : Nat → List Addr} (h : Slots K env σ H Fs) (j : Nat) : Slots K (env.set j none) σ H (updF Fs j []) := by
  refine ⟨by simp [h.len], fun k d e => ?_, fun k n => ?_⟩
  · by_cases hk : k = j
    · subst hk
      by_cases hl : k < env.length
      · rw [List.getElem?_set_self hl] at e
        cases e
      · rw [List.getElem?_eq_none (by simp; omega)] at e
        cases e
    · rw [List.getElem?_set_ne (Ne.symm hk)] at e
      rw [updF_ne hk]
      exact h.rep k d e
  · by_cases hk : k = j
    · subst hk
      exact updF_same
    · rw [updF_ne hk]
      exact h.non k fun d e => n d (by rw [List.getElem?_set_ne (Ne.symm hk)]; exact e)
def okMove (O O' : List Nat) (i j : Nat) : Bool := i != j && O.contains j && O'.all fun k => if k = i then true else O.contains k && k != j
theorem vs_move (i j : Nat) {x y : Str} {py pos' : Pos} (hN : X.N.Nodup) (hi : X.N[i]? = some x := by rfl) (hj : X.N[j]? = some y := by rfl) (hx : Loc X.env.scope x := by first | exact Or.inl rfl | exact Or.inr rfl) (ok : okMove O O' i j = true := by decide)
    (hv : Vis X.env.scope y := by first | exact Or.inl rfl | exact Or.inr (Or.inl rfl) | exact Or.inr (Or.inr rfl)) (hd : (y == ("__debug__" : Str)) = false := by decide) (hcd : (y == ("__classdict__" : Str)) = false := by decide)
    (hs : swapsWith (.Name y py) (some (.Name x pos')) pos.line X.env = pure false := by rfl) (hf : X.fn x = true ∨ X.env.scope.names.lookup x = some .local := by first | exact .inl rfl | exact .inr rfl | assumption) :
    VS X C O O' (.Assign [.Name x pos'] (.Name y py) pos) (sMove i j) := PSimp (ps_set hN hi hx (pv j hj hv hd hcd) hs hf) fun D σ H ⟨env, Fs, hs, ho, h⟩ => by
  unfold sMove at h
  split at h
  · rename_i d e
    by_cases hl : i < env.length
    · rw [if_pos hl] at h
      obtain ⟨v, q, r⟩ := hs.rep j d e
      have ok' : (i ≠ j ∧ j ∈ O) ∧ ∀ k ∈ O', k ≠ i → k ∈ O ∧ k ≠ j := by
        unfold okMove at ok
        rw [Bool.and_eq_true, Bool.and_eq_true] at ok
        refine ⟨⟨by simpa using ok.1.1, by simpa using ok.1.2⟩, fun k hk hne => ?_⟩
        have := List.all_eq_true.mp ok.2 k hk
        rw [if_neg hne, Bool.and_eq_true] at this
        exact ⟨by simpa using this.1, by simpa using this.2⟩
      obtain ⟨⟨ij, jO⟩, ok⟩ := ok'
      refine ⟨v, q, h _ H _ ((hs.drop j).set (by simpa using hl) r) ⟨fun k hk => ?_, fun k hk m hm a ha => ?_⟩ (.same (Same.refl H) fun a ⟨k, hk, ha⟩ => .inl ?_)⟩
      · by_cases e : k = i
        · subst e; rw [updF_same]; exact ho.nd j jO
        · rw [updF_ne e, updF_ne (ok k hk e).2]; exact ho.nd k (ok k hk e).1
      · by_cases e : k = i
        · subst e
          rw [updF_same] at ha
          rw [updF_ne hm]
          by_cases e2 : m = j
          · subst e2; rw [updF_same]; exact fun z => nomatch z
          · rw [updF_ne e2]; exact ho.dj j jO m e2 a ha
        · rw [updF_ne e, updF_ne (ok k hk e).2] at ha
          by_cases e2 : m = i
          · subst e2; rw [updF_same]; exact ho.dj k (ok k hk e).1 j (Ne.symm (ok k hk e).2) a ha
          · rw [updF_ne e2]
            by_cases e3 : m = j
            · subst e3; rw [updF_same]; exact fun z => nomatch z
            · rw [updF_ne e3]; exact ho.dj k (ok k hk e).1 m hm a ha
      · by_cases e : k = i
        · subst e; rw [updF_same] at ha; exact ⟨j, jO, ha⟩
        · rw [updF_ne e, updF_ne (ok k hk e).2] at ha; exact ⟨k, (ok k hk e).1, ha⟩
    · rw [if_neg hl] at h
      exact h.elim
  · exact h.elim
end
end PV

set_option Elab.async false
set_option linter.all false
set_option maxRecDepth 100000
/-! enumerate over a tuple -/
namespace PySem
open Sem (wp)
open AutoSeq1 (wpAny_loadPart')
section
variable {prog : Program} {w : World} {A : Around} {E : Value → Shared → Prop} {s : Shared}
theorem et_nextOf_item {it t : Addr} {i : Nat} {items} {x : Value} {Q : Value → Shared → Prop} (hit : s.heap.IsTupleIter it t i) (ht : s.heap.IsTuple t items) (hx : items[i]? = some x)
    (hQ : ∀ h', h'.IsTupleIter it t (i + 1) → Heap.SameBut it s.heap h' → Q x { s with heap := h' }) : wpAny (model prog w) A (Builtin.SmallTypes.nextOf (.ref it)) Q E s := by
  obtain ⟨o, ho, hc, hd⟩ := id hit
  obtain ⟨ol, hol, _, nl, hdl⟩ := ht
  unfold Builtin.SmallTypes.nextOf
  refine wpAny_bind (wpAny_callSpecial?_slot (name := Str.ofString "__next__") hit.typeIs F.slot_tuple_iterator_next
    (wpAny_call_entry F.slot_tuple_iterator_next hit.typeIs F.entry_tuple_iterator_next ?_ (F.args_tuple_iterator_next_1 _)))
  show wpAny _ _ (field (.ref it) 0 >>= _) _ _ s
  refine wpAny_bind (wpAny_field ho hd (x := .ref t) rfl ?_)
  show wpAny _ _ (if (Value.ref t == Value.none) = true then _ else _) _ _ s
  rw [if_neg (show ¬ ((Value.ref t == Value.none) = true) from Bool.false_ne_true)]
  show wpAny _ _ (field (.ref it) 1 >>= _) _ _ s
  refine wpAny_bind (wpAny_field ho hd (x := .int i 0) rfl ?_)
  show wpAny _ _ (seqItems? (.ref t) >>= _) _ _ s
  refine wpAny_bind (wpAny_seqItems hol hdl ?_)
  simp only [Int.toNat_natCast, hx]
  refine wpAny_bind (wpAny_setField ho hd (by simp) (wpAny_pure ⟨x, rfl, wpAny_pure (hQ _ ?_ (Heap.SameBut.update ..))⟩))
  exact ⟨_, Heap.get?_update_self _ ho (Obj.isFreed_of_fields (Obj.data_mapFields hd _)), (Obj.cls_mapFields ..).trans hc, by
    rw [Obj.data_mapFields hd]; simp [rawInt]⟩
theorem et_nextOf_end {it t : Addr} {i : Nat} {items} {Q : Value → Shared → Prop} (hh : A.handled = none) (hit : s.heap.IsTupleIter it t i) (ht : s.heap.IsTuple t items) (hx : items[i]? = none)
    (hE : ∀ h' e, Heap.ExtBut it s.heap h' → (∃ o, h'.get? e = some o ∧ o.cls = .type "StopIteration") → E (.ref e) { s with heap := h' }) :
    wpAny (model prog w) A (Builtin.SmallTypes.nextOf (.ref it)) Q E s := by
  obtain ⟨o, ho, hc, hd⟩ := id hit
  obtain ⟨ol, hol, _, nl, hdl⟩ := ht
  unfold Builtin.SmallTypes.nextOf
  refine wpAny_bind (wpAny_callSpecial?_slot (name := Str.ofString "__next__") hit.typeIs F.slot_tuple_iterator_next
    (wpAny_call_entry F.slot_tuple_iterator_next hit.typeIs F.entry_tuple_iterator_next ?_ (F.args_tuple_iterator_next_1 _)))
  show wpAny _ _ (field (.ref it) 0 >>= _) _ _ s
  refine wpAny_bind (wpAny_field ho hd (x := .ref t) rfl ?_)
  show wpAny _ _ (if (Value.ref t == Value.none) = true then _ else _) _ _ s
  rw [if_neg (show ¬ ((Value.ref t == Value.none) = true) from Bool.false_ne_true)]
  show wpAny _ _ (field (.ref it) 1 >>= _) _ _ s
  refine wpAny_bind (wpAny_field ho hd (x := .int i 0) rfl ?_)
  show wpAny _ _ (seqItems? (.ref t) >>= _) _ _ s
  refine wpAny_bind (wpAny_seqItems hol hdl ?_)
  simp only [Int.toNat_natCast, hx]
  refine wpAny_bind (wpAny_rule (wpAny_bind (wpAny_setField ho hd (by simp) ?_)))
  show wpAny _ _ (newExc (.type "StopIteration") [] >>= _) _ _ _
  refine wpAny_bind ?_
  simp only [newExc, newTuple]
  refine wpAny_bind (wpAny_newObj_type ?_ (by size_fits))
  refine wpAny_bind (m := firstArgMember _ _) (wpAny_of_eq (a := Value.none) (by first | rfl | (simp only [firstArgMember]; rfl)) ?_)
  refine wpAny_newObj_type ?_ (by size_fits)
  simp only [raiseNew]
  refine wpAny_bind (wpAny_handled ?_)
  first | rw [show A.in1.handled = none from hh] | rw [hh]
  refine wpAny_bind (wpAny_pure (wpAny_throw ?_))
  exact hE _ _ (((Heap.SameBut.update ..).extBut.push _).push _) ⟨_, Heap.get?_push_size _ rfl, rfl⟩
end
theorem et_new (l : Addr) (items : Array Value) (n : Nat) (dct : Option Addr) (sl : Array (Option Value)) :
    Meets (Builtin.«enumerate.__new__» ⟨[.type "enumerate", .ref l], []⟩) (fun _ R s => s.heap.get? l = some { cls := .type "tuple", dict := dct, data := .seq items n, slots := sl } ∧
      R (.ok (.ret (.ref (s.heap.push { cls := .type "tuple_iterator", data := .fields #[.ref l, .int 0 0] }).objs.size)))
        { s with heap := (s.heap.push { cls := .type "tuple_iterator", data := .fields #[.ref l, .int 0 0] }).push { cls := .type "enumerate", data := .fields #[.none, .bool false, .ref s.heap.objs.size, rawInt 0, .none, .none] } }) :=
  .of_wp fun prog w A R s h => by
    obtain ⟨hp, g, d, tk, os⟩ := s; obtain ⟨hl, h⟩ := h
    have hsub := sub_enumerate
    have hL : Heap.IsTuple (Shared.heap ⟨hp, g, d, tk, os⟩) l items := ⟨_, hl, rfl, n, rfl⟩
    wp_walk using wpAny_loadPart' hl
    refine wpAny_stack_any fun st => wpAny_pure ?_
    split
    · rename_i c _ _ _ _ _
      cases (c == Value.type "enumerate")
      · wp_walk using wpAny_loadPart' hl, wpAny_pyIter_tuple hL
        exact ⟨_, rfl, h⟩
      · wp_walk using wpAny_loadPart' hl, wpAny_pyIter_tuple hL
        exact ⟨_, rfl, h⟩
    · wp_walk using wpAny_loadPart' hl, wpAny_pyIter_tuple hL
      exact ⟨_, rfl, h⟩
section
variable {prog : Program} {w : World} {A : Around} {E : Value → Shared → Prop} {s : Shared}
theorem et_call {l : Addr} {items : Array Value} {Q : Value → Shared → Prop} (hL : s.heap.IsTuple l items)
    (h : ∀ h', IsEnum h' (s.heap.objs.size + 1) s.heap.objs.size 0 .none → h'.IsTupleIter s.heap.objs.size l 0 → h'.objs.size = s.heap.objs.size + 2 →
      (∀ b o, s.heap.get? b = some o → h'.get? b = some o) → Q (.ref (s.heap.objs.size + 1)) { s with heap := h' }) :
    wpAny (model prog w) A (call (.type "enumerate") [.ref l]) Q E s := by
  obtain ⟨⟨c, dct, dt, sl⟩, hl, hc, n, hd⟩ := hL
  replace hc : c = .type "tuple" := hc
  replace hd : dt = .seq items n := hd
  subst hc hd
  refine callType_new F.called_enumerate (by decide) (F.typeCall_enumerate_1 _) (F.newCall_enumerate_1 _) (fun obj => F.args_object_init_2 obj _) F.entry_enumerate_new
    (et_new l items n dct sl) ⟨hl, ?_⟩
  have hz : (s.heap.push { cls := .type "tuple_iterator", data := .fields #[.ref l, .int 0 0] }).objs.size = s.heap.objs.size + 1 := Heap.size_push ..
  show _ ∧ _
  rw [hz]
  have he : IsEnum ((s.heap.push { cls := .type "tuple_iterator", data := .fields #[.ref l, .int 0 0] }).push
      { cls := .type "enumerate", data := .fields #[.none, .bool false, .ref s.heap.objs.size, rawInt 0, .none, .none] }) (s.heap.objs.size + 1) s.heap.objs.size 0 .none := by
    have := Heap.get?_push_size (s.heap.push { cls := .type "tuple_iterator", data := .fields #[.ref l, .int 0 0] })
      (o := { cls := .type "enumerate", data := .fields #[.none, .bool false, .ref s.heap.objs.size, rawInt 0, .none, .none] }) rfl
    rw [hz] at this; exact this
  refine ⟨⟨_, he, rfl⟩, h _ he ⟨_, Heap.get?_push_of_some _ (Heap.get?_push_size _ rfl), rfl, rfl⟩ (by rw [Heap.size_push, hz]) fun b o x => Heap.get?_push_of_some _ (Heap.get?_push_of_some _ x)⟩
end
theorem et_draws {prog : Program} {w : World} {A : Around} (hh : A.handled = none) (it t : Addr) (items : Array Value) (hne : it ≠ t) :
    Draws prog w A it [it, t] items.size (fun i v => items[i]? = some v) (fun i h => h.IsTupleIter it t i ∧ h.IsTuple t items) where
  live := fun i h ⟨⟨o, ho, _⟩, _⟩ => ⟨o, ho⟩
  frame := fun i h h' ⟨⟨o, ho, r⟩, ⟨o2, ho2, r2⟩⟩ k => ⟨⟨o, k it (by simp) o ho, r⟩, ⟨o2, k t (by simp) o2 ho2, r2⟩⟩
  item := fun i s Q E hi st hQ => et_nextOf_item st.1 st.2 (x := items[i]) (by simp [hi]) fun h' hit' sb =>
    hQ _ h' s.toks (by simp [hi]) ⟨hit', st.2.extBut sb.extBut (Ne.symm hne)⟩ sb
  done := fun s Q E st hE => et_nextOf_end hh st.1 st.2 (by simp) hE
end PySem
namespace L2
open PySem PySem.Spec PyProof.Rows
def IteT (K : PySem.W.Frag) (a : Addr) : It :=
  ⟨fun i H => ∃ (xs : List V) (x : V), SqT K H a xs ∧ xs[i]? = some x, fun i H v H' => ∃ T x, v = .ref T ∧ H T = none ∧ H' = upd H T (.tup [.int (i : Nat), x]) ∧ ∀ xs, SqT K H a xs → xs[i]? = some x, fun i H => ∃ xs : List V, SqT K H a xs ∧ xs.length ≤ i⟩
theorem turn_enumT {P : Program} {w : World} {K : PySem.W.Frag} {elts : List Expr} {kk : Nat} {tpos : Pos} (a e it : Addr) :
    Turn P w K (.Tuple elts kk tpos) (IteT K a) [e, it] e (fun i h => (∃ old, IsEnum h e it ((i : Nat) : Int) old) ∧ h.IsTupleIter it a i ∧ e ≠ it) where
  mem := by simp
  obj := fun i h st b hb => by
    obtain ⟨⟨old, he⟩, ⟨o, ho, hc, hd⟩, _⟩ := st
    have e' : b = e ∨ b = it := by simpa using hb
    rcases e' with z | z
    · rw [z]; exact ⟨_, he, fun v q => nomatch q⟩
    · rw [z]; exact ⟨o, ho, fun v q => by rw [hd] at q; cases q⟩
  keep := fun i h h' st k => let ⟨⟨old, he⟩, hi, hne⟩ := st; ⟨⟨old, k e (by simp) _ he⟩, hi.at fun o q => k it (by simp) o q, hne⟩
  item := by
    intro X hP hw hK hc i pins s σ H E I hf st hg
    subst hP hw hK
    obtain ⟨⟨old, he⟩, hit, hne⟩ := st
    obtain ⟨xs, x, hq, hx⟩ := hg
    obtain ⟨its, rv, p, hz⟩ := I.tuple hq
    obtain ⟨u, hu, ru⟩ := rv.get hx
    have hel : e < s.heap.objs.size := Heap.lt_size he
    have hil : it < s.heap.objs.size := by obtain ⟨_, q, _⟩ := hit; exact Heap.lt_size q
    have hlt : i < its.toArray.size := by
      have := (List.getElem?_eq_some_iff.mp hu).1
      simpa using this
    have hia : it ≠ a := fun z => by
      obtain ⟨o1, e1, c1, _⟩ := hit
      obtain ⟨o2, e2, c2, _⟩ := p
      rw [z, e2] at e1; cases e1
      rw [c2] at c1; exact absurd (Value.type.inj c1) (by decide)
    have hea : e ≠ a := fun z => by
      obtain ⟨o2, e2, c2, _⟩ := p
      have he' : s.heap.get? e = some _ := he
      rw [z, e2] at he'; cases he'
      exact absurd (Value.type.inj (show Value.type "enumerate" = Value.type "tuple" from c2)) (by decide)
    have hh : X.A.in1.handled = none := I.ok.hd hc
    refine wpAny_pyNext_enum_itemD (et_draws (prog := X.prog) (w := X.w) hh it a its.toArray hia) he ⟨hit, p⟩ hlt hne (by simp [hne, hea]) fun x' h' tk hP ho hst hT hsz hk => ?_
    have ex : x' = u := by
      have h1 : its.toArray[i]? = some x' := hP
      have h2 : its.toArray[i]? = some u := by simpa using hu
      rw [h1] at h2; exact Option.some.inj h2
    subst ex
    refine ⟨_, rfl, wpAny_letOwnedTupleGo_enum (s := { s with heap := h', toks := tk + 1 }) ho fun h'' he' sb => ?_⟩
    have hT2 : h''.get? s.heap.objs.size = some { cls := .type "tuple", data := .seq #[.int i tk, x'] } := (sb.2 _ (Nat.ne_of_gt hel)).trans hT
    have new : ObjOk X.prog X.w (upd H s.heap.objs.size (.tup [.int (i : Nat), x])) h'' s.heap.objs.size (.tup [.int (i : Nat), x]) :=
      ⟨by show 2 ≤ sizeLine; decide, [.int i tk, x'], .cons ⟨_, rfl⟩ (.cons ru .nil), ⟨_, hT2, rfl, _, rfl⟩⟩
    have I1 : Inv X pins σ (upd H s.heap.objs.size (.tup [.int (i : Nat), x])) { s with heap := h'', toks := tk + 1 } :=
      I.turnedNew (ch := [e, it]) (fun b ob hb q => (sb.2 b (fun z => hb (by simp [z]))).trans (hk b ob (fun z => hb (by simp [z])) (fun z => hb (by simp [z])) q)) hf (Nat.le_refl _) new
    refine ⟨.ref s.heap.objs.size, _, I1, rfl, ⟨_, x, rfl, I.hok.fresh (Nat.le_refl _), rfl, fun ys hy => by rw [I.tuple_inj hy hq]; exact hx⟩, ⟨⟨x', ?_⟩, hst.1.at fun o q => (sb.2 it (Ne.symm hne)).trans q, hne⟩, fun b hb => ?_⟩
    · have e1 : ((i + 1 : Nat) : Int) = (i : Int) + 1 := by omega
      rw [e1]; exact he'
    · have hb' : b < s.heap.objs.size := by
        have e' : b = e ∨ b = it := by simpa using hb
        rcases e' with z | z
        · rw [z]; exact hel
        · rw [z]; exact hil
      rw [upd_ne (Nat.ne_of_lt hb')]
      exact (hf b hb).1
  done := by
    intro X hP hw hK hc i pins s σ H E I hf st hg
    subst hP hw hK
    obtain ⟨⟨old, he⟩, hit, hne⟩ := st
    obtain ⟨xs, hq, hx⟩ := hg
    obtain ⟨its, rv, p, hz⟩ := I.tuple hq
    obtain ⟨f0, f1, f2, f3, f4, f5⟩ := hf it (by simp)
    have hl := rv.length
    have hia : it ≠ a := fun z => by
      obtain ⟨o1, e1, c1, _⟩ := hit
      obtain ⟨o2, e2, c2, _⟩ := p
      rw [z, e2] at e1; cases e1
      rw [c2] at c1; exact absurd (Value.type.inj c1) (by decide)
    have hh : X.A.in1.handled = none := I.ok.hd hc
    have hn : its.toArray[i]? = none := by simp; omega
    -- the iterator's end
    have hT : s.TypeIs (.ref e) "enumerate" := ⟨_, he, rfl⟩
    unfold pyNext
    refine wpAny_bind (wpAny_attempt (wpAny_callSpecial?_slot (name := Str.ofString "__next__") hT F.slot_enumerate_next
      (wpAny_call_entry F.slot_enumerate_next hT F.entry_enumerate_next ?_ (F.args_enumerate_next_1 _))))
    show wpAny _ _ (field (.ref e) 2 >>= _) _ _ _
    refine wpAny_bind (wpAny_field he rfl (x := .ref it) rfl ?_)
    refine wpAny_bind (et_nextOf_end hh hit p hn fun h' x eb hx' => ?_)
    obtain ⟨o, ho, hc'⟩ := hx'
    refine wpAny_bind (wpAny_isInstance (T := "StopIteration") (b := true) ⟨o, ho, hc'⟩ isSubtype_stop ?_)
    exact wpAny_pure ⟨rfl, I.turned (t' := s.toks) (fun b o hb q => eb b o hb q) f0 f1 f3 f4 f5⟩
  self := fun A i s Q E st h => let ⟨⟨_, he⟩, _⟩ := st; wpAny_pyIter_enum he h
def iEnumT (K : PySem.W.Frag) (ta : TA) : TI := fun σ H R => ta σ H fun vs H1 => ∃ a xs, vs = [.ref a] ∧ SqT K H1 a xs ∧ R (IteT K a) H1
theorem pi_enumT {X : Cx} {e : Expr} {ta : TA} {p pos tpos : Pos} {elts : List Expr} {kk : Nat} (hg : Gl X "enumerate") (hm : X.mg "enumerate" = none) (ha : PA X [e] ta) (hs : starEach [e] X.env = [(false, eval e X.env)] := by rfl) :
    PI X (.Tuple elts kk tpos) (.Call (.Name "enumerate" p) [e] [] pos) (iEnumT X.K ta) := by
  refine ⟨fun pins s σ H R I h => ?_⟩
  refine Call_ (ld_blt I hg hm boot_enumerate (PyProof.Rows.callWith_type1 (thn (ha.run pos pins s σ H _ I h) fun us s1 ⟨vs, H1, I1, r1, q1⟩ => ?_) hs rfl))
  obtain ⟨a, xs, ex, hq, q⟩ := q1
  subst ex
  cases r1 with
  | cons r rr =>
    cases rr
    cases r
    obtain ⟨its, rv, p', hz⟩ := I1.tuple hq
    refine et_call p' fun h' he hit hsz hk => wpAny_pyIter_enum he ?_
    have I2 : Inv X pins σ H1 { s1 with heap := h' } := I1.kept (t' := s1.toks) hk
    refine ⟨s1.heap.objs.size + 1, [s1.heap.objs.size + 1, s1.heap.objs.size], _, _, H1, rfl, I2, turn_enumT a (s1.heap.objs.size + 1) s1.heap.objs.size, ⟨⟨.none, he⟩, hit, Nat.succ_ne_self _⟩, fun b hb => ?_, q⟩
    have e' : b = s1.heap.objs.size + 1 ∨ b = s1.heap.objs.size := by simpa using hb
    have hle : s1.heap.objs.size ≤ b := by
      rcases e' with z | z
      · rw [z]; exact Nat.le_add_right _ _
      · rw [z]; exact Nat.le_refl _
    exact I1.fpOk hle (I1.hok.fresh hle)
end L2

set_option Elab.async false
set_option linter.all false
set_option maxRecDepth 100000
namespace PV
open PySem PySem.Spec L2
open PyProof.Rows hiding St
/-! ### what is walked, item by item -/
def Item (pr : Bool) (K : PySem.W.Frag) (H : Hp) (d : PyData) (x : V) (G : List Addr) : Prop := Rep K H d x G ∨
  (pr = true ∧ ∃ d1 d2 T x1 x2 G1 G2, d = .tuple [d1, d2] ∧ x = .ref T ∧ SqT K H T [x1, x2] ∧ Rep K H d1 x1 G1 ∧ Rep K H d2 x2 G2 ∧ G = G1 ++ G2)
/-- J walks ds from the state H1 on, as long as what is not in own1 stays -/
def ItOk (pr : Bool) (K : PySem.W.Frag) (J : It) (ds : List PyData) (G : List Addr) (H1 : Hp) : Prop := ∀ (own1 : Addr → Prop), (∀ a, own1 a → Mu H1 a) → (∀ a ∈ G, ¬ own1 a) → ∀ H, (∀ a o, H1 a = some o → ¬ own1 a → H a = some o) →
  ∀ i, (ds.length ≤ i → J.stop i H) ∧ ∀ d, ds[i]? = some d → J.go i H ∧ ∀ x H', J.yld i H x H' → Same H H' ∧ ∃ Gi, Item pr K H' d x Gi ∧ ∀ a ∈ Gi, a ∈ G
def tvi (pr : Bool) (K : PySem.W.Frag) (C : Cc) (A : List Nat) (src : Lo → Res (List PyData)) : TI := fun σ H R => ∃ env Fs, Slots K env σ H Fs ∧
  (src env).post (fun ds => ∀ J H1 G, Same H H1 → (∀ a ∈ G, (H a = none ∧ Mu H1 a) ∨ a ∈ A.flatMap Fs) → ItOk pr K J ds G H1 → R J H1) fun c x => ∀ H' dx, Same H H' → ExAt K H' c x dx → C.W (.ref (C.ec c)) dx σ H'
abbrev VI (pr : Bool) (X : Cx) (C : Cc) (A : List Nat) (tg iter : Expr) (src : Lo → Res (List PyData)) : Prop := PI X tg iter (tvi pr X.K C A src)
theorem PIby {X : Cx} {tg iter : Expr} {t' : TI} (h : ∀ σ H R, t' σ H R → ∃ t, PI X tg iter t ∧ t σ H R) : PI X tg iter t' := ⟨fun pins s σ H R I hw => let ⟨t, p, q⟩ := h σ H R hw; p.run pins s σ H R I q⟩
theorem PIimp {X : Cx} {tg iter : Expr} {t t' : TI} (p : PI X tg iter t) (h : ∀ σ H R, t' σ H R → t σ H R) : PI X tg iter t' := ⟨fun pins s σ H R I hw => p.run pins s σ H R I (h σ H R hw)⟩
/-! targets -/
def setAll (σ : St) (l : List (Nat × V)) : St := l.foldl (fun σ p => σ.set p.1 (some p.2)) σ
def TgOk (pr : Bool) (X : Cx) (g : TG) (tgt : PyData → Lo → Option Lo) (ks : List Nat) : Prop := ∀ (d : PyData) (x : V) (G : List Addr) (env : Lo) (σ : St) (H : Hp) (Fs : Nat → List Addr) (Q : St → Hp → Prop) (env1 : Lo),
  Slots X.K env σ H Fs → Item pr X.K H d x G → tgt d env = some env1 → (∀ σ2 Fs2, Slots X.K env1 σ2 H Fs2 → (∀ k, k ∉ ks → Fs2 k = Fs k) → (∀ k ∈ ks, ∀ a ∈ Fs2 k, a ∈ G) → (∃ l, σ2 = setAll σ l ∧ ∀ p ∈ l, p.1 ∈ ks) → Q σ2 H) → g x σ H Q
structure VG (pr : Bool) (X : Cx) (tg : Expr) (tgt : PyData → Lo → Option Lo) (ks : List Nat) : Prop where
  ex : ∃ g, PG X tg g ∧ TgOk pr X g tgt ks
def tName (i : Nat) : PyData → Lo → Option Lo := fun d env => if i < env.length then some (env.set i (some d)) else none
def tPair (i j : Nat) : PyData → Lo → Option Lo := fun d env => match d with
  | .tuple [d1, d2] => if i < env.length ∧ j < env.length then some ((env.set i (some d1)).set j (some d2)) else none
  | _ => none
section
variable {X : Cx} {C : Cc} {e : Expr} {pos : Pos} {A O Ob : List Nat} {f : Lo → Res PyData} {fs : Lo → Res (List PyData)} {src : Lo → Res (List PyData)} {tgt : PyData → Lo → Option Lo} {ks : List Nat} {pr : Bool} {tg iter : Expr}
theorem vg_name (i : Nat) {x : Str} (hN : X.N.Nodup) (hi : X.N[i]? = some x := by rfl) (hx : Loc X.env.scope x := by first | exact Or.inl rfl | exact Or.inr rfl) (hf : X.fn x = true ∨ X.env.scope.names.lookup x = some .local := by first | exact .inl rfl | exact .inr rfl | assumption) :
    VG false X (.Name x pos) (tName i) [i] := ⟨gName i, pg_name hN hi hx hf, fun d x G env σ H Fs Q env1 hs it e k => by
  unfold tName at e
  split at e
  · rename_i hl
    cases e
    rcases it with r | ⟨z, _⟩
    · refine k _ _ (hs.set hl r) (fun j hj => updF_ne fun e => hj (by simp [e])) (fun j hj a ha => ?_) ?_
      · have : j = i := by simpa using hj
        subst this
        rw [updF_same] at ha
        exact ha
      · exact ⟨[(i, x)], rfl, fun p hp => by simp at hp; simp [hp]⟩
    · exact nomatch z
  · cases e⟩
theorem mem2 {i j : Nat} {x1 x2 : V} : ∀ p ∈ [(i, x1), (j, x2)], p.1 ∈ [i, j] := fun p hp => by
  rcases List.mem_cons.mp hp with z | z
  · simp [z]
  · simp at z; simp [z]
theorem vg_pair (i j : Nat) {x y : Str} {px py pos : Pos} {kk : Nat} (hc : X.calm = true) (hN : X.N.Nodup) (hij : i ≠ j := by decide) (hi : X.N[i]? = some x := by rfl) (hj : X.N[j]? = some y := by rfl) (hx : Loc X.env.scope x := by first | exact Or.inl rfl | exact Or.inr rfl) (hy : Loc X.env.scope y := by first | exact Or.inl rfl | exact Or.inr rfl)
    (hf : X.fn x = true ∨ X.env.scope.names.lookup x = some .local := by first | exact .inl rfl | exact .inr rfl | assumption) (hf2 : X.fn y = true ∨ X.env.scope.names.lookup y = some .local := by first | exact .inl rfl | exact .inr rfl | assumption) :
    VG pr X (.Tuple [.Name x px, .Name y py] kk pos) (tPair i j) [i, j] := ⟨_, pg_tup hc (pgs_cons (pg_name hN hi hx hf) (pgs_cons (pg_name hN hj hy hf2) pgs_nil)), fun d x G env σ H Fs Q env1 hs it e k => by
  unfold tPair at e
  split at e
  · rename_i d1 d2
    split at e
    · rename_i hl
      cases e
      have key : ∀ T x1 x2 G1 G2, x = .ref T → SqT X.K H T [x1, x2] → Rep X.K H d1 x1 G1 → Rep X.K H d2 x2 G2 → G = G1 ++ G2 → gTup X.K 2 (gCons (gName i) (gCons (gName j) gNil)) x σ H Q := fun T x1 x2 G1 G2 e1 s r1 r2 e2 => by
        subst e1 e2
        refine ⟨T, [x1, x2], rfl, s, rfl, x1, [x2], rfl, x2, [], rfl, rfl, ?_⟩
        refine k _ _ ((hs.set hl.1 r1).set (by simpa using hl.2) r2) (fun m hm => ?_) (fun m hm a ha => ?_) ⟨[(i, x1), (j, x2)], rfl, mem2⟩
        · rw [updF_ne (fun e => hm (by simp [e])), updF_ne fun e => hm (by simp [e])]
        · by_cases e2 : m = j
          · subst e2
            rw [updF_same] at ha
            exact List.mem_append_right _ ha
          · have e1 : m = i := by
              rcases List.mem_cons.mp hm with z | z
              · exact z
              · exact absurd (by simpa using z) e2
            subst e1
            rw [updF_ne e2, updF_same] at ha
            exact List.mem_append_left _ ha
      rcases it with r | ⟨_, d1', d2', T, x1, x2, G1, G2, e0, e1, s, r1, r2, e2⟩
      · obtain ⟨T, xs, rfl, s, r⟩ := r
        obtain ⟨x1, x2, G1, G2, rfl, r1, r2, rfl⟩ := repl_two r
        exact key T x1 x2 G1 G2 rfl s.sq r1 r2 rfl
      · cases e0
        exact key T x1 x2 G1 G2 e1 s r1 r2 e2
    · cases e
  · cases e⟩
/-! sources -/
def seqOf : PyData → Res (List PyData)
  | .list ds => .ok ds
  | .tuple ds => .ok ds
  | _ => .bad
def iSeq (f : Lo → Res PyData) : Lo → Res (List PyData) := fun env => (f env).bind seqOf
theorem vi_seq (h : VE X C A e f) : VI false X C A tg e (iSeq f) := PIby fun σ H R ⟨env, Fs, hs, hr⟩ => by
  by_cases ht : ∃ ds, f env = .ok (.tuple ds)
  · obtain ⟨ds, ht⟩ := ht
    refine ⟨_, pi_tup h, env, Fs, hs, post_mono (post_bind hr) (fun d e h1 v H1 F g1 => ?_) fun _ _ h => h⟩
    rw [ht] at e; cases e
    have r := g1.rep
    obtain ⟨a, xs, rfl, s, r⟩ := r
    refine ⟨a, rfl, ⟨xs, s.sq⟩, h1 _ H1 F g1.same g1.src fun own1 m n H k i => ⟨fun hl => ⟨xs, (ft_keep k m s).sq, by rw [r.length]; exact hl⟩, fun d hd => ?_⟩⟩
    have s' : SqT X.K H a xs := (ft_keep k m s).sq
    have r' : RepL X.K H ds xs F := RepL.keep k m ds xs F n r
    obtain ⟨x, F1, G, F2, q1, q2, rfl⟩ := r'.get hd
    exact ⟨⟨xs, x, s', q1⟩, fun y H' ⟨e1, e2⟩ => by
      subst e1
      have := e2 xs s'
      rw [q1] at this
      cases this
      exact ⟨Same.refl _, G, .inl q2, fun a ha => sub_mid.subset ha⟩⟩
  · refine ⟨_, pi_list h, env, Fs, hs, post_mono (post_bind hr) (fun d e h1 v H1 F g1 => ?_) fun _ _ h => h⟩
    cases d <;> try (exact h1.elim)
    · have r := g1.rep
      obtain ⟨a, xs, G0, rfl, s, r, rfl⟩ := r
      rename_i ds
      refine ⟨a, rfl, ⟨xs, SqL.of s⟩, h1 _ H1 (a :: G0) g1.same g1.src fun own1 m n H k i => ?_⟩
      have s' : H a = some (.lst xs) := k a _ s (n a List.mem_cons_self)
      refine ⟨fun hl => ⟨xs, SqL.of s', by rw [r.length]; exact hl⟩, fun d hd => ?_⟩
      have r' : RepL X.K H ds xs G0 := RepL.keep k m ds xs G0 (fun b hb => n b (List.mem_cons_of_mem _ hb)) r
      obtain ⟨x, F1, G, F2, q1, q2, rfl⟩ := r'.get hd
      exact ⟨⟨xs, x, SqL.of s', q1⟩, fun y H' ⟨e1, e2⟩ => by
        subst e1
        have := e2 xs (SqL.of s')
        rw [q1] at this
        cases this
        exact ⟨Same.refl _, G, .inl q2, fun a ha => List.mem_cons_of_mem _ (sub_mid.subset ha)⟩⟩
    · exact absurd ⟨_, e⟩ ht
def intOf : List PyData → Res Int
  | [.int n] => if -1000 ≤ n ∧ n ≤ 100000 then .ok n else .bad
  | _ => .bad
def iRange (fs : Lo → Res (List PyData)) : Lo → Res (List PyData) := fun env => ((fs env).bind intOf).bind fun n => .ok ((List.range n.toNat).map fun i => .int (i : Nat))
theorem vi_range {p : Pos} (hg : Gl X "range") (hm : X.mg "range" = none) (ha : VA X C A [e] fs) (hs : starEach [e] X.env = [(false, eval e X.env)] := by rfl) : VI false X C [] tg (.Call (.Name "range" p) [e] [] pos) (iRange fs) := PIimp (pi_range1 hg hm ha hs) fun σ H R ⟨env, Fs, hs, h⟩ => by
  refine ⟨env, Fs, hs, post_mono (post_bind (post_bind h)) (fun ds e1 h1 vs H1 G g1 => ?_) fun _ _ h => h⟩
  unfold intOf at h1
  split at h1
  · rename_i n
    split at h1
    · rename_i hn
      obtain ⟨x, rfl, r⟩ := repl_one g1.rep
      obtain ⟨rfl, rfl⟩ := r
      refine ⟨n, rfl, by omega, by omega, h1 _ H1 [] g1.same (fun _ z => nomatch z) fun own1 m nn H k i => ⟨fun hl => ?_, fun d hd => ?_⟩⟩
      · rw [List.length_map, List.length_range] at hl
        exact hl
      · rw [List.getElem?_map] at hd
        by_cases hi : i < n.toNat
        · rw [List.getElem?_range hi] at hd
          cases hd
          exact ⟨hi, fun x H' ⟨e1, e2⟩ => by
            subst e1 e2
            refine ⟨Same.refl _, [], .inl ?_, fun _ z => nomatch z⟩
            rw [Int.zero_add]
            exact rep_int⟩
        · rw [List.getElem?_eq_none (by simpa using hi)] at hd
          cases hd
    · exact h1.elim
  · exact h1.elim

def enumD (ds : List PyData) (n : Nat) : List PyData := match ds with
  | [] => []
  | d :: ds => .tuple [.int (n : Nat), d] :: enumD ds (n + 1)
theorem enumD_length : ∀ (ds : List PyData) (n : Nat), (enumD ds n).length = ds.length
  | [], _ => rfl
  | d :: ds, n => by simp [enumD, enumD_length ds]
theorem enumD_get : ∀ (ds : List PyData) (n i : Nat) (d : PyData), (enumD ds n)[i]? = some d → ∃ z, ds[i]? = some z ∧ d = .tuple [.int ((n + i : Nat) : Int), z]
  | [], _, _, _, h => by simp [enumD] at h
  | z :: ds, n, 0, d, h => by simp [enumD] at h; exact ⟨z, by simp, h.symm⟩
  | z :: ds, n, i + 1, d, h => by
    obtain ⟨y, h1, h2⟩ := enumD_get ds (n + 1) i d (by simpa [enumD] using h)
    exact ⟨y, by simpa using h1, by rw [h2]; congr 3; omega⟩
def iEnumD (f : Lo → Res PyData) : Lo → Res (List PyData) := fun env => ((f env).bind seqOf).bind fun ds => .ok (enumD ds 0)
theorem va_one (h : VE X C A e f) (hs : starEach [e] X.env = (false, eval e X.env) :: starEach [] X.env := by rfl) : VA X C A [e] (fun env => (f env).bind fun d => .ok [d]) := PA.imp (pa_cons h pa_nil hs) fun σ H Q ⟨env, Fs, hs, h⟩ => by
  refine ⟨env, Fs, hs, post_mono (post_bind h) (fun d _ h1 v H1 F g1 => h1 [v] H1 F ⟨.one g1.rep, g1.same, g1.src, g1.nd⟩) fun _ _ h => h⟩
theorem pair_item {K : PySem.W.Frag} {H : Hp} {d1 d2 : PyData} {x1 x2 : V} {G1 G2 : List Addr} {T : Addr} (nT : H T = none) (r1 : Rep K H d1 x1 G1) (r2 : Rep K H d2 x2 G2) : Item true K (upd H T (.tup [x1, x2])) (.tuple [d1, d2]) (.ref T) (G1 ++ G2) :=
  .inr ⟨rfl, d1, d2, T, x1, x2, G1, G2, rfl, rfl, SqT.of upd_same, r1.mono (same_upd nT), r2.mono (same_upd nT), rfl⟩
theorem vi_enum {elts : List Expr} {kk : Nat} {p tpos : Pos} (hg : Gl X "enumerate") (hm : X.mg "enumerate" = none) (h : VE X C A e f) (hs : starEach [e] X.env = [(false, eval e X.env)] := by rfl) (hs1 : starEach [e] X.env = (false, eval e X.env) :: starEach [] X.env := by rfl) :
    VI true X C A (.Tuple elts kk tpos) (.Call (.Name "enumerate" p) [e] [] pos) (iEnumD f) := PIby fun σ H R ⟨env, Fs, hs, hr⟩ => by
  have h' := va_one h hs1
  by_cases ht : ∃ ds, f env = .ok (.tuple ds)
  · obtain ⟨ds, ht⟩ := ht
    refine ⟨_, pi_enumT hg hm h' ‹_›, env, Fs, hs, ?_⟩
    show ((f env).bind fun d => Res.ok [d]).post _ _
    have hr : (((f env).bind seqOf).bind fun ds => Res.ok (enumD ds 0)).post _ _ := hr
    rw [ht] at hr ⊢
    intro vs H1 F g1
    obtain ⟨x, rfl, r⟩ := repl_one g1.rep
    obtain ⟨a, xs, rfl, s, r⟩ := r
    refine ⟨a, xs, rfl, s.sq, hr _ H1 F g1.same g1.src fun own1 m n H k i => ⟨fun hl => ⟨xs, (ft_keep k m s).sq, by rw [r.length]; rw [enumD_length] at hl; exact hl⟩, fun d hd => ?_⟩⟩
    have s' : SqT X.K H a xs := (ft_keep k m s).sq
    have r' : RepL X.K H ds xs F := RepL.keep k m ds xs F n r
    obtain ⟨z, hz, rfl⟩ := enumD_get ds 0 i d hd
    obtain ⟨x, F1, G, F2, q1, q2, rfl⟩ := r'.get hz
    refine ⟨⟨xs, x, s', q1⟩, fun y H' ⟨T, x', e1, nT, e2, e3⟩ => ?_⟩
    subst e1 e2
    have := e3 xs s'
    rw [q1] at this
    cases this
    refine ⟨same_upd nT, G, ?_, fun a ha => sub_mid.subset ha⟩
    have := pair_item (K := X.K) (d1 := .int ((0 + i : Nat) : Int)) (x1 := .int ((i : Nat) : Int)) (G1 := []) nT (by rw [Nat.zero_add]; exact rep_int) q2
    exact this
  · by_cases hl : ∃ ds, f env = .ok (.list ds)
    · obtain ⟨ds, ht⟩ := hl
      refine ⟨_, pi_enum hg hm h' ‹_›, env, Fs, hs, ?_⟩
      show ((f env).bind fun d => Res.ok [d]).post _ _
      have hr : (((f env).bind seqOf).bind fun ds => Res.ok (enumD ds 0)).post _ _ := hr
      rw [ht] at hr ⊢
      intro vs H1 F g1
      obtain ⟨x, rfl, r⟩ := repl_one g1.rep
      obtain ⟨a, xs, G0, rfl, s, r, rfl⟩ := r
      refine ⟨a, xs, rfl, SqL.of s, hr _ H1 (a :: G0) g1.same g1.src fun own1 m n H k i => ?_⟩
      have s' : SqL X.K H a xs := SqL.of (k a _ s (n a List.mem_cons_self))
      refine ⟨fun hl => ⟨xs, s', by rw [r.length]; rw [enumD_length] at hl; exact hl⟩, fun d hd => ?_⟩
      have r' : RepL X.K H ds xs G0 := RepL.keep k m ds xs G0 (fun b hb => n b (List.mem_cons_of_mem _ hb)) r
      obtain ⟨z, hz, rfl⟩ := enumD_get ds 0 i d hd
      obtain ⟨x, F1, G, F2, q1, q2, rfl⟩ := r'.get hz
      refine ⟨⟨xs, x, s', q1⟩, fun y H' ⟨T, x', e1, nT, e2, e3⟩ => ?_⟩
      subst e1 e2
      have := e3 xs s'
      rw [q1] at this
      cases this
      refine ⟨same_upd nT, G, ?_, fun a ha => List.mem_cons_of_mem _ (sub_mid.subset ha)⟩
      have := pair_item (K := X.K) (d1 := .int ((0 + i : Nat) : Int)) (x1 := .int ((i : Nat) : Int)) (G1 := []) nT (by rw [Nat.zero_add]; exact rep_int) q2
      exact this
    · refine ⟨_, pi_enum hg hm h' ‹_›, env, Fs, hs, ?_⟩
      show ((f env).bind fun d => Res.ok [d]).post _ _
      have hr : (((f env).bind seqOf).bind fun ds => Res.ok (enumD ds 0)).post _ _ := hr
      cases e : f env with
      | bad => rw [e] at hr; exact hr.elim
      | exc c y => rw [e] at hr; exact hr
      | ok d =>
        rw [e] at hr
        cases d with
        | list ds => exact (hl ⟨ds, e⟩).elim
        | tuple ds => exact (ht ⟨ds, e⟩).elim
        | none => exact hr.elim
        | bool b => exact hr.elim
        | int b => exact hr.elim
        | str b => exact hr.elim
        | dict b => exact hr.elim

/-! ### for -/
def loopF (tgt : PyData → Lo → Option Lo) (body : Lo → Out) : List PyData → Lo → Out
  | [], env => .nx env
  | d :: ds, env => match tgt d env with
    | none => .bad
    | some env1 => match body env1 with
      | .nx env2 => loopF tgt body ds env2
      | .ct _ => .bad
      | o => o
def sFor (src : Lo → Res (List PyData)) (tgt : PyData → Lo → Option Lo) (body : Lo → Out) : Lo → Out := fun env => (src env).out env fun ds => loopF tgt body ds env
/-- .. where the body may continue (nothing is owned within) -/
def loopC (tgt : PyData → Lo → Option Lo) (body : Lo → Out) : List PyData → Lo → Out
  | [], env => .nx env
  | d :: ds, env => match tgt d env with
    | none => .bad
    | some env1 => match body env1 with
      | .nx env2 => loopC tgt body ds env2
      | .ct env2 => loopC tgt body ds env2
      | o => o
def sForC (src : Lo → Res (List PyData)) (tgt : PyData → Lo → Option Lo) (body : Lo → Out) : Lo → Out := fun env => (src env).out env fun ds => loopC tgt body ds env
theorem owns_none {Fs : Nat → List Addr} : Owns [] Fs := ⟨fun _ z => (nomatch z), fun _ z => (nomatch z)⟩
theorem own_none {Fs : Nat → List Addr} : own [] Fs = fun _ => False := funext fun a => propext ⟨fun ⟨_, z, _⟩ => (nomatch z), fun z => z.elim⟩
theorem Fr.weak {p q q' : Addr → Prop} {H H' : Hp} (h : Fr p H q H') (hq : ∀ a, q' a → q a) : Fr p H q' H' := ⟨h.keep, fun a z => h.src a (hq a z), h.dom⟩
/-- one turn, at a state that the walk has reached -/
theorem turn {lp : (PyData → Lo → Option Lo) → (Lo → Out) → List PyData → Lo → Out} {body : Lo → Out} {D : Ends} {N : St → Hp → Prop} {g : TG} {d : PyData} {ds : List PyData} {x : V} {G : List Addr} {env : Lo} {σ : St} {H : Hp} {Fs : Nat → List Addr}
    (hlp : ∀ env1, tgt d env = some env1 → postS X.K C Ob Ob H Fs D (lp tgt body (d :: ds) env) → postS X.K C Ob Ob H Fs { D with nx := N, ct := N, bk := D.nx } (body env1))
    (hbad : tgt d env = none → lp tgt body (d :: ds) env = .bad)
    (tg : TgOk pr X g tgt ks) (hks : ∀ k ∈ ks, k ∉ Ob) (hs : Slots X.K env σ H Fs) (ho : Owns Ob Fs) (it : Item pr X.K H d x G) (ap : ∀ a ∈ G, ¬ own Ob Fs a)
    (hp : postS X.K C Ob Ob H Fs D (lp tgt body (d :: ds) env)) : g x σ H fun σ2 H2 => ts X.K C Ob Ob body { D with nx := N, ct := N, bk := D.nx } σ2 H2 := by
  cases e : tgt d env with
  | none => rw [hbad e] at hp; exact hp.elim
  | some env1 =>
    refine tg d x G env σ H Fs _ env1 hs it e fun σ2 Fs2 hs2 h1 h2 _ => ⟨env1, Fs2, hs2, ⟨fun i hi => ?_, fun i hi j hj a ha => ?_⟩, ?_⟩
    · rw [h1 i fun z => hks i z hi]; exact ho.nd i hi
    · rw [h1 i fun z => hks i z hi] at ha
      by_cases hjk : j ∈ ks
      · exact fun z => ap a (h2 j hjk a z) ⟨i, hi, ha⟩
      · rw [h1 j hjk]
        exact ho.dj i hi j hj a ha
    · have e : own Ob Fs2 = own Ob Fs := funext fun a => propext ⟨fun ⟨i, hi, z⟩ => ⟨i, hi, by rwa [h1 i fun z => hks i z hi] at z⟩, fun ⟨i, hi, z⟩ => ⟨i, hi, by rwa [h1 i fun z => hks i z hi]⟩⟩
      refine postS_fr (O := Ob) (Fs := Fs) (H := H) ?_ (hlp env1 ‹_› hp)
      rw [e]
      exact fr_same (Same.refl H)
def okFor (O Ob A ks : List Nat) : Bool := Ob.all fun k => O.contains k && !A.contains k && !ks.contains k
theorem okFor_of (h : okFor O Ob A ks = true) : ∀ k ∈ Ob, k ∈ O ∧ k ∉ A ∧ k ∉ ks := fun k hk => by
  have := List.all_eq_true.mp h k hk
  rw [Bool.and_eq_true, Bool.and_eq_true] at this
  refine ⟨by simpa using this.1.1, fun z => ?_, fun z => ?_⟩
  · have := this.1.2; simp [z] at this
  · have := this.2; simp [z] at this
/-- the walk through a loop, whatever walks -/
theorem for_core {lp : (PyData → Lo → Option Lo) → (Lo → Out) → List PyData → Lo → Out} {body : Lo → Out} {D : Ends} {g : TG} {σ : St} {H H1 : Hp} {env : Lo} {Fs : Nat → List Addr} {J : It} {G : List Addr} {ds : List PyData}
    (h0 : ∀ env, lp tgt body [] env = .nx env) (hbad : ∀ d ds env, tgt d env = none → lp tgt body (d :: ds) env = .bad)
    (hnx : ∀ (d : PyData) (ds : List PyData) (env env1 : Lo) (H : Hp) (Fs : Nat → List Addr), tgt d env = some env1 → postS X.K C Ob Ob H Fs D (lp tgt body (d :: ds) env) →
      postS X.K C Ob Ob H Fs { D with nx := fun σ' H' => ∃ env' Fs', Slots X.K env' σ' H' Fs' ∧ Owns Ob Fs' ∧ Fr (own Ob Fs) H (own Ob Fs') H' ∧ postS X.K C Ob Ob H' Fs' D (lp tgt body ds env'), ct := fun σ' H' => ∃ env' Fs', Slots X.K env' σ' H' Fs' ∧ Owns Ob Fs' ∧ Fr (own Ob Fs) H (own Ob Fs') H' ∧ postS X.K C Ob Ob H' Fs' D (lp tgt body ds env'), bk := D.nx } (body env1))
    (tg : TgOk pr X g tgt ks) (ok : okFor O Ob A ks = true) (hs : Slots X.K env σ H Fs) (ho : Owns O Fs) (s1 : Same H H1) (srcG : ∀ a ∈ G, (H a = none ∧ Mu H1 a) ∨ a ∈ A.flatMap Fs) (J1 : ItOk pr X.K J ds G H1)
    (hp : postS X.K C O Ob H Fs D (lp tgt body ds env)) :
    ∃ W : Nat → Nat → St → Hp → Prop, (∃ m, W 0 m σ H1) ∧ ∀ i m σ H, W i m σ H → (J.stop i H ∧ D.nx σ H) ∨ (J.go i H ∧ ∃ N : St → Hp → Prop, (∀ σ' H', N σ' H' → ∃ m', m' < m ∧ W (i + 1) m' σ' H') ∧
      ∀ x H', J.yld i H x H' → g x σ H' fun σ2 H2 => ts X.K C Ob Ob body { D with nx := N, ct := N, bk := D.nx } σ2 H2) := by
  have ok' := okFor_of ok
  have hoB : Owns Ob Fs := ⟨fun i hi => ho.nd i (ok' i hi).1, fun i hi => ho.dj i (ok' i hi).1⟩
  have hs1 := hs.mono s1
  have mu1 : ∀ a, own Ob Fs a → Mu H1 a := fun a ⟨i, _, z⟩ => hs1.old i a z
  have apG : ∀ a ∈ G, ¬ own Ob Fs a := fun a ha ⟨i, hi, z⟩ => by
    rcases srcG a ha with ⟨n, _⟩ | z2
    · exact (hs.old i a z).notnone n
    · obtain ⟨j, hj, z2⟩ := List.mem_flatMap.mp z2
      exact ho.dj i (ok' i hi).1 j (fun e => (ok' i hi).2.1 (e ▸ hj)) a z z2
  have muG : ∀ a ∈ G, Mu H1 a := fun a ha => by
    rcases srcG a ha with ⟨_, m⟩ | z2
    · exact m
    · obtain ⟨j, hj, z2⟩ := List.mem_flatMap.mp z2
      exact hs1.old j a z2
  refine ⟨fun i m σ H => m = ds.length - i ∧ ∃ env' Fs', Slots X.K env' σ H Fs' ∧ Owns Ob Fs' ∧ Fr (own Ob Fs) H1 (own Ob Fs') H ∧ postS X.K C Ob Ob H Fs' D (lp tgt body (ds.drop i) env'), ⟨ds.length, by simp, env, Fs, hs1, hoB, fr_same (Same.refl H1), ?_⟩, ?_⟩
  · rw [List.drop_zero]
    exact postS_fr (.same s1 fun a ⟨i, hi, z⟩ => .inl ⟨i, (ok' i hi).1, z⟩) hp
  · rintro i m σ2 H2 ⟨rfl, env2, Fs2, hs2, ho2, fr2, hp2⟩
    obtain ⟨j1, j2⟩ := J1 (own Ob Fs) mu1 apG H2 (fun a o e n => fr2.keep a o e n) i
    by_cases hi : i < ds.length
    · have hd : ds[i]? = some ds[i] := List.getElem?_eq_getElem hi
      have hdrop : ds.drop i = ds[i] :: ds.drop (i + 1) := (List.getElem_cons_drop (h := hi)).symm
      rw [hdrop] at hp2
      obtain ⟨go, yl⟩ := j2 _ hd
      refine .inr ⟨go, fun σ' H' => ∃ env' Fs', Slots X.K env' σ' H' Fs' ∧ Owns Ob Fs' ∧ Fr (own Ob Fs) H1 (own Ob Fs') H' ∧ postS X.K C Ob Ob H' Fs' D (lp tgt body (ds.drop (i + 1)) env'), fun σ' H' n => ⟨ds.length - (i + 1), by omega, rfl, n⟩, fun x H3 y => ?_⟩
      obtain ⟨s3, Gi, it, subG⟩ := yl x H3 y
      have hs3 := hs2.mono s3
      have hp3 : postS X.K C Ob Ob H3 Fs2 D (lp tgt body (ds[i] :: ds.drop (i + 1)) env2) := postS_fr (fr_same s3) hp2
      have fr3 : Fr (own Ob Fs) H1 (own Ob Fs2) H3 := fr2.trans (fr_same s3)
      refine turn (lp := lp) (fun env1 he hp => ?_) (fun e => hbad _ _ _ e) tg (fun k hk hb => (ok' k hb).2.2 hk) hs3 ho2 it (fun a ha ho3 => ?_) hp3
      · have q := hnx _ _ _ _ _ _ he hp
        cases eb : body env1 with
        | nx e2 =>
          rw [eb] at q
          exact fun σ' H' Fs' a b c => let ⟨e', F', z1, z2, z3, z4⟩ := q σ' H' Fs' a b c; ⟨e', F', z1, z2, fr3.trans z3, z4⟩
        | ct e2 =>
          rw [eb] at q
          exact fun σ' H' Fs' a c => let ⟨e', F', z1, z2, z3, z4⟩ := q σ' H' Fs' a c; ⟨e', F', z1, z2, fr3.trans z3, z4⟩
        | rt d => rw [eb] at q; exact q
        | ex e2 c x => rw [eb] at q; exact q
        | bad => rw [eb] at q; exact q
      · have haG := subG a ha
        rcases fr2.src a ho3 with z | z
        · exact apG a haG z
        · exact (muG a haG).notnone z
    · refine .inl ⟨j1 (by omega), ?_⟩
      rw [List.drop_of_length_le (by omega), h0] at hp2
      exact hp2 σ2 H2 Fs2 hs2 ho2 (fr_same (Same.refl H2))
theorem vs_for {body : List Stmt} {g : Lo → Out} (hp : PassesOwn (model X.prog X.w) X.A X.env X.xe) (hc : X.calm = true) (hi : VI pr X C A tg iter src) (hg : VG pr X tg tgt ks) (hb : VB X C Ob Ob body g) (ok : okFor O Ob A ks = true := by decide)
    (hs : ∀ x, foldedSetIterable iter X.env x = pure x := by intro _; rfl) : VS X C O Ob (.For tg iter body [] pos) (sFor src tgt g) := by
  obtain ⟨gg, pg, tgok⟩ := hg.ex
  refine PSimp (ps_for hp hc hi pg hb hs) fun D σ H ⟨env, Fs, hs, ho, h⟩ => ?_
  refine ⟨env, Fs, hs, post_mono (out_post hs h) (fun ds _ h1 J H1 G s1 srcG J1 => ?_) fun _ _ h => h⟩
  refine for_core (lp := loopF) (fun _ => rfl) (fun d ds env e => by simp only [loopF, e]) (fun d ds env env1 H Fs e hp => ?_) tgok ok hs ho s1 srcG J1 h1
  simp only [loopF, e] at hp
  cases eb : g env1 with
  | nx e2 => rw [eb] at hp; exact fun σ' H' Fs' a b c => ⟨e2, Fs', a, b, c, postS_fr c hp⟩
  | ct e2 => rw [eb] at hp; exact hp.elim
  | rt d => rw [eb] at hp; exact hp
  | ex e2 c x => rw [eb] at hp; exact hp
  | bad => rw [eb] at hp; exact hp
theorem vs_forC {body : List Stmt} {g : Lo → Out} (hp : PassesOwn (model X.prog X.w) X.A X.env X.xe) (hc : X.calm = true) (hi : VI pr X C A tg iter src) (hg : VG pr X tg tgt ks) (hb : VB X C [] [] body g)
    (hs : ∀ x, foldedSetIterable iter X.env x = pure x := by intro _; rfl) : VS X C O [] (.For tg iter body [] pos) (sForC src tgt g) := by
  obtain ⟨gg, pg, tgok⟩ := hg.ex
  refine PSimp (ps_for hp hc hi pg hb hs) fun D σ H ⟨env, Fs, hs, ho, h⟩ => ?_
  refine ⟨env, Fs, hs, post_mono (out_post hs h) (fun ds _ h1 J H1 G s1 srcG J1 => ?_) fun _ _ h => h⟩
  refine for_core (Ob := []) (lp := loopC) (fun _ => rfl) (fun d ds env e => by simp only [loopC, e]) (fun d ds env env1 H Fs e hp => ?_) tgok rfl hs ho s1 srcG J1 h1
  simp only [loopC, e] at hp
  cases eb : g env1 with
  | nx e2 => rw [eb] at hp; exact fun σ' H' Fs' a b c => ⟨e2, Fs', a, b, c, postS_fr c hp⟩
  | ct e2 => rw [eb] at hp; exact fun σ' H' Fs' a c => ⟨e2, Fs', a, owns_none, by rw [own_none (Fs := Fs')]; exact c, postS_fr (by rw [own_none (Fs := Fs')]; exact c) hp⟩
  | rt d => rw [eb] at hp; exact hp
  | ex e2 c x => rw [eb] at hp; exact hp
  | bad => rw [eb] at hp; exact hp
end
end PV

set_option Elab.async false
set_option linter.all false
set_option maxRecDepth 100000
namespace PV
open PySem PySem.Spec L2
open PyProof.Rows hiding St
section
variable {X : Cx} {C : Cc} {e c i o : Expr} {pos : Pos} {A B O Ob O' : List Nat} {f fi : Lo → Res PyData} {fs : Lo → Res (List PyData)} {g : Lo → Out} {t : Lo → Res Bool} {body : List Stmt}
/-! ### while -/
def loopW (t : Lo → Res Bool) (g : Lo → Out) : Nat → Lo → Out
  | 0, _ => .bad
  | n + 1, env => (t env).out env fun b => if b then match g env with
      | .nx env2 => loopW t g n env2
      | .ct _ => .bad
      | o => o
    else .nx env
def sWhile (n : Nat) (t : Lo → Res Bool) (g : Lo → Out) : Lo → Out := fun env => loopW t g n env
theorem vs_while (n : Nat) (hp : PassesOwn (model X.prog X.w) X.A X.env X.xe) (hc : VT X C c t) (hb : VB X C Ob Ob body g) (ok : okFor O Ob [] [] = true := by decide) : VS X C O Ob (.While c body [] pos) (sWhile n t g) := PSimp (ps_while hp hc hb) fun D σ H ⟨env, Fs, hs, ho, h⟩ => by
  have ok' := okFor_of ok
  refine ⟨fun m σ2 H2 => ∃ env2 Fs2, Slots X.K env2 σ2 H2 Fs2 ∧ Owns Ob Fs2 ∧ postS X.K C Ob Ob H2 Fs2 D (loopW t g m env2), ⟨n, env, Fs, hs, ⟨fun i hi => ho.nd i (ok' i hi).1, fun i hi => ho.dj i (ok' i hi).1⟩, ?_⟩, ?_⟩
  · exact postS_fr (.same (Same.refl H) fun a ⟨i, hi, z⟩ => .inl ⟨i, (ok' i hi).1, z⟩) h
  · rintro m σ2 H2 ⟨env2, Fs2, hs2, ho2, h2⟩
    cases m with
    | zero => exact h2.elim
    | succ m =>
      refine ⟨env2, Fs2, hs2, post_mono (out_post hs2 h2) (fun b _ h3 H3 s3 => ?_) fun _ _ h => h⟩
      cases b with
      | false =>
        simp only [Bool.false_eq_true, if_false] at h3 ⊢
        exact h3 σ2 H3 Fs2 (hs2.mono s3) ho2 (fr_same s3)
      | true =>
        simp only [if_true] at h3 ⊢
        refine ⟨fun σ' H' => ∃ env' Fs', Slots X.K env' σ' H' Fs' ∧ Owns Ob Fs' ∧ postS X.K C Ob Ob H' Fs' D (loopW t g m env'), fun σ' H' z => ⟨m, Nat.lt_succ_self m, z⟩, env2, Fs2, hs2.mono s3, ho2, ?_⟩
        cases eb : g env2 with
        | nx e2 => rw [eb] at h3; exact fun σ' H' Fs' a b c => ⟨e2, Fs', a, b, postS_fr ((fr_same s3).trans c) h3⟩
        | ct e2 => rw [eb] at h3; exact h3.elim
        | rt d => rw [eb] at h3; exact postS_fr (fr_same s3) h3
        | ex e2 c x => rw [eb] at h3; exact postS_fr (fr_same s3) h3
        | bad => rw [eb] at h3; exact h3.elim
/-! ### an owned list is changed -/
theorem set_self {σ : St} {i : Nat} {v : V} (h : σ[i]? = some (some v)) : σ.set i (some v) = σ := by
  apply List.ext_getElem?
  intro j
  by_cases e : j = i
  · subst e
    obtain ⟨hl, _⟩ := List.getElem?_eq_some_iff.mp h
    rw [List.getElem?_set_self hl, h]
  · rw [List.getElem?_set_ne (Ne.symm e)]
/-- the slot i holds what it held, changed at addresses of its own -/
theorem mutd {K : PySem.W.Frag} {env : Lo} {σ : St} {H0 H H' : Hp} {Fs : Nat → List Addr} {k : Nat} {v : V} {d' : PyData} {F' : List Addr} {ch : Addr → Prop} (hs0 : Slots K env σ H0 Fs) (s0 : Same H0 H) (ho : Owns O Fs) (hk : k ∈ O) (hl : k < env.length) (hv : σ[k]? = some (some v))
    (hch : ∀ a, ch a → a ∈ Fs k) (keep : ∀ a o, H a = some o → ¬ ch a → H' a = some o) (dom : ∀ a, H' a = none → H a = none) (r : Rep K H' d' v F') (nd : F'.Nodup) (src : ∀ a ∈ F', a ∈ Fs k ∨ H0 a = none) :
    Slots K (env.set k (some d')) σ H' (updF Fs k F') ∧ Owns O (updF Fs k F') ∧ Fr (own O Fs) H0 (own O (updF Fs k F')) H' := by
  have hs := hs0.mono s0
  have hmu : ∀ a, ch a → Mu H a := fun a z => hs.old k a (hch a z)
  have hs' : Slots K (env.set k none) σ H' (updF Fs k []) := by
    refine ⟨by simp [hs.len], fun j d e => ?_, fun j n => ?_⟩
    · by_cases hj : j = k
      · subst hj
        rw [List.getElem?_set_self hl] at e; cases e
      · rw [List.getElem?_set_ne (Ne.symm hj)] at e
        obtain ⟨w, q, r⟩ := hs.rep j d e
        rw [updF_ne hj]
        exact ⟨w, q, Rep.keep keep hmu d w _ (fun a ha z => ho.dj k hk j hj a (hch a z) ha) r⟩
    · by_cases hj : j = k
      · subst hj; exact updF_same
      · rw [updF_ne hj]
        exact hs.non j fun d e => n d (by rw [List.getElem?_set_ne (Ne.symm hj)]; exact e)
  have hs2 := hs'.set (i := k) (by simpa using hl) r
  rw [List.set_set, set_self hv] at hs2
  have eF : updF (updF Fs k []) k F' = updF Fs k F' := funext fun j => by
    by_cases e : j = k
    · subst e; rw [updF_same, updF_same]
    · rw [updF_ne e, updF_ne e, updF_ne e]
  rw [eF] at hs2
  refine ⟨hs2, ⟨fun j hj => ?_, fun j hj m hm a ha => ?_⟩, ⟨fun a o e n => keep a o (s0 a o e) fun z => n ⟨k, hk, hch a z⟩, fun a ⟨j, hj, ha⟩ => ?_, fun a z => s0.free (dom a z)⟩⟩
  · by_cases e : j = k
    · subst e; rw [updF_same]; exact nd
    · rw [updF_ne e]; exact ho.nd j hj
  · by_cases e : j = k
    · subst e
      rw [updF_same] at ha
      rw [updF_ne hm]
      intro z
      rcases src a ha with y | y
      · exact ho.dj j hj m hm a y z
      · exact (hs0.old m a z).notnone y
    · rw [updF_ne e] at ha
      by_cases e2 : m = k
      · subst e2
        rw [updF_same]
        intro z
        rcases src a z with y | y
        · exact ho.dj j hj m hm a ha y
        · exact (hs0.old j a ha).notnone y
      · rw [updF_ne e2]; exact ho.dj j hj m hm a ha
  · by_cases e : j = k
    · subst e
      rw [updF_same] at ha
      exact (src a ha).imp (fun y => ⟨j, hj, y⟩) id
    · rw [updF_ne e] at ha
      exact .inl ⟨j, hj, ha⟩
theorem upd_keep {H : Hp} {a : Addr} {o : HO} : ∀ b u, H b = some u → ¬ (b = a) → upd H a o b = some u := fun b u e n => by rw [upd_ne n]; exact e
theorem upd_dom {H : Hp} {a : Addr} {o : HO} (h : ∃ u, H a = some u) : ∀ b, upd H a o b = none → H b = none := fun b e => by
  by_cases z : b = a
  · subst z; rw [upd_same] at e; cases e
  · rwa [upd_ne z] at e
def slotL (k : Nat) (env : Lo) : Option (List PyData) := match env[k]? with
  | some (some (.list ds)) => some ds
  | _ => none
theorem slotL_of {k : Nat} {env : Lo} {ds : List PyData} (h : slotL k env = some ds) : env[k]? = some (some (.list ds)) := by
  unfold slotL at h
  split at h
  · rename_i e; cases h; exact e
  · cases h
/-- x.append(e) -/
def sApp (k : Nat) (f : Lo → Res PyData) : Lo → Out := fun env => match slotL k env with
  | some ds => (f env).out env fun d => if ds.length < 100000 then .nx (env.set k (some (.list (ds ++ [d])))) else .bad
  | none => .bad
theorem tyV_list {K : PySem.W.Frag} {a : Addr} {H : Hp} {xs : List V} (h : SqL K H a xs) : tyV K "list" (.ref a) H := Or.inl ⟨rfl, xs, h⟩
theorem vs_append (k : Nat) {x : Str} {p1 p2 p3 : Pos} (h : VE X C [] e f) (hO : k ∈ O := by decide) (hN : X.N[k]? = some x := by rfl) (hv : Vis X.env.scope x := by first | exact Or.inl rfl | exact Or.inr (Or.inl rfl) | exact Or.inr (Or.inr rfl)) (hd : (x == ("__debug__" : Str)) = false := by decide)
    (hcd : (x == ("__classdict__" : Str)) = false := by decide) (hbase : attributeBase (.Name x p1) "append" X.env (eval (.Name x p1) X.env) = eval (.Name x p1) X.env := by rfl)
    (hfew : ((backTo p3 (starEach [e] X.env)).all (fun x => !x.1) && (backToKw p3 (keywordEach [] X.env)).all (fun x => x.1.isSome)
      && decide ([e].length + ([] : List Keyword).length + (if ([] : List Keyword).isEmpty then 0 else 1) < 30)) = true := by rfl)
    (hline : (p2.endLine == p3.line) = true := by rfl) (hs : starEach [e] X.env = (false, eval e X.env) :: starEach [] X.env := by rfl) (hplain : (backTo p3 (starEach [] X.env)).any (·.1) = false := by rfl)
    (hs2 : swapsWith (.Call (.Attribute (.Name x p1) "append" p2) [e] [] p3) none pos.line X.env = pure false := by rfl) :
    VS X C O O (.Expr (.Call (.Attribute (.Name x p1) "append" p2) [e] [] p3) pos) (sApp k f) :=
  PSimp (ps_expr (pe_bm PySem.F.plainAttrs_list PySem.F.slot_list_append PySem.F.type_list_append mt_append (pv k hN hv hd hcd) (pa_cons h pa_nil hs) hbase hfew hline hs hplain) hs2) fun D σ H ⟨env, Fs, hs, ho, h⟩ => by
  unfold sApp at h
  split at h
  · rename_i ds e0
    have e0 := slotL_of e0
    obtain ⟨v, hv, r⟩ := hs.rep k _ e0
    obtain ⟨a, xs, G, rfl, ha, rG, eF⟩ := r
    refine ⟨_, hv, tyV_list (SqL.of ha), env, Fs, hs, post_mono (out_post hs h) (fun d _ h1 y H1 F g1 => ?_) fun _ _ h => h⟩
    split at h1
    · rename_i hl
      have ha1 := g1.same _ _ ha
      have rG1 := rG.mono g1.same
      refine ⟨a, xs, y, rfl, rfl, ha1, by rw [rG.length, sizeLine_eq]; omega, ?_⟩
      have hs1 := hs.mono g1.same
      have aG : a ∉ G := by
        have := ho.nd k hO
        rw [eF] at this
        exact (List.nodup_cons.mp this).1
      have aF : a ∉ F := fun z => by
        have := (g1.mu0 a z).1
        rw [ha] at this; cases this
      have ndF : F.Nodup := g1.nd (by simp) fun _ z => by simp at z
      have keepG : RepL X.K (upd H1 a (.lst (xs ++ [y]))) ds xs G := RepL.keep (own := fun b => b = a) upd_keep (fun b z => z ▸ .inl ⟨xs, ha1⟩) ds xs G (fun b hb z => aG (z ▸ hb)) rG1
      have keepF : Rep X.K (upd H1 a (.lst (xs ++ [y]))) d y F := Rep.keep (own := fun b => b = a) upd_keep (fun b z => z ▸ .inl ⟨xs, ha1⟩) d y F (fun b hb z => aF (z ▸ hb)) g1.rep
      have r' : Rep X.K (upd H1 a (.lst (xs ++ [y]))) (.list (ds ++ [d])) (.ref a) (a :: (G ++ F)) := ⟨a, xs ++ [y], G ++ F, rfl, upd_same, keepG.append (.one keepF), rfl⟩
      have hlk : k < env.length := (List.getElem?_eq_some_iff.mp e0).1
      have nd' : (a :: (G ++ F)).Nodup := by
        have q := ho.nd k hO
        rw [eF] at q
        refine List.nodup_cons.mpr ⟨fun z => (List.mem_append.mp z).elim aG aF, List.nodup_append.mpr ⟨(List.nodup_cons.mp q).2, ndF, fun b hb c hc e => ?_⟩⟩
        subst e
        exact (RepL.mu ds xs G rG b hb).notnone (g1.mu0 b hc).1
      have src' : ∀ b ∈ a :: (G ++ F), b ∈ Fs k ∨ H b = none := fun b hb => by
        rcases List.mem_cons.mp hb with z | z
        · exact .inl (by rw [eF, z]; exact List.mem_cons_self)
        · rcases List.mem_append.mp z with z | z
          · exact .inl (by rw [eF]; exact List.mem_cons_of_mem _ z)
          · exact .inr (g1.mu0 b z).1
      obtain ⟨m1, m2, m3⟩ := mutd (O := O) (d' := .list (ds ++ [d])) (F' := a :: (G ++ F)) (ch := fun b => b = a) (H := H1) hs g1.same ho hO hlk hv (fun b z => by rw [z, eF]; exact List.mem_cons_self) upd_keep (upd_dom ⟨_, ha1⟩) r' nd' src'
      exact h1 σ _ _ m1 m2 m3
    · exact h1.elim
  · exact h.elim

/-! x[k] = e, a flat item -/
def putAt (ds : List PyData) (k : PyData) (d : PyData) : Option (List PyData) := match k with
  | .int i => (ixN ds.length i).map fun j => ds.set j d
  | _ => none
/-- d[k] = v -/
def putD : List (PyData × PyData) → Int → PyData → List (PyData × PyData)
  | [], k, d => [(.int k, d)]
  | (.int j, e) :: r, k, d => if j = k then (.int j, d) :: r else (.int j, e) :: putD r k d
  | p :: r, k, d => p :: putD r k d
theorem repl_setFlat {K : PySem.W.Frag} {H : Hp} {d : PyData} {x : V} (hr : Rep K H d x []) : ∀ {ds : List PyData} {xs : List V} {F : List Addr} (j : Nat), flatL ds = true → RepL K H ds xs F → RepL K H (ds.set j d) (xs.set j x) F
  | [], _, _, _, _, h => by obtain ⟨rfl, rfl⟩ := h; exact ⟨rfl, rfl⟩
  | e :: ds, _, _, 0, hf, h => by
    obtain ⟨y, ys, F1, F2, rfl, r1, r2, rfl⟩ := h
    have hf' : flat e = true ∧ flatL ds = true := by simpa [flatL] using hf
    obtain rfl := Rep.flat e y F1 hf'.1 r1
    exact ⟨x, ys, [], F2, rfl, hr, r2, rfl⟩
  | e :: ds, _, _, j + 1, hf, h => by
    obtain ⟨y, ys, F1, F2, rfl, r1, r2, rfl⟩ := h
    have hf' : flat e = true ∧ flatL ds = true := by simpa [flatL] using hf
    exact ⟨y, ys.set j x, F1, F2, rfl, r1, repl_setFlat hr j hf'.2 r2, rfl⟩
/-- the owned list at slot k becomes another one of flat items -/
theorem relist {K : PySem.W.Frag} {env : Lo} {σ : St} {H0 H : Hp} {Fs : Nat → List Addr} {k : Nat} {a : Addr} {ds ds' : List PyData} {xs xs' : List V} {G : List Addr} (hs0 : Slots K env σ H0 Fs) (s0 : Same H0 H) (ho : Owns O Fs) (hk : k ∈ O) (e0 : env[k]? = some (some (.list ds)))
    (hv : σ[k]? = some (some (.ref a))) (ha : H a = some (.lst xs)) (rG : RepL K H ds xs G) (eF : Fs k = a :: G) (hf : flatL ds = true) (r' : RepL K H ds' xs' []) :
    Slots K (env.set k (some (.list ds'))) σ (upd H a (.lst xs')) (updF Fs k [a]) ∧ Owns O (updF Fs k [a]) ∧ Fr (own O Fs) H0 (own O (updF Fs k [a])) (upd H a (.lst xs')) := by
  obtain rfl := RepL.flat ds xs G hf rG
  have hlk : k < env.length := (List.getElem?_eq_some_iff.mp e0).1
  refine mutd (O := O) (d' := .list ds') (F' := [a]) (ch := fun b => b = a) hs0 s0 ho hk hlk hv (fun b z => by rw [z, eF]; exact List.mem_cons_self) upd_keep (upd_dom ⟨_, ha⟩) ?_ (by simp) (fun b hb => .inl (by rw [eF]; exact hb))
  exact ⟨a, xs', [], rfl, upd_same, RepL.keep (own := fun b => b = a) upd_keep (fun b z => z ▸ .inl ⟨xs, ha⟩) ds' xs' [] (fun _ z => (nomatch z)) r', rfl⟩
def sPut (k : Nat) (f fi : Lo → Res PyData) : Lo → Out := fun env => (f env).out env fun d => match slotL k env with
  | some ds => (fi env).out env fun i => match putAt ds i d with
    | some ds' => if flatL ds && flat d then .nx (env.set k (some (.list ds'))) else .bad
    | none => .bad
  | none => .bad
theorem vs_put (k : Nat) {x : Str} {p1 p2 : Pos} (h : VE X C A e f) (hi : VE X C B i fi) (hO : k ∈ O := by decide) (hN : X.N[k]? = some x := by rfl) (hv : Vis X.env.scope x := by first | exact Or.inl rfl | exact Or.inr (Or.inl rfl) | exact Or.inr (Or.inr rfl)) (hd : (x == ("__debug__" : Str)) = false := by decide)
    (hcd : (x == ("__classdict__" : Str)) = false := by decide)
    (has : ∀ v, assign (.Subscript (.Name x p1) i p2) X.env v = (do
      let ov ← holding [v] (eval (.Name x p1) X.env)
      let iv ← holding [v, ov] (eval i X.env)
      standAt p2
      holding [v, ov, iv] (setItem ov iv v)
      release [v, ov, iv] []) := by intro _; rfl)
    (hs : swapsWithSole [.Subscript (.Name x p1) i p2] e pos.line X.env = pure false := by rfl) (hw : swappedStores [.Subscript (.Name x p1) i p2] e X.env = pure none := by rfl)
    (h1 : (assignEach [.Subscript (.Name x p1) i p2] X.env).map (·.2) = [assign (.Subscript (.Name x p1) i p2) X.env] := by rfl) :
    VS X C O O (.Assign [.Subscript (.Name x p1) i p2] e pos) (sPut k f fi) :=
  PSimp (ps_asg h (pg_sub (pv k hN hv hd hcd) hi set_list has) hs hw h1) fun D σ H ⟨env, Fs, hs, ho, h⟩ => by
  refine ⟨env, Fs, hs, post_mono (out_post hs h) (fun d _ h1 v H1 F g1 => ?_) fun _ _ h => h⟩
  split at h1
  · rename_i ds e0
    have e0 := slotL_of e0
    obtain ⟨w, hw, r⟩ := hs.rep k _ e0
    obtain ⟨a, xs, G, rfl, ha, rG, eF⟩ := r
    have hs1 := hs.mono g1.same
    have fr1 : Fr (own O Fs) H (own O Fs) H1 := fr_same g1.same
    refine ⟨_, hw, env, Fs, hs1, post_mono (out_post hs1 (postS_fr fr1 h1)) (fun iv _ h2 y H2 F2 g2 => ?_) fun _ _ h => h⟩
    split at h2
    · rename_i ds' hput
      split at h2
      · rename_i hfl
        rw [Bool.and_eq_true] at hfl
        unfold putAt at hput
        split at hput
        · rename_i n _
          cases hj : ixN ds.length n with
          | none => rw [hj] at hput; cases hput
          | some j =>
            rw [hj] at hput
            cases hput
            have ry := g2.rep
            obtain ⟨rfl, rfl⟩ := ry
            have s2 := g1.same.trans g2.same
            have hF : F = [] := Rep.flat d v F hfl.2 g1.rep
            subst hF
            have rv := g1.rep.mono g2.same
            refine ⟨a, xs, n, j, rfl, rfl, s2 _ _ ha, by rw [rG.length]; exact hj, ?_⟩
            obtain ⟨m1, m2, m3⟩ := relist (O := O) hs1 g2.same ho hO e0 hw (s2 _ _ ha) (rG.mono s2) eF hfl.1 (ds' := ds.set j d) (xs' := xs.set j v) (by
              have := repl_setFlat rv j hfl.1 (rG.mono s2)
              rwa [RepL.flat ds xs G hfl.1 rG] at this)
            exact h2 σ _ _ m1 m2 m3
        · cases hput
      · exact h2.elim
    · exact h2.elim
  · exact h1.elim
end
end PV

set_option Elab.async false
set_option linter.all false
set_option maxRecDepth 100000
namespace PV
open PySem PySem.Spec L2
open PyProof.Rows hiding St
/-! ### comprehensions -/
def wipeL (env : Lo) : List Nat → Lo
  | [] => env
  | v :: vs => (wipeL env vs).set v none
theorem wipeL_length (env : Lo) : ∀ vs, (wipeL env vs).length = env.length
  | [] => rfl
  | v :: vs => by unfold wipeL; rw [List.length_set, wipeL_length env vs]
theorem Slots.wipe {K : PySem.W.Frag} {env : Lo} {σ : St} {H : Hp} {Fs : Nat → List Addr} (h : Slots K env σ H Fs) : ∀ vs : List Nat, ∃ Fs', Slots K (wipeL env vs) (L2.wipe σ vs) H Fs'
  | [] => ⟨Fs, h⟩
  | v :: vs => by
    obtain ⟨Fs', h'⟩ := Slots.wipe h vs
    refine ⟨updF Fs' v [], ?_⟩
    show Slots K ((wipeL env vs).set v none) ((L2.wipe σ vs).set v none) H _
    refine ⟨by simp [h'.len], fun k d e => ?_, fun k n => ?_⟩
    · by_cases hk : k = v
      · subst hk
        by_cases hl : k < (wipeL env vs).length
        · rw [List.getElem?_set_self hl] at e; cases e
        · rw [List.getElem?_eq_none (by simp; omega)] at e; cases e
      · rw [List.getElem?_set_ne (Ne.symm hk)] at e
        rw [updF_ne hk, List.getElem?_set_ne (Ne.symm hk)]
        exact h'.rep k d e
    · by_cases hk : k = v
      · subst hk; exact updF_same
      · rw [updF_ne hk]
        exact h'.non k fun d e => n d (by rw [List.getElem?_set_ne (Ne.symm hk)]; exact e)
theorem setAll_length : ∀ (l : List (Nat × V)) (σ : St), (setAll σ l).length = σ.length
  | [], _ => rfl
  | p :: l, σ => by
    show (setAll (σ.set p.1 (some p.2)) l).length = _
    rw [setAll_length l, List.length_set]
theorem setAll_ne : ∀ (l : List (Nat × V)) (σ : St) (i : Nat), (∀ p ∈ l, p.1 ≠ i) → (setAll σ l)[i]? = σ[i]?
  | [], _, _, _ => rfl
  | p :: l, σ, i, h => by
    show (setAll (σ.set p.1 (some p.2)) l)[i]? = _
    rw [setAll_ne l _ i fun q hq => h q (List.mem_cons_of_mem _ hq), List.getElem?_set_ne (h p List.mem_cons_self)]
theorem wipe_in : ∀ {vs : List Nat} {σ : St} {i : Nat}, i ∈ vs → i < σ.length → (L2.wipe σ vs)[i]? = some none
  | v :: vs, σ, i, h, hl => by
    unfold L2.wipe
    by_cases e : v = i
    · subst e
      rw [List.getElem?_set_self (by rw [wipe_length]; exact hl)]
    · rw [List.getElem?_set_ne e]
      exact wipe_in ((List.mem_cons.mp h).resolve_left fun z => e z.symm) hl
theorem wipe_setAll {σ : St} {vs : List Nat} {l : List (Nat × V)} (h : ∀ p ∈ l, p.1 ∈ vs) : L2.wipe (setAll (L2.wipe σ vs) l) vs = L2.wipe σ vs := by
  apply List.ext_getElem?
  intro i
  by_cases hi : i ∈ vs
  · by_cases hl : i < σ.length
    · rw [wipe_in hi (by rw [setAll_length, wipe_length]; exact hl), wipe_in hi hl]
    · rw [List.getElem?_eq_none (by rw [wipe_length, setAll_length, wipe_length]; omega), List.getElem?_eq_none (by rw [wipe_length]; omega)]
  · rw [wipe_out hi, setAll_ne l _ i fun p hp e => hi (e ▸ h p hp)]
/-- within a comprehension nothing may be raised -/
def C0 (C : Cc) : Cc := ⟨C.ec, fun _ _ _ _ => False⟩
def compD (tgt : PyData → Lo → Option Lo) (t : Lo → Res Bool) (el : Lo → Res PyData) (env0 : Lo) : List PyData → Res (List PyData)
  | [] => .ok []
  | d :: ds => match tgt d env0 with
    | none => .bad
    | some env1 => match t env1 with
      | .ok true => match el env1 with
        | .ok y => (compD tgt t el env0 ds).bind fun ys => .ok (y :: ys)
        | _ => .bad
      | .ok false => compD tgt t el env0 ds
      | _ => .bad
def tTrue : Lo → Res Bool := fun _ => .ok true
/-- the list of a comprehension; own: the slots of its names -/
def eComp (src : Lo → Res (List PyData)) (tgt : PyData → Lo → Option Lo) (own : List Nat) (t : Lo → Res Bool) (el : Lo → Res PyData) : Lo → Res PyData := fun env => (src env).bind fun ds => (compD tgt t el (wipeL env own) ds).bind fun ys => if ys.length ≤ 100000 then .ok (.list ys) else .bad
theorem compD_noexc {tgt : PyData → Lo → Option Lo} {t : Lo → Res Bool} {el : Lo → Res PyData} {env0 : Lo} : ∀ ds c x, compD tgt t el env0 ds ≠ .exc c x
  | [], _, _ => fun h => by simp [compD] at h
  | d :: ds, c, x => fun h => by
    unfold compD at h
    split at h
    · cases h
    · split at h
      · split at h
        · cases e : compD tgt t el env0 ds with
          | ok ys => rw [e] at h; cases h
          | bad => rw [e] at h; cases h
          | exc c' x' => exact compD_noexc ds c' x' e
        · cases h
      · exact compD_noexc ds c x h
      · cases h
theorem tg_name {X : Cx} (i : Nat) : TgOk false X (gName i) (tName i) [i] := fun d x G env σ H Fs Q env1 hs it e k => by
  unfold tName at e
  split at e
  · rename_i hl
    cases e
    rcases it with r | ⟨z, _⟩
    · refine k _ _ (hs.set hl r) (fun j hj => updF_ne fun e => hj (by simp [e])) (fun j hj a ha => ?_) ⟨[(i, x)], rfl, fun p hp => by simp at hp; simp [hp]⟩
      have : j = i := by simpa using hj
      subst this
      rw [updF_same] at ha
      exact ha
    · exact nomatch z
  · cases e
theorem gdB {X : Cx} {s : Shared} {H : Hp} {scope : Scope} {cenv : Env} {fp : List Addr} (g : Gd X) : Gd (X.blk s H scope cenv fp) := ⟨g.calm, g.hu, g.nd⟩
theorem gd_mk {X : Cx} {k : Nat} (r : Room k X.A) (n : X.N.Nodup) (c : X.calm = true := by rfl) : Gd X := ⟨c, by have := r.un; omega, n⟩
abbrev VTs (X : Cx) (C : Cc) (ifs : List Expr) (t : Lo → Res Bool) : Prop := PTs X ifs (tvt X.K C t)
section
variable {X : Cx} {C : Cc}
theorem vts_nil : VTs X C [] tTrue := ⟨fun pins s σ H Q I ⟨env, Fs, hs, h⟩ => pts_nil.run pins s σ H Q I (h H (Same.refl H))⟩
theorem vts_one {c : Expr} {t : Lo → Res Bool} (h : VT X C c t) : VTs X C [c] t := pts_one h
/-- what is made so far, and what is left -/
structure CompSt (K : PySem.W.Frag) (H1 : Hp) (L : Addr) (ys : List PyData) (H : Hp) : Prop where
  ex : ∃ acc G, H L = some (.lst acc) ∧ RepL K H ys acc G ∧ G.Nodup ∧ L ∉ G ∧ ∀ a ∈ G, H1 a = none
  keep : ∀ a o, H1 a = some o → H a = some o
theorem comp_reads {J : It} {g : TG} {tgt : PyData → Lo → Option Lo} {ks own : List Nat} {t : Lo → Res Bool} {el : Lo → Res PyData} {ds : List PyData} {G0 : List Addr} {σ : St} {H H1 : Hp} {env : Lo} {Fs : Nat → List Addr} {L : Addr} {Qd : Hp → Prop} {pr : Bool}
    (tg : TgOk pr X g tgt ks) (hks : ∀ k ∈ ks, k ∈ own) (hs : Slots X.K env σ H Fs) (s1 : Same H H1) (J1 : ItOk pr X.K J ds G0 H1) (nL : H1 L = none) {zs : List PyData} (hz : compD tgt t el (wipeL env own) ds = .ok zs) (hlen : zs.length ≤ 100000)
    (fin : ∀ acc G H2, H2 L = some (.lst acc) → RepL X.K H2 zs acc G → G.Nodup → L ∉ G → (∀ a ∈ G, H1 a = none) → (∀ a o, H1 a = some o → H2 a = some o) → Qd H2) :
    ∃ W : Nat → Nat → Hp → Prop, (∃ m, W 0 m (upd H1 L (.lst []))) ∧ ∀ i m H, W i m H → (J.stop i H ∧ Qd H) ∨ (J.go i H ∧ ∃ Nx : Hp → Prop, (∀ H', Nx H' → ∃ m', m' < m ∧ W (i + 1) m' H') ∧ ∀ x H', J.yld i H x H' → g x (L2.wipe σ own) H' fun σ2 H2 => L2.wipe σ2 own = L2.wipe σ own ∧
      tvt X.K (C0 C) t σ2 H2 fun b H3 => if b = true then tv X.K (C0 C) [] el σ2 H3 fun y H4 => ∃ acc, H4 L = some (.lst acc) ∧ acc.length < sizeLine ∧ Nx (upd H4 L (.lst (acc ++ [y]))) else Nx H3) := by
  -- the part made by the turns so far
  refine ⟨fun i m H2 => m = ds.length - i ∧ ∃ ys rest, zs = ys ++ rest ∧ CompSt X.K H1 L ys H2 ∧ compD tgt t el (wipeL env own) (ds.drop i) = .ok rest, ⟨ds.length, by simp, [], zs, rfl, ⟨⟨[], [], upd_same, ⟨rfl, rfl⟩, List.nodup_nil, by simp, fun _ z => nomatch z⟩, same_upd nL⟩, by rw [List.drop_zero]; exact hz⟩, ?_⟩
  rintro i m H2 ⟨rfl, ys, rest, hzs, st, hr⟩
  have hJ := J1 (fun _ => False) (fun _ z => z.elim) (fun _ _ z => z) H2 (fun a o e _ => st.keep a o e) i
  by_cases hi : i < ds.length
  · have hd : ds[i]? = some ds[i] := List.getElem?_eq_getElem hi
    have hdrop : ds.drop i = ds[i] :: ds.drop (i + 1) := (List.getElem_cons_drop (h := hi)).symm
    rw [hdrop] at hr
    obtain ⟨go, yl⟩ := hJ.2 _ hd
    refine .inr ⟨go, fun H' => ∃ ys rest, zs = ys ++ rest ∧ CompSt X.K H1 L ys H' ∧ compD tgt t el (wipeL env own) (ds.drop (i + 1)) = .ok rest, fun H' n => ⟨ds.length - (i + 1), by omega, rfl, n⟩, fun x H3 y => ?_⟩
    obtain ⟨s3, Gi, it, _⟩ := yl x H3 y
    obtain ⟨Fsw, hw⟩ := hs.wipe own
    have s23 : Same H H2 := s1.trans st.keep
    have hw3 := hw.mono (s23.trans s3)
    unfold compD at hr
    split at hr
    · cases hr
    · rename_i env1 e1
      refine tg ds[i] x Gi _ _ H3 Fsw _ env1 hw3 it e1 fun σ2 Fs2 hs2 _ _ ⟨l, el1, el2⟩ => ⟨by rw [el1]; exact wipe_setAll fun p hp => hks _ (el2 p hp), ?_⟩
      have st3 : CompSt X.K H1 L ys H3 := by
        obtain ⟨⟨acc, G, h1, h2, h3, h4, h5⟩, k⟩ := st
        exact ⟨⟨acc, G, s3 _ _ h1, h2.mono s3, h3, h4, h5⟩, fun a o e => s3 _ _ (k a o e)⟩
      split at hr
      · rename_i et
        split at hr
        · rename_i yv ev
          cases er : compD tgt t el (wipeL env own) (ds.drop (i + 1)) with
          | bad => rw [er] at hr; cases hr
          | exc c x => rw [er] at hr; cases hr
          | ok rest' =>
            rw [er] at hr
            cases hr
            refine ⟨env1, Fs2, hs2, ?_⟩
            rw [et]
            intro H4 s4
            rw [if_pos rfl]
            refine ⟨env1, Fs2, hs2.mono s4, ?_⟩
            rw [ev]
            intro v H5 F g5
            obtain ⟨⟨acc, G, h1, h2, h3, h4, h5⟩, k⟩ := st3
            have s35 := s4.trans g5.same
            have hlen' : acc.length < sizeLine := by
              rw [h2.length, sizeLine_eq]
              have : ys.length ≤ zs.length := by rw [hzs]; simp
              omega
            have hL5 : H5 L = some (.lst acc) := s35 _ _ h1
            have muL : Mu H5 L := .inl ⟨acc, hL5⟩
            have LF : L ∉ F := fun z => by
              have := (g5.mu0 L z).1
              rw [s4 _ _ h1] at this; cases this
            refine ⟨acc, hL5, hlen', ys ++ [yv], rest', by rw [hzs]; simp, ⟨⟨acc ++ [v], G ++ F, upd_same, ?_, ?_, ?_, ?_⟩, fun a o e => ?_⟩, rfl⟩
            · refine RepL.append ?_ (.one ?_)
              · exact RepL.keep (own := fun b => b = L) upd_keep (fun b z => z ▸ muL) ys acc G (fun b hb z => h4 (z ▸ hb)) (h2.mono s35)
              · exact Rep.keep (own := fun b => b = L) upd_keep (fun b z => z ▸ muL) yv v F (fun b hb z => LF (z ▸ hb)) g5.rep
            · refine List.nodup_append.mpr ⟨h3, g5.nd (by simp) fun _ z => by simp at z, fun a ha b hb e => ?_⟩
              subst e
              exact ((RepL.mu ys acc G (h2.mono s4) a ha)).notnone (g5.mu0 a hb).1
            · exact fun z => (List.mem_append.mp z).elim h4 LF
            · intro a ha
              rcases List.mem_append.mp ha with ha | ha
              · exact h5 a ha
              · have := (g5.mu0 a ha).1
                cases q : H1 a with
                | none => rfl
                | some o => rw [s4 _ _ (k a o q)] at this; cases this
            · have : a ≠ L := fun z => by rw [z, nL] at e; cases e
              rw [upd_ne this]
              exact s35 _ _ (k a o e)
        · cases hr
      · rename_i et
        refine ⟨env1, Fs2, hs2, ?_⟩
        rw [et]
        intro H4 s4
        rw [if_neg Bool.false_ne_true]
        refine ⟨ys, rest, hzs, ?_, hr⟩
        obtain ⟨⟨acc, G, h1, h2, h3, h4, h5⟩, k⟩ := st3
        exact ⟨⟨acc, G, s4 _ _ h1, h2.mono s4, h3, h4, h5⟩, fun a o e => s4 _ _ (k a o e)⟩
      · cases hr
  · refine .inl ⟨hJ.1 (by omega), ?_⟩
    rw [List.drop_of_length_le (by omega)] at hr
    simp only [compD] at hr
    cases hr
    rw [List.append_nil] at hzs
    subst hzs
    obtain ⟨⟨acc, G, h1, h2, h3, h4, h5⟩, k⟩ := st
    exact fin acc G H2 h1 h2 h3 h4 h5 k
theorem comp_tail {pr : Bool} {A : List Nat} {src : Lo → Res (List PyData)} {g : TG} {tgt : PyData → Lo → Option Lo} {ks own : List Nat} {t : Lo → Res Bool} {el : Lo → Res PyData} {σ : St} {H : Hp} {Q : VK} {X' : Cx}
    (tg : TgOk pr X g tgt ks) (hks : ∀ k ∈ ks, k ∈ own) (h : tv X.K C [] (eComp src tgt own t el) σ H Q) : tLc (tvi pr X.K C A src) g (tvt X.K (C0 C) t) (tv X.K (C0 C) [] el) own σ H Q := by
  obtain ⟨env, Fs, hs, h⟩ := h
  refine ⟨env, Fs, hs, post_mono (post_bind h) (fun ds _ h1 J H1 G0 s1 _ J1 L nL => ?_) fun _ _ h => h⟩
  cases e : compD tgt t el (wipeL env own) ds with
  | bad => rw [e] at h1; exact h1.elim
  | exc c x => exact (compD_noexc ds c x e).elim
  | ok zs =>
    rw [e] at h1
    have h1 : (if zs.length ≤ 100000 then Res.ok (PyData.list zs) else Res.bad).post _ _ := h1
    by_cases hl : zs.length ≤ 100000
    · rw [if_pos hl] at h1
      refine comp_reads tg hks hs s1 J1 nL e hl fun acc G H2 k1 k2 k3 k4 k5 k6 => h1 (.ref L) H2 (L :: G) ⟨⟨L, acc, G, rfl, k1, k2, rfl⟩, s1.trans k6, fun a ha => ?_, fun _ _ => List.nodup_cons.mpr ⟨k4, k3⟩⟩
      rcases List.mem_cons.mp ha with rfl | ha
      · exact .inl ⟨s1.free nL, .inl ⟨acc, k1⟩⟩
      · exact .inl ⟨s1.free (k5 a ha), RepL.mu zs acc G k2 a ha⟩
    · rw [if_neg hl] at h1
      exact h1.elim
theorem ve_comp {pr : Bool} {elt tg iter : Expr} {ifs : List Expr} {scope : Scope} {own : List (Str × Nat)} {pos : Pos} {A : List Nat} {src : Lo → Res (List PyData)} {tgt : PyData → Lo → Option Lo} {ks : List Nat} {t : Lo → Res Bool} {el : Lo → Res PyData} {g : TG} (gd : Gd X) (hi : VI pr X C A tg iter src)
    (ok : BlkOk X.N X.env.scope scope own) (hg : ∀ (s : Shared) (H : Hp) (C' : Addr) (cl : List (Str × Addr)) (fp : List Addr), PG (X.blk s H scope (compEnvC scope cl C' X.env) fp) tg g) (tgok : TgOk pr X g tgt ks) (hks : ∀ k ∈ ks, k ∈ own.map (·.2))
    (ht : ∀ (s : Shared) (H : Hp) (C' : Addr) (cl : List (Str × Addr)) (fp : List Addr), VTs (X.blk s H scope (compEnvC scope cl C' X.env) fp) (C0 C) ifs t)
    (he : ∀ (s : Shared) (H : Hp) (C' : Addr) (cl : List (Str × Addr)) (fp : List Addr), VE (X.blk s H scope (compEnvC scope cl C' X.env) fp) (C0 C) [] elt el) (hs : ∀ x, foldedSetIterable iter X.env x = pure x := by intro _; rfl) :
    VE X C [] (.ListComp elt [⟨tg, iter, ifs, 0⟩] scope pos) (eComp src tgt (own.map (·.2)) t el) :=
  (pe_lc (own := own) gd.calm gd.nd hi ok hg ht he hs).imp fun σ H Q h => comp_tail (X' := X) tgok hks h
/-- x = [..] -/
theorem vs_setComp {pr : Bool} {i : Nat} {y : Str} {py : Pos} {elt tg iter : Expr} {ifs : List Expr} {scope : Scope} {own : List (Str × Nat)} {pos spos : Pos} {A O O' : List Nat} {src : Lo → Res (List PyData)} {tgt : PyData → Lo → Option Lo} {ks : List Nat} {t : Lo → Res Bool} {el : Lo → Res PyData} {g : TG} (gd : Gd X) (hi : VI pr X C A tg iter src)
    (ok : BlkOk X.N X.env.scope scope own) (hg : ∀ (s : Shared) (H : Hp) (C' : Addr) (cl : List (Str × Addr)) (fp : List Addr), PG (X.blk s H scope (compEnvC scope cl C' X.env) fp) tg g) (tgok : TgOk pr X g tgt ks) (hks : ∀ k ∈ ks, k ∈ own.map (·.2))
    (ht : ∀ (s : Shared) (H : Hp) (C' : Addr) (cl : List (Str × Addr)) (fp : List Addr), VTs (X.blk s H scope (compEnvC scope cl C' X.env) fp) (C0 C) ifs t)
    (he : ∀ (s : Shared) (H : Hp) (C' : Addr) (cl : List (Str × Addr)) (fp : List Addr), VE (X.blk s H scope (compEnvC scope cl C' X.env) fp) (C0 C) [] elt el) (hy : X.N[i]? = some y) (hyl : X.env.scope.names.lookup y = some .local)
    (hsw : swapsWith (.ListComp elt [⟨tg, iter, ifs, 0⟩] scope pos) (some (.Name y py)) spos.line X.env = pure true) (okS : okSet O O' [] i = true := by decide) (hs : ∀ x, foldedSetIterable iter X.env x = pure x := by intro _; rfl) :
    VS X C O O' (.Assign [.Name y py] (.ListComp elt [⟨tg, iter, ifs, 0⟩] scope pos) spos) (sSet i (eComp src tgt (own.map (·.2)) t el)) := by
  refine PSimp (ps_setLc (own := own) (tt := tvt X.K (C0 C) t) (te := tv X.K (C0 C) [] el) gd.calm gd.nd hy hyl hsw hi ok hg ht he hs) fun D σ H ⟨env, Fs, hs, ho, h⟩ => ?_
  refine comp_tail (X' := X) tgok hks ⟨env, Fs, hs, post_mono (out_post hs h) (fun d _ h1 v H1 F g1 => ?_) fun _ _ h => h⟩
  by_cases hl : i < env.length
  · rw [if_pos hl] at h1
    obtain ⟨o1, o2⟩ := owns_set hs ho g1 okS
    exact h1 _ H1 _ ((hs.mono g1.same).set hl g1.rep) o1 o2
  · rw [if_neg hl] at h1
    exact h1.elim
end
end PV

set_option Elab.async false
set_option linter.all false
set_option maxRecDepth 100000
namespace PV
open PySem PySem.Spec L2
open PyProof.Rows hiding St
/-! ### a def of the text, from its body -/
def mkFn (n m : Nat) (g : Lo → Out) : List PyData → Res PyData := fun ds => if ds.length = n then match g (ds.map some ++ List.replicate (m - n) none) with
    | .nx _ => .ok .none
    | .rt d => .ok d
    | .ex _ c x => .exc c x
    | _ => .bad
  else .bad
theorem repl_fs {K : PySem.W.Frag} {H : Hp} : ∀ {ds : List PyData} {vs : List V} {G : List Addr}, RepL K H ds vs G → ∃ Fs : Nat → List Addr, (∀ i d, ds[i]? = some d → ∃ v, vs[i]? = some v ∧ Rep K H d v (Fs i)) ∧ ∀ i, ds.length ≤ i → Fs i = []
  | [], _, _, h => ⟨fun _ => [], fun i d e => by simp at e, fun _ _ => rfl⟩
  | d :: ds, _, _, h => by
    obtain ⟨x, ys, F1, F2, rfl, r1, r2, rfl⟩ := h
    obtain ⟨Fs, h1, h2⟩ := repl_fs r2
    refine ⟨fun i => match i with | 0 => F1 | i + 1 => Fs i, fun i e he => ?_, fun i hi => ?_⟩
    · cases i with
      | zero => simp at he; subst he; exact ⟨x, rfl, r1⟩
      | succ i =>
        obtain ⟨v, q, r⟩ := h1 i e (by simpa using he)
        exact ⟨v, by simpa using q, r⟩
    · cases i with
      | zero => simp at hi
      | succ i => exact h2 i (by simpa using hi)
theorem slots_start {K : PySem.W.Frag} {H : Hp} {ds : List PyData} {vs : List V} {G : List Addr} (h : RepL K H ds vs G) (N : List Str) : ∃ Fs, Slots K (ds.map some ++ List.replicate (N.length - ds.length) none) (L2.start N vs) H Fs := by
  obtain ⟨Fs, h1, h2⟩ := repl_fs h
  have hl := h.length
  have key : ∀ i d, (ds.map some ++ List.replicate (N.length - ds.length) (none : Option PyData))[i]? = some (some d) → ds[i]? = some d := fun i d e => by
    by_cases hi : i < ds.length
    · rw [List.getElem?_append_left (by simpa using hi), List.getElem?_map] at e
      cases q : ds[i]? with
      | none => rw [q] at e; cases e
      | some d' => rw [q] at e; cases e; rfl
    · rw [List.getElem?_append_right (by simpa using hi), List.getElem?_replicate] at e
      split at e <;> cases e
  refine ⟨Fs, ⟨by unfold L2.start; simp [hl], fun i d e => ?_, fun i n => ?_⟩⟩
  · have e' := key i d e
    obtain ⟨v, q, r⟩ := h1 i d e'
    refine ⟨v, ?_, r⟩
    unfold L2.start
    have hi : i < vs.length := (List.getElem?_eq_some_iff.mp q).1
    rw [List.getElem?_append_left (by simpa using hi), List.getElem?_map, q]
    rfl
  · by_cases hi : i < ds.length
    · exfalso
      refine n ds[i] ?_
      rw [List.getElem?_append_left (by simpa using hi), List.getElem?_map, List.getElem?_eq_getElem hi]
      rfl
    · exact h2 i (by omega)
section
variable {P : Program} {w : World} {K : PySem.W.Frag} {mg : Str → Option Value} {base : Heap} {ec : Nat → Addr}
theorem fn_v {x qual : Str} {st : Stmt} {f : Addr} {fd : FuncData} {N ps : List Str} {k n m : Nat} {g : Lo → Out} {O' : List Nat} (F : Fun K x qual st f fd) (S : FnScope N ps (defScope st)) (hn : ps.length = n) (hm : N.length = m)
    (hb : ∀ (cdv : Value) (A : Around) (outer : List Env) (s : Shared) (H : Hp) (E : XK), Room k (A.deeper (envOfC qual (defScope st) s.heap.objs.size f cdv)) →
      VB (cxOf (L2.CX P w) P w K mg base N qual (defScope st) f cdv A outer s H E) ⟨ec, fun cls d _ H => E cls d H⟩ [] O' (defBody st) g) :
    FnOk P w K mg base (L2.CX P w) (k + 1) f fd ps (spV K ec (mkFn n m g)) := by
  subst hn hm
  refine F.okX S (fun vs H Q E h => ?_) (fun cdv A outer s H vs Q E hr h => ?_)
  · obtain ⟨ds, G, r, h⟩ := h
    unfold mkFn at h
    split at h
    · rename_i hl
      rw [r.length, hl]
    · exact h.elim
  · obtain ⟨ds, G, r, h⟩ := h
    refine ⟨_, hb cdv A outer s H E hr, ?_⟩
    obtain ⟨Fs, hs⟩ := slots_start r N
    refine ⟨_, Fs, hs, owns_none, ?_⟩
    unfold mkFn at h
    split at h
    · rename_i hl
      rw [hl]
      cases e : g (ds.map some ++ List.replicate (N.length - ps.length) none) with
      | nx env' =>
        rw [e] at h
        exact fun σ' H' Fs' _ _ fr => h .non H' [] ⟨rfl, rfl⟩ (fun a o q => fr.keep a o q fun ⟨_, z, _⟩ => nomatch z) List.nodup_nil fun _ z => nomatch z
      | rt d =>
        rw [e] at h
        exact fun v H' F r nd fr => h v H' F r (fun a o q => fr.keep a o q fun ⟨_, z, _⟩ => nomatch z) nd fun a ha => ⟨(fr.src a ha).elim (fun ⟨_, z, _⟩ => nomatch z) id, Rep.mu d v F r a ha⟩
      | ct env' => rw [e] at h; exact h.elim
      | ex env' c x =>
        rw [e] at h
        exact fun σ' H' Fs' dx _ fr ex => h H' dx (fun a o q => fr.keep a o q fun ⟨_, z, _⟩ => nomatch z) ex
      | bad => rw [e] at h; exact h.elim
    · exact h.elim
theorem dn_v {x qual : Str} {st : Stmt} {f : Addr} {fd : FuncData} {ps : List Str} {k : Nat} {fn : List PyData → Res PyData} (F : Fun K x qual st f fd) (h : FnOk P w K mg base (L2.CX P w) k f fd ps (spV K ec fn)) (hm : mg x = some (.ref f)) (hb : Binds K fd ps []) : Dn P w K mg base ec k x fn :=
  ⟨f, fd, ps, h, hm, F.kp, hb⟩
end
section
variable {X : Cx} {C : Cc} {e a b c : Expr} {es rest : List Expr} {pos : Pos} {A B O O' : List Nat} {fa fb fc f : Lo → Res PyData} {fs : Lo → Res (List PyData)}
/-! ### targets of an assignment that are more than a name -/
def sAsgT (tgt : PyData → Lo → Option Lo) (f : Lo → Res PyData) : Lo → Out := fun env => (f env).out env fun d => match tgt d env with
  | some env1 => .nx env1
  | none => .bad
theorem vs_asgT {tg : Expr} {tgt : PyData → Lo → Option Lo} {ks : List Nat} {pr : Bool} (he : VE X C A e f) (hg : VG pr X tg tgt ks) (ok : okFor O O' A ks = true := by decide) (hs : swapsWithSole [tg] e pos.line X.env = pure false := by rfl) (hw : swappedStores [tg] e X.env = pure none := by rfl)
    (h1 : (assignEach [tg] X.env).map (·.2) = [assign tg X.env] := by rfl) : VS X C O O' (.Assign [tg] e pos) (sAsgT tgt f) := by
  obtain ⟨g, pg, tgok⟩ := hg.ex
  refine PSimp (ps_asg he pg hs hw h1) fun D σ H ⟨env, Fs, hs, ho, h⟩ => ?_
  have ok' := okFor_of ok
  refine ⟨env, Fs, hs, post_mono (out_post hs h) (fun d _ h1 v H1 F g1 => ?_) fun _ _ h => h⟩
  split at h1
  · rename_i env1 e1
    refine tgok d v F env σ H1 Fs _ env1 (hs.mono g1.same) (.inl g1.rep) e1 fun σ2 Fs2 hs2 k1 k2 _ => ?_
    have ap : ∀ i ∈ O', ∀ a ∈ Fs i, a ∉ F := fun i hi a ha hF => by
      rcases g1.src a hF with ⟨n, _⟩ | z
      · exact (hs.old i a ha).notnone n
      · obtain ⟨j, hj, z⟩ := List.mem_flatMap.mp z
        exact ho.dj i (ok' i hi).1 j (fun e => (ok' i hi).2.1 (e ▸ hj)) a ha z
    refine h1 σ2 H1 Fs2 hs2 ⟨fun i hi => ?_, fun i hi j hj a ha => ?_⟩ (.same g1.same fun a ⟨i, hi, z⟩ => .inl ⟨i, (ok' i hi).1, ?_⟩)
    · rw [k1 i (ok' i hi).2.2]; exact ho.nd i (ok' i hi).1
    · rw [k1 i (ok' i hi).2.2] at ha
      by_cases hjk : j ∈ ks
      · exact fun z => ap i hi a ha (k2 j hjk a z)
      · rw [k1 j hjk]
        exact ho.dj i (ok' i hi).1 j hj a ha
    · rwa [k1 i (ok' i hi).2.2] at z
  · exact h1.elim
/-! ### raise -/
def sRaise (c : Nat) : Lo → Out := fun env => .ex env c .none
theorem vs_raise {c : Nat} (hc : X.calm = true) (tk : Takes X C.W) (pm : PMk X e (fun _ H Q => Q (.ref (C.ec c)) none H)) (c0 : c ≠ 0 := by decide) : VS X C O O' (.Raise (some e) none pos) (sRaise c) := PSimp (ps_raise hc tk pm) fun D σ H ⟨env, Fs, hs, ho, h⟩ =>
  h σ H Fs none hs (fr_none (Same.refl H)) (by unfold ExAt; rw [if_neg c0])
/-! ### isinstance of a built-in class -/
def isLs : List (PyData × PyData) → Bool
  | [(.none, .list _)] => true
  | _ => false
theorem isLs_dictK {kvs : List (PyData × PyData)} (h : isLs kvs = true) : dictK kvs = none := by
  unfold isLs at h
  split at h
  · rfl
  · cases h
def tyD : PyData → String
  | .none => "NoneType"
  | .bool _ => "bool"
  | .int _ => "int"
  | .str _ => "str"
  | .list _ => "list"
  | .tuple _ => "tuple"
  | .dict kvs => if isLs kvs then "list" else "dict"
/-- no caught exception -/
def nxc : PyData → Bool
  | .dict ((.bool _, _) :: _) => false
  | _ => true
theorem nxc_ex {H : Hp} {kvs : List (PyData × PyData)} {v : V} (h : ExRep H kvs v) (nx : nxc (.dict kvs) = true) : isLs kvs = true ∧ ∃ a o xs, v = .ref a ∧ H a = some (.frz o (.lst xs)) := by
  obtain ⟨a, e, rfl | ⟨d, x, w, rfl, _⟩ | ⟨rfl, o, xs, h⟩⟩ := h
  · cases nx
  · cases nx
  · exact ⟨rfl, a, o, xs, e, h⟩
theorem rep_ty {K : PySem.W.Frag} {H : Hp} {d : PyData} {v : V} {F : List Addr} (h : Rep K H d v F) (nx : nxc d = true) : TyX K H v (.type (tyD d)) := by
  cases d with
  | none => obtain ⟨rfl, _⟩ := h; exact .base .non
  | bool b => obtain ⟨rfl, _⟩ := h; exact .base (.bl _)
  | int b => obtain ⟨rfl, _⟩ := h; exact .base (.int _)
  | str b => obtain ⟨rfl, _⟩ := h; exact .base (.str _)
  | list b => obtain ⟨_, _, _, rfl, h, _⟩ := h; exact .base (.lst h)
  | tuple b => obtain ⟨_, _, rfl, ⟨o, _, h⟩, _⟩ := h; exact .fTuple h
  | dict b =>
    rcases h with ⟨_, ks, rfl, h1, h, _⟩ | ⟨_, ns, rfl, rfl, h, _⟩ | ⟨hx, _⟩
    · have : isLs b = false := by
        cases e : isLs b with
        | false => rfl
        | true => rw [isLs_dictK e] at h1; cases h1
      simp only [tyD, this]
      exact .base (.dK h)
    · have : isLs (scrP ns) = true := rfl
      simp only [tyD, this]
      rcases h with ⟨o, h⟩ | ⟨o, its, n, h1, h2, _⟩
      · exact .base (.frz h)
      · exact .kList h1 h2
    · obtain ⟨e, a, o, xs, rfl, h⟩ := nxc_ex hx nx
      simp only [tyD, e]
      exact .base (.frz h)
def eIsi (isT : PyData → Bool) (f : Lo → Res PyData) : Lo → Res PyData := fun env => (f env).bind fun d => if nxc d then .ok (.bool (isT d)) else .bad
def isInt : PyData → Bool
  | .int _ => true
  | .bool _ => true
  | _ => false
def isBool : PyData → Bool
  | .bool _ => true
  | _ => false
def isTup : PyData → Bool
  | .tuple _ => true
  | _ => false
def isList : PyData → Bool
  | .list _ => true
  | .dict kvs => isLs kvs
  | _ => false
theorem kit_dict {kvs : List (PyData × PyData)} {T : String} {b1 b2 : Bool} (h1 : kitB "list" T = some b1) (h2 : kitB "dict" T = some b2) : kitB (tyD (.dict kvs)) T = some (if isLs kvs then b1 else b2) := by
  cases e : isLs kvs with
  | false => simp only [tyD, e]; exact h2
  | true => simp only [tyD, e]; exact h1
theorem isi_int : ∀ d, kitB (tyD d) "int" = some (isInt d) := fun d => by
  cases d with
  | dict kvs => exact (kit_dict (b1 := false) (b2 := false) (by decide +kernel) (by decide +kernel)).trans (by simp [isInt])
  | none => simp only [tyD, isInt]; decide +kernel
  | bool b => simp only [tyD, isInt]; decide +kernel
  | int b => simp only [tyD, isInt]; decide +kernel
  | str b => simp only [tyD, isInt]; decide +kernel
  | list b => simp only [tyD, isInt]; decide +kernel
  | tuple b => simp only [tyD, isInt]; decide +kernel
theorem isi_bool : ∀ d, kitB (tyD d) "bool" = some (isBool d) := fun d => by
  cases d with
  | dict kvs => exact (kit_dict (b1 := false) (b2 := false) (by decide +kernel) (by decide +kernel)).trans (by simp [isBool])
  | none => simp only [tyD, isBool]; decide +kernel
  | bool b => simp only [tyD, isBool]; decide +kernel
  | int b => simp only [tyD, isBool]; decide +kernel
  | str b => simp only [tyD, isBool]; decide +kernel
  | list b => simp only [tyD, isBool]; decide +kernel
  | tuple b => simp only [tyD, isBool]; decide +kernel
theorem isi_tuple : ∀ d, kitB (tyD d) "tuple" = some (isTup d) := fun d => by
  cases d with
  | dict kvs => exact (kit_dict (b1 := false) (b2 := false) (by decide +kernel) (by decide +kernel)).trans (by simp [isTup])
  | none => simp only [tyD, isTup]; decide +kernel
  | bool b => simp only [tyD, isTup]; decide +kernel
  | int b => simp only [tyD, isTup]; decide +kernel
  | str b => simp only [tyD, isTup]; decide +kernel
  | list b => simp only [tyD, isTup]; decide +kernel
  | tuple b => simp only [tyD, isTup]; decide +kernel
theorem isi_list : ∀ d, kitB (tyD d) "list" = some (isList d) := fun d => by
  cases d with
  | dict kvs => exact (kit_dict (b1 := true) (b2 := false) (by decide +kernel) (by decide +kernel)).trans (by simp [isList])
  | none => simp only [tyD, isList]; decide +kernel
  | bool b => simp only [tyD, isList]; decide +kernel
  | int b => simp only [tyD, isList]; decide +kernel
  | str b => simp only [tyD, isList]; decide +kernel
  | list b => simp only [tyD, isList]; decide +kernel
  | tuple b => simp only [tyD, isList]; decide +kernel
theorem isi_str : ∀ d, kitB (tyD d) "str" = some (isStr d) := fun d => by
  cases d with
  | dict kvs => exact (kit_dict (b1 := false) (b2 := false) (by decide +kernel) (by decide +kernel)).trans (by simp [isStr])
  | none => simp only [tyD, isStr]; decide +kernel
  | bool b => simp only [tyD, isStr]; decide +kernel
  | int b => simp only [tyD, isStr]; decide +kernel
  | str b => simp only [tyD, isStr]; decide +kernel
  | list b => simp only [tyD, isStr]; decide +kernel
  | tuple b => simp only [tyD, isStr]; decide +kernel
theorem ve_isi {T : String} {Tn : Str} {p p2 : Pos} {isT : PyData → Bool} (hk : ∀ d, kitB (tyD d) T = some (isT d)) (hg : Gl X "isinstance") (hm : X.mg "isinstance" = none) (hg2 : Gl X Tn) (hm2 : X.mg Tn = none) (ha : VE X C A e f)
    (hv2 : bootBuiltins Tn = some (.type T) := by decide +kernel) (hn2 : Tn ≠ "__name__" := by decide) (hd2 : (Tn == ("__debug__" : Str)) = false := by decide)
    (s1 : starEach [e, .Name Tn p2] X.env = (false, eval e X.env) :: starEach [.Name Tn p2] X.env := by rfl) (s2 : starEach [.Name Tn p2] X.env = (false, eval (.Name Tn p2) X.env) :: starEach [] X.env := by rfl) (hpl : (backTo pos (starEach [.Name Tn p2] X.env)).any (·.1) = false := by rfl) :
    VE X C [] (.Call (.Name "isinstance" p) [e, .Name Tn p2] [] pos) (eIsi isT f) :=
  (pe_callB call_isi hg hm (by decide +kernel) (pa_cons ha (pa_cons (pe_bltn (v := .ty T) hg2 hm2 hv2 rfl hn2 hd2) pa_nil s2) s1) (he := s1) (hpl := hpl)).imp fun σ H Q ⟨env, Fs, hs, h⟩ => by
  refine ⟨env, Fs, hs, post_mono (post_bind h) (fun d _ h1 v H1 F g1 => ?_) fun _ _ h => h⟩
  split at h1
  · rename_i nx
    exact ⟨v, .ty T, .type (tyD d), .type T, isT d, rfl, .ty T, rep_ty g1.rep nx, kit_ty (hk d), h1 _ H1 [] (.flat g1.same rep_bool)⟩
  · exact h1.elim
/-! ### s.index(x), s.count(x) -/
def idxD (x : PyData) : List PyData → Option Nat
  | [] => none
  | d :: ds => if PyData.eqv d x then some 0 else (idxD x ds).map (· + 1)
theorem idxD_get {x : PyData} : ∀ {ds : List PyData} {j : Nat}, idxD x ds = some j → ∃ d, ds[j]? = some d ∧ PyData.eqv d x = true ∧ ∀ (m : Nat) (z : PyData), m < j → ds[m]? = some z → PyData.eqv z x = false
  | [], _, h => by cases h
  | d :: ds, j, h => by
    unfold idxD at h
    split at h
    · rename_i e
      cases h
      exact ⟨d, rfl, e, fun m z hm => absurd hm (by omega)⟩
    · rename_i e
      cases q : idxD x ds with
      | none => rw [q] at h; cases h
      | some i =>
        rw [q] at h
        cases h
        obtain ⟨d', h1, h2, h3⟩ := idxD_get q
        refine ⟨d', by simpa using h1, h2, fun m z hm hz => ?_⟩
        cases m with
        | zero => simp at hz; subst hz; simpa using e
        | succ m => exact h3 m z (Nat.lt_of_succ_lt_succ hm) (by simpa using hz)
def seqAtoms : PyData → Option (List PyData)
  | .list ds => if ds.all atom then some ds else none
  | .tuple ds => if ds.all atom then some ds else none
  | _ => none
def dIndex (s x : PyData) : Option PyData := if atom x then (seqAtoms s).bind fun ds => (idxD x ds).map fun j => .int (j : Nat) else none
def dCount (s x : PyData) : Option PyData := if atom x then (seqAtoms s).map fun ds => .int ((ds.countP fun d => PyData.eqv d x : Nat) : Int) else none
/-- a method of a tuple of ours -/
def tBMF (r : V → List V → Hp → VK → Prop) (to : TE) (t : TA) : TE := fun σ H Q => to σ H fun x H1 => (∃ a xs, x = .ref a ∧ FT H1 a xs) ∧ t σ H1 fun xs H2 => r x xs H2 Q
theorem pe_bmF {o : Expr} {name : Str} {id : String} {apos cpos : Pos} {to : TE} {t : TA} {r : V → List V → Hp → VK → Prop} (pa : PlainAttrs "tuple") (slot : Slot "tuple" name id) (hty : typeOf (.builtin id) = pure (.type "method_descriptor")) (hm : MtR X id r) (ho : PE X o to) (ha : PA X (e :: es) t)
    (hbase : attributeBase o name X.env (eval o X.env) = eval o X.env := by rfl)
    (hfew : ((backTo cpos (starEach (e :: es) X.env)).all (fun x => !x.1) && (backToKw cpos (keywordEach [] X.env)).all (fun x => x.1.isSome)
      && decide ((e :: es).length + ([] : List Keyword).length + (if ([] : List Keyword).isEmpty then 0 else 1) < 30)) = true := by rfl)
    (hline : (apos.endLine == cpos.line) = true := by rfl) (hs : starEach (e :: es) X.env = (false, eval e X.env) :: starEach es X.env := by rfl) (hplain : (backTo cpos (starEach es X.env)).any (·.1) = false := by rfl) :
    PE X (.Call (.Attribute o name apos) (e :: es) [] cpos) (tBMF r to t) := by
  refine ⟨fun pins s σ H Q I h => ?_⟩
  refine wpAny_Call_method_late hbase hfew hline rfl (thn (ho.run pins s σ H _ I h) fun v s1 ⟨x, H1, I1, r1, ty, q1⟩ => ?_)
  obtain ⟨a, xs, rfl, ft⟩ := ty
  obtain ⟨ob, od, hH⟩ := ft
  cases r1
  obtain ⟨eo, _, its, _, o', e', hc, _⟩ := (show ObjOk X.prog X.w H1 s1.heap a (.frz ob (.tup xs)) from I1.hok a _ hH)
  have ht : s1.TypeIs (.ref a) "tuple" := ⟨o', e', hc⟩
  refine ⟨"tuple", id, pa, slot, hty, ht, fun b eb => by cases eb; exact ⟨ob, eo, od⟩, ?_⟩
  have hA := ha.run cpos pins s1 σ H1 _ I1 q1
  rw [hs] at hA ⊢
  refine Calls.callWith_builtin (by show (false || (backTo cpos (starEach es X.env)).any (·.1)) = false; rw [hplain] <;> rfl) (Calls.evalArgs_plain ?_)
  exact thn hA fun us s2 ⟨vs, H2, I2, r2, q2⟩ => hm pins s2 σ H2 (V.ref a) vs (Value.ref a) us Q I2 rfl r2 q2
/-- t.index(y) of flat items -/
def rIndexT (K : PySem.W.Frag) : V → List V → Hp → VK → Prop := fun x xs H Q => ∃ (a : Addr) (ys : List V) (y : V) (j : Nat) (z : V), x = V.ref a ∧ xs = [y] ∧ SqT K H a ys ∧ flatV y = true ∧ ys.all flatV = true ∧ ys[j]? = some z ∧ eqV z y = true ∧
  (∀ (m : Nat) (z' : V), m < j → ys[m]? = some z' → eqV z' y = false) ∧ Q (.int (j : Nat)) H
theorem mt_indexT : MtR X "tuple.index" (rIndexT X.K) := by
  intro pins s σ H x xs v us Q I rx rxs h
  obtain ⟨a, ys, y, j, z, rfl, rfl, hs, fy, fys, hz, hzj, hno, q⟩ := h
  cases rx
  cases rxs with
  | cons ry rt =>
    rename_i uy ut
    cases rt
    obtain ⟨its, rv, ⟨⟨cls, dd, data, sl⟩, ho, hc, n, hd⟩, hlen⟩ := I.tuple hs
    simp only at hc hd
    subst hc hd
    obtain ⟨u, hu, ru⟩ := rv.get hz
    obtain ⟨hjl, hje⟩ := List.getElem?_eq_some_iff.mp hu
    have hvl := rv.length
    have hj : j < its.toArray.size := by simpa using hjl
    refine call_meets PySem.F.slot_tuple_index ⟨_, ho, rfl⟩ PySem.F.entry_tuple_index (PySem.F.args_tuple_index_2 _ _)
      (TI.tuple_indexAt a its.toArray n dd sl uy (eqU y) j hj ?_ ?_) ⟨ho, fun u' hu' => mem_eqAt ry fy rv fys u' (by simpa using hu'), ?_⟩
    · have e1 : its.toArray[j] = u := by simpa using hje
      rw [e1, eqU_of ru (flat_at fys hz)]
      exact hzj
    · intro m hm hmj
      have hml : m < its.length := by simpa using hm
      have hmy : m < ys.length := by omega
      have hy' : ys[m]? = some ys[m] := List.getElem?_eq_getElem hmy
      obtain ⟨u2, hu2, ru2⟩ := rv.get hy'
      obtain ⟨_, hme⟩ := List.getElem?_eq_some_iff.mp hu2
      have e1 : its.toArray[m] = u2 := by simpa using hme
      rw [e1, eqU_of ru2 (flat_at fys hy')]
      exact hno m _ hmj hy'
    · exact ⟨.int (j : Nat), H, I.tok _, ⟨_, rfl⟩, q⟩
/-- count of flat items -/
def rCountL (K : PySem.W.Frag) : V → List V → Hp → VK → Prop := fun x xs H Q => ∃ (a : Addr) (ys : List V) (y : V), x = V.ref a ∧ xs = [y] ∧ SqL K H a ys ∧ flatV y = true ∧ ys.all flatV = true ∧ Q (.int ((ys.countP fun z => eqV z y : Nat) : Int)) H
def rCountT (K : PySem.W.Frag) : V → List V → Hp → VK → Prop := fun x xs H Q => ∃ (a : Addr) (ys : List V) (y : V), x = V.ref a ∧ xs = [y] ∧ SqT K H a ys ∧ flatV y = true ∧ ys.all flatV = true ∧ Q (.int ((ys.countP fun z => eqV z y : Nat) : Int)) H
theorem countP_eqU {x : V} : ∀ {xs : List V} {us : List Value}, Vals xs us → xs.all flatV = true → us.countP (eqU x) = xs.countP fun y => eqV y x
  | _, _, .nil, _ => rfl
  | y :: xs, u :: us, .cons r t, f => by
    rw [List.all_cons, Bool.and_eq_true] at f
    rw [List.countP_cons, List.countP_cons, eqU_of r f.1, countP_eqU t f.2]
theorem mt_countL : MtR X "list.count" (rCountL X.K) := by
  intro pins s σ H x xs v us Q I rx rxs h
  obtain ⟨p, ys, y, rfl, rfl, hs, fy, fys, q⟩ := h
  cases rx
  cases rxs with
  | cons ry rt =>
    rename_i uy ut
    cases rt
    obtain ⟨its, rv, ⟨⟨cls, dd, data, sl⟩, n, ho, hc, hdn, hd⟩, hlen⟩ := I.list hs
    simp only at hc hd
    subst hc hd
    refine call_meets PySem.F.slot_list_count ⟨_, ho, rfl⟩ PySem.F.entry_list_count (PySem.F.args_list_count_2 _ _)
      (SeqAt.list_countAt p its.toArray n dd sl uy (eqU y)) ⟨ho, fun w hw => mem_eqAt ry fy rv fys w (by simpa using hw), ?_⟩
    refine ⟨.int ((ys.countP fun z => eqV z y : Nat) : Int), H, I.tok _, ⟨s.toks, ?_⟩, q⟩
    show Value.int ((its.toArray.toList.countP (eqU y) : Nat) : Int) s.toks = _
    rw [show its.toArray.toList = its by simp, countP_eqU rv fys]
theorem mt_countT : MtR X "tuple.count" (rCountT X.K) := by
  intro pins s σ H x xs v us Q I rx rxs h
  obtain ⟨p, ys, y, rfl, rfl, hs, fy, fys, q⟩ := h
  cases rx
  cases rxs with
  | cons ry rt =>
    rename_i uy ut
    cases rt
    obtain ⟨its, rv, ⟨⟨cls, dd, data, sl⟩, ho, hc, n, hd⟩, hlen⟩ := I.tuple hs
    simp only at hc hd
    subst hc hd
    refine call_meets PySem.F.slot_tuple_count ⟨_, ho, rfl⟩ PySem.F.entry_tuple_count (PySem.F.args_tuple_count_2 _ _)
      (SeqAt.tuple_countAt p its.toArray n dd sl uy (eqU y)) ⟨ho, fun w hw => mem_eqAt ry fy rv fys w (by simpa using hw), ?_⟩
    refine ⟨.int ((ys.countP fun z => eqV z y : Nat) : Int), H, I.tok _, ⟨s.toks, ?_⟩, q⟩
    show Value.int ((its.toArray.toList.countP (eqU y) : Nat) : Int) s.toks = _
    rw [show its.toArray.toList = its by simp, countP_eqU rv fys]
theorem repl_count {K : PySem.W.Frag} {H : Hp} {d : PyData} {x : V} (hx : atomV d = some x) : ∀ {ds : List PyData} {xs : List V} {F : List Addr}, RepL K H ds xs F → ds.all atom = true → (xs.countP fun z => eqV z x) = ds.countP fun z => PyData.eqv z d
  | [], _, _, h, _ => by obtain ⟨rfl, _⟩ := h; rfl
  | e :: ds, _, _, h, c => by
    obtain ⟨y, ys, F1, F2, rfl, r1, r2, _⟩ := h
    rw [List.all_cons, Bool.and_eq_true] at c
    obtain ⟨w, hw⟩ := Option.isSome_iff_exists.mp c.1
    obtain rfl := rep_atom r1 hw
    rw [List.countP_cons, List.countP_cons, repl_count hx r2 c.2, eqv_atom hw hx]
theorem repl_at {K : PySem.W.Frag} {H : Hp} {ds : List PyData} {xs : List V} {F : List Addr} {m : Nat} {z : V} (h : RepL K H ds xs F) (c : ds.all atom = true) (e : xs[m]? = some z) : ∃ d, ds[m]? = some d ∧ atomV d = some z := by
  obtain ⟨d, hd⟩ := h.getV e
  obtain ⟨x, _, _, _, q1, q2, _⟩ := h.get hd
  rw [e] at q1
  cases q1
  obtain ⟨w, hw⟩ := Option.isSome_iff_exists.mp (List.all_eq_true.mp c d (List.mem_of_getElem? hd))
  exact ⟨d, hd, by rw [rep_atom q2 hw]; exact hw⟩
theorem seqAtoms_all {s : PyData} {ds : List PyData} (h : seqAtoms s = some ds) : ds.all atom = true ∧ (s = .list ds ∨ s = .tuple ds) := by
  unfold seqAtoms at h
  split at h
  · split at h
    · rename_i c; cases h; exact ⟨c, .inl rfl⟩
    · cases h
  · split at h
    · rename_i c; cases h; exact ⟨c, .inr rfl⟩
    · cases h
  · cases h
/-- the call of such a method -/
def isSeqD : PyData → Bool
  | .list _ => true
  | .tuple _ => true
  | _ => false
def eMeth (g : PyData → PyData → Option PyData) (fa f : Lo → Res PyData) : Lo → Res PyData := fun env => (fa env).bind fun s => if isSeqD s then (f env).bind fun x => .of (g s x) else .bad
theorem ve_meth {o : Expr} {name : Str} {idL idT : String} {apos : Pos} {g : PyData → PyData → Option PyData} {rL rT : V → List V → Hp → VK → Prop} (sL : Slot "list" name idL) (tL : typeOf (.builtin idL) = pure (.type "method_descriptor")) (mL : MtR X idL rL) (sT : Slot "tuple" name idT) (tT : typeOf (.builtin idT) = pure (.type "method_descriptor")) (mT : MtR X idT rT)
    (hL : ∀ ds d2 d, g (.list ds) d2 = some d → ∀ a xs G y F H Q, H a = some (.lst xs) → RepL X.K H ds xs G → Rep X.K H d2 y F → (∀ w, Rep X.K H d w [] → Q w H) → rL (.ref a) [y] H Q)
    (hT : ∀ ds d2 d, g (.tuple ds) d2 = some d → ∀ a xs G y F H Q, FT H a xs → RepL X.K H ds xs G → Rep X.K H d2 y F → (∀ w, Rep X.K H d w [] → Q w H) → rT (.ref a) [y] H Q)
    (hn : ∀ kvs d2, g (.dict kvs) d2 = none) (ho : VE X C A o fa) (ha : VE X C B e f)
    (hbase : attributeBase o name X.env (eval o X.env) = eval o X.env := by rfl)
    (hfew : ((backTo pos (starEach [e] X.env)).all (fun x => !x.1) && (backToKw pos (keywordEach [] X.env)).all (fun x => x.1.isSome)
      && decide ([e].length + ([] : List Keyword).length + (if ([] : List Keyword).isEmpty then 0 else 1) < 30)) = true := by rfl)
    (hline : (apos.endLine == pos.line) = true := by rfl) (hs : starEach [e] X.env = (false, eval e X.env) :: starEach [] X.env := by rfl) (hplain : (backTo pos (starEach [] X.env)).any (·.1) = false := by rfl) :
    VE X C [] (.Call (.Attribute o name apos) [e] [] pos) (eMeth g fa f) := .by fun σ H Q ⟨env, Fs, hs', h⟩ => by
  by_cases ht : ∃ ds, fa env = .ok (.tuple ds)
  · obtain ⟨ds, ht⟩ := ht
    refine ⟨_, pe_bmF PySem.F.plainAttrs_tuple sT tT mT ho (pa_cons ha pa_nil hs) hbase hfew hline hs hplain, ?_⟩
    refine ⟨env, Fs, hs', post_mono (post_bind h) (fun d1 e1 h1 v H1 F1 g1 => ?_) fun _ _ h => h⟩
    rw [ht] at e1; cases e1
    have r1 := g1.rep
    obtain ⟨a, xs, rfl, ft, rG⟩ := r1
    refine ⟨⟨a, xs, rfl, ft⟩, env, Fs, hs'.mono g1.same, post_mono (post_bind h1) (fun d2 _ h2 y H2 F2 g2 => ?_) fun _ _ h H' dx s x => h H' dx (g1.same.trans s) x⟩
    obtain ⟨d, hd, h3⟩ := of_post h2
    have k : ∀ a o, H1 a = some o → ¬ False → H2 a = some o := fun a o e _ => g2.same a o e
    exact hT ds d2 d hd a xs F1 y F2 H2 Q (ft_keep (own := fun _ => False) k (fun _ z => z.elim) ft) (rG.mono g2.same) g2.rep fun w r => h3 w H2 [] (.flat (g1.same.trans g2.same) r)
  · refine ⟨_, pe_bm PySem.F.plainAttrs_list sL tL mL ho (pa_cons ha pa_nil hs) hbase hfew hline hs hplain, ?_⟩
    refine ⟨env, Fs, hs', post_mono (post_bind h) (fun d1 e1 h1 v H1 F1 g1 => ?_) fun _ _ h => h⟩
    by_cases hl : ∃ ds, d1 = .list ds
    · obtain ⟨ds, rfl⟩ := hl
      have r1 := g1.rep
      obtain ⟨a, xs, G, rfl, hH, rG, rfl⟩ := r1
      refine ⟨tyV_list (SqL.of hH), env, Fs, hs'.mono g1.same, post_mono (post_bind h1) (fun d2 _ h2 y H2 F2 g2 => ?_) fun _ _ h H' dx s x => h H' dx (g1.same.trans s) x⟩
      obtain ⟨d, hd, h3⟩ := of_post h2
      exact hL ds d2 d hd a xs G y F2 H2 Q (g2.same _ _ hH) (rG.mono g2.same) g2.rep fun w r => h3 w H2 [] (.flat (g1.same.trans g2.same) r)
    · exfalso
      cases d1 with
      | list ds => exact hl ⟨ds, rfl⟩
      | tuple ds => exact ht ⟨ds, e1⟩
      | none => exact h1
      | bool b => exact h1
      | int b => exact h1
      | str b => exact h1
      | dict kvs => exact h1
theorem ve_index {o : Expr} {apos : Pos} (ho : VE X C A o fa) (ha : VE X C B e f)
    (hbase : attributeBase o "index" X.env (eval o X.env) = eval o X.env := by rfl)
    (hfew : ((backTo pos (starEach [e] X.env)).all (fun x => !x.1) && (backToKw pos (keywordEach [] X.env)).all (fun x => x.1.isSome)
      && decide ([e].length + ([] : List Keyword).length + (if ([] : List Keyword).isEmpty then 0 else 1) < 30)) = true := by rfl)
    (hline : (apos.endLine == pos.line) = true := by rfl) (hs : starEach [e] X.env = (false, eval e X.env) :: starEach [] X.env := by rfl) (hplain : (backTo pos (starEach [] X.env)).any (·.1) = false := by rfl) :
    VE X C [] (.Call (.Attribute o "index" apos) [e] [] pos) (eMeth dIndex fa f) :=
  ve_meth PySem.F.slot_list_index PySem.F.type_list_index mt_index PySem.F.slot_tuple_index PySem.F.type_tuple_index mt_indexT
    (fun ds d2 d hd a xs G y F H Q hH rG ry k => by
      unfold dIndex at hd
      split at hd
      · rename_i hx
        cases q : seqAtoms (.list ds) with
        | none => rw [q] at hd; cases hd
        | some es =>
          rw [q] at hd
          obtain ⟨c, z⟩ := seqAtoms_all q
          have es' : es = ds := by rcases z with z | z <;> cases z; rfl
          subst es'
          have hd : (idxD d2 es).map (fun j => PyData.int (j : Nat)) = some d := hd
          cases qi : idxD d2 es with
          | none => rw [qi] at hd; cases hd
          | some j =>
            rw [qi] at hd
            cases hd
            obtain ⟨w, hw⟩ := Option.isSome_iff_exists.mp hx
            obtain rfl := rep_atom ry hw
            obtain ⟨e, h1, h2, h3⟩ := idxD_get qi
            obtain ⟨z, _, _, _, hz, rz, _⟩ := rG.get h1
            obtain ⟨e', h1', hz'⟩ := repl_at rG c hz
            rw [h1] at h1'; cases h1'
            exact ⟨a, xs, y, j, z, rfl, rfl, SqL.of hH, atomV_flat hw, (repl_atoms rG c).1, hz, by rw [eqv_atom hz' hw]; exact h2, fun m z' hm hm' => by
              obtain ⟨e2, g1, g2⟩ := repl_at rG c hm'
              rw [eqv_atom g2 hw]
              exact h3 m e2 hm g1, k _ rep_int⟩
      · cases hd)
    (fun ds d2 d hd a xs G y F H Q hH rG ry k => by
      unfold dIndex at hd
      split at hd
      · rename_i hx
        cases q : seqAtoms (.tuple ds) with
        | none => rw [q] at hd; cases hd
        | some es =>
          rw [q] at hd
          obtain ⟨c, z⟩ := seqAtoms_all q
          have es' : es = ds := by rcases z with z | z <;> cases z; rfl
          subst es'
          have hd : (idxD d2 es).map (fun j => PyData.int (j : Nat)) = some d := hd
          cases qi : idxD d2 es with
          | none => rw [qi] at hd; cases hd
          | some j =>
            rw [qi] at hd
            cases hd
            obtain ⟨w, hw⟩ := Option.isSome_iff_exists.mp hx
            obtain rfl := rep_atom ry hw
            obtain ⟨e, h1, h2, h3⟩ := idxD_get qi
            obtain ⟨z, _, _, _, hz, rz, _⟩ := rG.get h1
            obtain ⟨e', h1', hz'⟩ := repl_at rG c hz
            rw [h1] at h1'; cases h1'
            exact ⟨a, xs, y, j, z, rfl, rfl, hH.sq, atomV_flat hw, (repl_atoms rG c).1, hz, by rw [eqv_atom hz' hw]; exact h2, fun m z' hm hm' => by
              obtain ⟨e2, g1, g2⟩ := repl_at rG c hm'
              rw [eqv_atom g2 hw]
              exact h3 m e2 hm g1, k _ rep_int⟩
      · cases hd)
    (fun kvs d2 => by unfold dIndex; split <;> rfl) ho ha hbase hfew hline hs hplain
theorem ve_count {o : Expr} {apos : Pos} (ho : VE X C A o fa) (ha : VE X C B e f)
    (hbase : attributeBase o "count" X.env (eval o X.env) = eval o X.env := by rfl)
    (hfew : ((backTo pos (starEach [e] X.env)).all (fun x => !x.1) && (backToKw pos (keywordEach [] X.env)).all (fun x => x.1.isSome)
      && decide ([e].length + ([] : List Keyword).length + (if ([] : List Keyword).isEmpty then 0 else 1) < 30)) = true := by rfl)
    (hline : (apos.endLine == pos.line) = true := by rfl) (hs : starEach [e] X.env = (false, eval e X.env) :: starEach [] X.env := by rfl) (hplain : (backTo pos (starEach [] X.env)).any (·.1) = false := by rfl) :
    VE X C [] (.Call (.Attribute o "count" apos) [e] [] pos) (eMeth dCount fa f) :=
  ve_meth PySem.F.slot_list_count PySem.F.type_list_count mt_countL PySem.F.slot_tuple_count PySem.F.type_tuple_count mt_countT
    (fun ds d2 d hd a xs G y F H Q hH rG ry k => by
      unfold dCount at hd
      split at hd
      · rename_i hx
        cases q : seqAtoms (.list ds) with
        | none => rw [q] at hd; cases hd
        | some es =>
          rw [q] at hd
          obtain ⟨c, z⟩ := seqAtoms_all q
          have es' : es = ds := by rcases z with z | z <;> cases z; rfl
          subst es'
          cases hd
          obtain ⟨w, hw⟩ := Option.isSome_iff_exists.mp hx
          obtain rfl := rep_atom ry hw
          exact ⟨a, xs, y, rfl, rfl, SqL.of hH, atomV_flat hw, (repl_atoms rG c).1, by rw [repl_count hw rG c]; exact k _ rep_int⟩
      · cases hd)
    (fun ds d2 d hd a xs G y F H Q hH rG ry k => by
      unfold dCount at hd
      split at hd
      · rename_i hx
        cases q : seqAtoms (.tuple ds) with
        | none => rw [q] at hd; cases hd
        | some es =>
          rw [q] at hd
          obtain ⟨c, z⟩ := seqAtoms_all q
          have es' : es = ds := by rcases z with z | z <;> cases z; rfl
          subst es'
          cases hd
          obtain ⟨w, hw⟩ := Option.isSome_iff_exists.mp hx
          obtain rfl := rep_atom ry hw
          exact ⟨a, xs, y, rfl, rfl, hH.sq, atomV_flat hw, (repl_atoms rG c).1, by rw [repl_count hw rG c]; exact k _ rep_int⟩
      · cases hd)
    (fun kvs d2 => by unfold dCount; split <;> rfl) ho ha hbase hfew hline hs hplain
/-! ### sorted(x) -/
def isI : PyData → Bool
  | .int _ => true
  | _ => false
def isP : PyData → Bool
  | .tuple [.int _, .int _] => true
  | _ => false
def ltD : PyData → PyData → Bool
  | .int i, .int j => decide (i < j)
  | .tuple [.int a, .int b], .tuple [.int c, .int d] => decide (a < c) || (decide (a = c) && decide (b < d))
  | _, _ => false
def insD (x : PyData) : List PyData → List PyData
  | [] => [x]
  | y :: ys => if ltD y x then y :: insD x ys else x :: y :: ys
def sortD : List PyData → List PyData
  | [] => []
  | x :: xs => insD x (sortD xs)
def gSorted : List PyData → Option PyData
  | [.list ds] => if ds.all isI || ds.all isP then some (.list (sortD ds)) else none
  | _ => none
theorem insD_perm (x : PyData) : ∀ l, (insD x l).Perm (x :: l)
  | [] => .refl _
  | y :: ys => by
    unfold insD
    split
    · exact ((insD_perm x ys).cons y).trans (.swap x y ys)
    · exact .refl _
theorem sortD_perm : ∀ l, (sortD l).Perm l
  | [] => .refl _
  | x :: xs => (insD_perm x (sortD xs)).trans ((sortD_perm xs).cons x)
theorem insD_map (k : Int → PyData) (hk : ∀ i j, ltD (k i) (k j) = decide (i < j)) (x : Int) : ∀ l : List Int, ∃ l' : List Int, insD (k x) (l.map k) = l'.map k ∧ l'.Perm (x :: l) ∧ (l.Pairwise (· ≤ ·) → l'.Pairwise (· ≤ ·))
  | [] => ⟨[x], rfl, .refl _, fun _ => by simp⟩
  | y :: ys => by
    obtain ⟨l', h1, h2, h3⟩ := insD_map k hk x ys
    simp only [List.map_cons, insD, hk]
    by_cases e : y < x
    · rw [if_pos (decide_eq_true e), h1]
      refine ⟨y :: l', rfl, (h2.cons y).trans (.swap x y ys), fun p => ?_⟩
      obtain ⟨p1, p2⟩ := List.pairwise_cons.mp p
      refine List.pairwise_cons.mpr ⟨fun z hz => ?_, h3 p2⟩
      rcases List.mem_cons.mp (h2.mem_iff.mp hz) with rfl | hz
      · omega
      · exact p1 z hz
    · rw [if_neg (by simpa using e)]
      refine ⟨x :: y :: ys, rfl, .refl _, fun p => ?_⟩
      obtain ⟨p1, p2⟩ := List.pairwise_cons.mp p
      refine List.pairwise_cons.mpr ⟨fun z hz => ?_, p⟩
      rcases List.mem_cons.mp hz with rfl | hz
      · omega
      · have := p1 z hz; omega
theorem sortD_map (k : Int → PyData) (hk : ∀ i j, ltD (k i) (k j) = decide (i < j)) : ∀ l : List Int, ∃ l' : List Int, sortD (l.map k) = l'.map k ∧ l'.Perm l ∧ l'.Pairwise (· ≤ ·)
  | [] => ⟨[], rfl, .refl _, .nil⟩
  | x :: xs => by
    obtain ⟨l', h1, h2, h3⟩ := sortD_map k hk xs
    obtain ⟨l2, g1, g2, g3⟩ := insD_map k hk x l'
    exact ⟨l2, by simp only [List.map_cons, sortD, h1, g1], g2.trans (h2.cons x), g3 h3⟩
theorem all_ints : ∀ {ds : List PyData}, ds.all isI = true → ∃ ns : List Int, ds = ns.map .int
  | [], _ => ⟨[], rfl⟩
  | d :: ds, h => by
    rw [List.all_cons, Bool.and_eq_true] at h
    obtain ⟨ns, rfl⟩ := all_ints h.2
    cases d <;> first | (exact ⟨_ :: ns, rfl⟩) | (cases h.1)
theorem ints_rep {K : PySem.W.Frag} {H : Hp} : ∀ {ns : List Int} {xs : List V} {F : List Addr}, RepL K H (ns.map .int) xs F → xs = ns.map V.int ∧ F = []
  | [], _, _, h => h
  | n :: ns, _, _, h => by
    obtain ⟨x, ys, F1, F2, rfl, ⟨rfl, rfl⟩, r2, rfl⟩ := h
    obtain ⟨rfl, rfl⟩ := ints_rep r2
    exact ⟨rfl, rfl⟩
/-- pairs -/
def pD (p : Int × Int) : PyData := .tuple [.int p.1, .int p.2]
theorem all_pairs : ∀ {ds : List PyData}, ds.all isP = true → ∃ ps : List (Int × Int), ds = ps.map pD
  | [], _ => ⟨[], rfl⟩
  | d :: ds, h => by
    rw [List.all_cons, Bool.and_eq_true] at h
    obtain ⟨ps, rfl⟩ := all_pairs h.2
    obtain ⟨h1, _⟩ := h
    unfold isP at h1
    split at h1
    · rename_i i j
      exact ⟨(i, j) :: ps, rfl⟩
    · cases h1
def lexLe (p q : Int × Int) : Prop := p.1 < q.1 ∨ (p.1 = q.1 ∧ p.2 ≤ q.2)
theorem lexLe_antisymm {p q : Int × Int} (h1 : lexLe p q) (h2 : lexLe q p) : p = q := by
  obtain ⟨a, b⟩ := p
  obtain ⟨c, d⟩ := q
  unfold lexLe at h1 h2
  simp only at h1 h2
  have e1 : a = c := by omega
  have e2 : b = d := by omega
  rw [e1, e2]
theorem ltD_pD (p q : Int × Int) : ltD (pD p) (pD q) = true ↔ ¬ lexLe q p := by
  unfold ltD pD lexLe
  simp only [Bool.or_eq_true, Bool.and_eq_true, decide_eq_true_eq]
  omega
theorem insD_pairs (x : Int × Int) : ∀ l : List (Int × Int), ∃ l' : List (Int × Int), insD (pD x) (l.map pD) = l'.map pD ∧ l'.Perm (x :: l) ∧ (l.Pairwise lexLe → l'.Pairwise lexLe)
  | [] => ⟨[x], rfl, .refl _, fun _ => by simp⟩
  | y :: ys => by
    obtain ⟨l', h1, h2, h3⟩ := insD_pairs x ys
    simp only [List.map_cons, insD]
    by_cases e : ltD (pD y) (pD x) = true
    · rw [if_pos e, h1]
      have e' := (ltD_pD y x).mp e
      refine ⟨y :: l', rfl, (h2.cons y).trans (.swap x y ys), fun p => ?_⟩
      obtain ⟨p1, p2⟩ := List.pairwise_cons.mp p
      refine List.pairwise_cons.mpr ⟨fun z hz => ?_, h3 p2⟩
      rcases List.mem_cons.mp (h2.mem_iff.mp hz) with rfl | hz
      · unfold lexLe at e' ⊢; omega
      · exact p1 z hz
    · rw [if_neg e]
      have e' : lexLe x y := Classical.byContradiction fun n => e ((ltD_pD y x).mpr n)
      refine ⟨x :: y :: ys, rfl, .refl _, fun p => ?_⟩
      obtain ⟨p1, p2⟩ := List.pairwise_cons.mp p
      refine List.pairwise_cons.mpr ⟨fun z hz => ?_, p⟩
      rcases List.mem_cons.mp hz with rfl | hz
      · exact e'
      · have := p1 z hz; unfold lexLe at e' this ⊢; omega
theorem sortD_pairs : ∀ l : List (Int × Int), ∃ l' : List (Int × Int), sortD (l.map pD) = l'.map pD ∧ l'.Perm l ∧ l'.Pairwise lexLe
  | [] => ⟨[], rfl, .refl _, .nil⟩
  | x :: xs => by
    obtain ⟨l', h1, h2, h3⟩ := sortD_pairs xs
    obtain ⟨l2, g1, g2, g3⟩ := insD_pairs x l'
    exact ⟨l2, by simp only [List.map_cons, sortD, h1, g1], g2.trans (h2.cons x), g3 h3⟩
/-- the ints of a pair that stands at a reference -/
def pairAt (H : Hp) (v : V) : Int × Int := match v with
  | .ref t => match H t with
    | some (.frz _ (.tup [.int i, .int j])) => (i, j)
    | _ => (0, 0)
  | _ => (0, 0)
theorem pairs_rep {K : PySem.W.Frag} {H : Hp} : ∀ {ps : List (Int × Int)} {xs : List V} {F : List Addr}, RepL K H (ps.map pD) xs F → (∀ x ∈ xs, ∃ t, x = .ref t ∧ FT H t [.int (pairAt H x).1, .int (pairAt H x).2]) ∧ xs.map (pairAt H) = ps ∧ F = []
  | [], _, _, h => by obtain ⟨rfl, rfl⟩ := h; exact ⟨fun _ z => (nomatch z), rfl, rfl⟩
  | p :: ps, _, _, h => by
    obtain ⟨x, ys, F1, F2, rfl, r1, r2, rfl⟩ := h
    obtain ⟨h1, h2, rfl⟩ := pairs_rep r2
    obtain ⟨t, us, rfl, ft, r⟩ := r1
    obtain ⟨x1, x2, G1, G2, rfl, ⟨rfl, rfl⟩, ⟨rfl, rfl⟩, rfl⟩ := repl_two r
    obtain ⟨o, od, hH⟩ := id ft
    have e : pairAt H (.ref t) = p := by
      unfold pairAt
      simp only [hH]
    refine ⟨fun x hx => ?_, by rw [List.map_cons, e, h2], by simp⟩
    rcases List.mem_cons.mp hx with rfl | hx
    · exact ⟨t, rfl, by rw [e]; exact ft⟩
    · exact h1 x hx
theorem rep_pairs {K : PySem.W.Frag} {H : Hp} : ∀ {xs : List V}, (∀ x ∈ xs, ∃ t, x = .ref t ∧ FT H t [.int (pairAt H x).1, .int (pairAt H x).2]) → RepL K H ((xs.map (pairAt H)).map pD) xs []
  | [], _ => ⟨rfl, rfl⟩
  | x :: xs, h => by
    obtain ⟨t, rfl, ft⟩ := h x List.mem_cons_self
    have r : Rep K H (pD (pairAt H (.ref t))) (.ref t) [] := ⟨t, _, rfl, ft, .cons (F := []) (G := []) rep_int (.one rep_int)⟩
    exact .cons (F := []) (G := []) r (rep_pairs fun y hy => h y (List.mem_cons_of_mem _ hy))
def rSortedPF (K : PySem.W.Frag) : List V → Hp → VK → Prop := fun vs H Q => ∃ (a : Addr) (xs : List V) (k : V → Int × Int), vs = [V.ref a] ∧ SqL K H a xs ∧ (∀ x ∈ xs, ∃ t, x = V.ref t ∧ FT H t [.int (k x).1, .int (k x).2]) ∧
  ∀ ys p, SrtO.Srtd (ltP k) ys → ys.Perm xs → H p = none → Q (.ref p) (upd H p (.lst ys))
theorem cr_sortedPF : CallR X (.builtin "sorted") (rSortedPF X.K) := by
  intro pins s σ H vs us Q I r h
  obtain ⟨a, xs, k, rfl, hs, hx, q⟩ := h
  obtain ⟨its, rv, hl, hz⟩ := I.list hs
  obtain ⟨u, rfl, ru⟩ := vals1 r
  obtain rfl : u = Value.ref a := ru
  obtain ⟨e1, e2⟩ := refs_back rv fun x m => by
    obtain ⟨t, e, _⟩ := hx x m
    exact ⟨t, e⟩
  refine SrtO.sorted_pairsO (k := fun u => k (backV u)) hl.isList (by rw [← rv.length]; exact hz) (fun v hv => ?_) fun h' d out h1 h2 kp hd hn => ?_
  · obtain ⟨t, rfl⟩ := e2 v hv
    have hm : V.ref t ∈ xs := by rw [e1]; exact List.mem_map.mpr ⟨_, hv, rfl⟩
    obtain ⟨t', e, ht⟩ := hx _ hm
    cases e
    obtain ⟨ob, _, hH⟩ := ht
    obtain ⟨_, _, its2, r2, o, ho, hc, n, hd⟩ := (show ObjOk X.prog X.w H s.heap t (.frz ob (.tup _)) from I.hok t _ hH)
    obtain ⟨u1, u2, rfl, ri, rj⟩ := vals2 r2
    obtain ⟨t1, rfl⟩ := ri
    obtain ⟨t2, rfl⟩ := rj
    exact ⟨t, o, t1, t2, n, rfl, ho, hc, hd⟩
  · have h3 : ∀ u ∈ out, ∃ a, u = Value.ref a := fun u hu => e2 u (h2.perm.mem_iff.mp hu)
    obtain ⟨n, hn⟩ := hn
    have hb : (out.map backV).Perm xs := by
      rw [e1]
      exact h2.perm.map backV
    refine ⟨.ref d, upd H d (.lst (out.map backV)), I.laid (t' := s.toks) kp hd ⟨?_, out, n, vals_back h3, hn⟩, rfl, q _ d (SrtO.srtd_map h1) hb (I.hok.fresh hd)⟩
    rw [hb.length_eq]
    exact hz
theorem ca_sorted : CaOk X (CallR X (.builtin "sorted")) gSorted := fun ds d e => by
  unfold gSorted at e
  split at e
  · rename_i ds
    split at e
    · rename_i hc
      cases e
      rw [Bool.or_eq_true] at hc
      have fin : ∀ {ds' : List PyData} {ys : List V} {H : Hp} {F : List Addr} {Q : VK} (p : Addr), H p = none → RepL X.K H ds' ys [] → Kont X H F (.list ds') Q → Q (.ref p) (upd H p (.lst ys)) := fun {ds' ys H F Q} p np r k =>
        k _ _ [p] ⟨p, ys, [], rfl, upd_same, r.mono (same_upd np), rfl⟩ (same_upd np) (fun c hc => by
          have : c = p := by simpa using hc
          subst this
          exact .inl ⟨np, .inl ⟨_, upd_same⟩⟩) fun _ _ => by simp
      rcases hc with hc | hc
      · obtain ⟨ns, rfl⟩ := all_ints hc
        refine ⟨_, cr_sortedI, fun xs F H Q r k => ?_⟩
        obtain ⟨x, rfl, r1⟩ := repl_one r
        obtain ⟨a, us, G, rfl, s, r2, rfl⟩ := r1
        obtain ⟨rfl, rfl⟩ := ints_rep r2
        refine ⟨a, ns, rfl, SqL.of s, fun ns' p perm srt np => ?_⟩
        obtain ⟨l', h1, h2, h3⟩ := sortD_map .int (fun i j => rfl) ns
        have e : ns' = l' := (perm.trans h2.symm).eq_of_pairwise (fun x y _ _ h1 h2 => Int.le_antisymm h1 h2) srt h3
        subst e
        rw [h1] at k
        exact fin p np (scr_rep ns') k
      · obtain ⟨ps, rfl⟩ := all_pairs hc
        refine ⟨_, cr_sortedPF, fun xs F H Q r k => ?_⟩
        obtain ⟨x, rfl, r1⟩ := repl_one r
        obtain ⟨a, us, G, rfl, s, r2, rfl⟩ := r1
        obtain ⟨g1, g2, rfl⟩ := pairs_rep r2
        refine ⟨a, us, pairAt H, rfl, SqL.of s, g1, fun ys p srt perm np => ?_⟩
        obtain ⟨l', h1, h2, h3⟩ := sortD_pairs ps
        have e : ys.map (pairAt H) = l' := by
          refine List.Perm.eq_of_pairwise (le := lexLe) (fun x y _ _ h1 h2 => lexLe_antisymm h1 h2) ?_ h3 ((perm.map _).trans (by rw [g2]; exact h2.symm))
          refine List.pairwise_map.mpr (srt.imp fun {x y} h => ?_)
          have := SrtO.lexB_no.mp h
          unfold lexLe
          omega
        rw [h1, ← e] at k
        exact fin p np (rep_pairs fun y hy => g1 y (perm.mem_iff.mp hy)) k
    · cases e
  · cases e
theorem ve_sorted {p : Pos} (hg : Gl X "sorted") (hm : X.mg "sorted" = none) (ha : VA X C A [e] fs) (he : starEach [e] X.env = (false, eval e X.env) :: starEach [] X.env := by rfl) : VE X C A (.Call (.Name "sorted" p) [e] [] pos) (eCall gSorted fs) := ve_callB ca_sorted hg hm (by decide +kernel) ha (he := he)
end
end PV

set_option Elab.async false
set_option linter.all false
set_option maxRecDepth 100000
namespace PV
open PySem PySem.Spec L2
open PyProof.Rows hiding St
/-! ### the law -/
def spL (K : PySem.W.Frag) : Sp := fun vs H Q E => ∃ (a : Addr) (ns : List Int), vs = [.ref a] ∧ ns.length ≤ 63 ∧ Fz K H a (ns.map V.int) ∧ ∀ H', Q (.bl true) H'
theorem law_imp {P : Program} {w : World} {K : PySem.W.Frag} {mg : Str → Option Value} {base : Heap} {CX : CXT} {ec : Nat → Addr} {k : Nat} {f : Addr} {fd : FuncData} {ps : List Str} {fn : List PyData → Res PyData} (h : ∀ ns : List Int, ns.length ≤ 63 → fn [scrD ns] = .ok (.bool true))
    (F : FnOk P w K mg base CX k f fd ps (spV K ec fn)) : FnOk P w K mg base CX k f fd ps (spL K) := F.imp fun vs H Q E ⟨a, ns, e, hl, fz, q⟩ => by
  subst e
  refine ⟨[scrD ns], [], .one (.inr (.inl ⟨a, ns, rfl, rfl, fz, rfl⟩)), ?_⟩
  rw [h ns hl]
  intro v H' F r _ _ _
  obtain ⟨rfl, _⟩ := r
  exact q H'
theorem fz_only {K : PySem.W.Frag} {H : Hp} {a : Addr} {xs : List V} (o : Only H) (h : SqL K H a xs) : Fz K H a xs := by
  rcases h with (h | h) | h
  · rcases o a with z | ⟨ob, ys, z⟩
    · rw [h] at z; cases z
    · rw [h] at z; cases z
  · exact .inl h
  · exact .inr h
theorem cx_none {P : Program} {w : World} {H : Hp} {s : Shared} {e : Value} {s' : Shared} : L2.CX P w [] H s (fun _ _ _ => False) e s' → False := fun ⟨_, _, _, _, _, _, _, _, _, _, _, _, z⟩ => z
end PV

set_option Elab.async false
set_option linter.all false
set_option maxRecDepth 100000
namespace PV
open PySem PySem.Spec L2
open PyProof.Rows hiding St
section
variable {X : Cx} {C : Cc} {e a b c : Expr} {pos : Pos} {A B O O' : List Nat} {fa fb f fi : Lo → Res PyData} {fs : Lo → Res (List PyData)}
/-! ### list(range(n)) -/
def eListRg (f : Lo → Res PyData) : Lo → Res PyData := fun env => ((f env).bind fun d => intOf [d]).bind fun n => .ok (.list ((List.range n.toNat).map fun i => .int (i : Nat)))
theorem rg_rep {K : PySem.W.Frag} {H : Hp} : ∀ l : List Nat, RepL K H (l.map fun i => .int (i : Nat)) (l.map fun i => V.int ((0 : Int) + (i : Nat))) []
  | [] => ⟨rfl, rfl⟩
  | n :: l => ⟨_, _, [], [], rfl, ⟨by show V.int (0 + (n : Int)) = V.int (n : Int); rw [Int.zero_add], rfl⟩, rg_rep l, rfl⟩
theorem ve_listRg {p p2 pos2 : Pos} (gd : Gd X) (hg : Gl X "list") (hm : X.mg "list" = none) (hg2 : Gl X "range") (hm2 : X.mg "range" = none) (h : VE X C A e f) (na2 : starEach [e] X.env = (false, eval e X.env) :: starEach [] X.env := by rfl)
    (na : starEach [.Call (.Name "range" p2) [e] [] pos2] X.env = (false, eval (.Call (.Name "range" p2) [e] [] pos2) X.env) :: starEach [] X.env := by rfl) : VE X C [] (.Call (.Name "list" p) [.Call (.Name "range" p2) [e] [] pos2] [] pos) (eListRg f) :=
  (pe_listRg gd.calm hg hm (prg_1 hg2 hm2 h na2) na).imp fun σ H Q ⟨env, Fs, hs, h⟩ => by
  refine ⟨env, Fs, hs, post_mono (post_bind (post_bind h)) (fun d _ h1 v H1 F g1 => ?_) fun _ _ h => h⟩
  unfold intOf at h1
  split at h1
  · rename_i n en
    cases en
    split at h1
    · rename_i hn
      have r := g1.rep
      obtain ⟨rfl, rfl⟩ := r
      refine ⟨n, rfl, ⟨by omega, by omega, by omega, by omega, by omega⟩, fun q nq => h1 (.ref q) _ [q] ?_⟩
      refine got_lst (G := []) (xs := rgV 0 n) ?_ g1.same (fun _ z => (nomatch z)) (fun _ _ => List.nodup_nil) nq
      unfold rgV
      rw [Int.sub_zero]
      exact rg_rep _
    · exact h1.elim
  · exact h1.elim
/-! ### list(x) of flat items: a new list -/
def gListF : List PyData → Option PyData := fun ds => match gList ds with
  | some (.list es) => if flatL es then some (.list es) else none
  | _ => none
theorem ve_listF {p : Pos} (hg : Gl X "list") (hm : X.mg "list" = none) (ha : VA X C A [e] fs) (he : starEach [e] X.env = (false, eval e X.env) :: starEach [] X.env := by rfl) : VE X C [] (.Call (.Name "list" p) [e] [] pos) (eCall gListF fs) :=
  (pe_callTy call_list_of hg hm (by decide +kernel) ha (he := he)).imp fun σ H Q ⟨env, Fs, hs, h⟩ => by
  refine ⟨env, Fs, hs, post_mono (post_bind h) (fun ds e1 h1 vs H1 G g1 => ?_) fun _ _ h => h⟩
  obtain ⟨d, hd, h2⟩ := of_post h1
  unfold gListF at hd
  split at hd
  · rename_i es hl
    split at hd
    · rename_i hf
      cases hd
      unfold gList at hl
      split at hl
      · cases hl
        obtain ⟨x, rfl, r1⟩ := repl_one g1.rep
        obtain ⟨a, us, G', rfl, s, r2, rfl⟩ := r1
        obtain rfl := RepL.flat _ us G' hf r2
        exact ⟨a, us, rfl, .inl (SqL.of s), fun l nl => h2 (.ref l) _ [l] (got_lst (G := []) r2 g1.same (fun _ z => (nomatch z)) (fun _ _ => List.nodup_nil) nl)⟩
      · cases hl
        obtain ⟨x, rfl, r1⟩ := repl_one g1.rep
        obtain ⟨a, us, rfl, s, r2⟩ := r1
        obtain rfl := RepL.flat _ us _ hf r2
        exact ⟨a, us, rfl, .inr s.sq, fun l nl => h2 (.ref l) _ [l] (got_lst (G := []) r2 g1.same (fun _ z => (nomatch z)) (fun _ _ => List.nodup_nil) nl)⟩
      · cases hl
    · cases hd
  · cases hd
/-! ### x = l.pop(0) -/
theorem set_comm' {env : Lo} : True := trivial
def sPop (i k : Nat) : Lo → Out := fun env => match slotL k env with
  | some (d :: ds) => if flatL (d :: ds) && decide (i < env.length) && decide (i ≠ k) then .nx ((env.set k (some (.list ds))).set i (some d)) else .bad
  | _ => .bad
theorem vs_pop (i k : Nat) {x y : Str} {p1 p2 p3 p4 pos' : Pos} {kk : Nat} (hN : X.N.Nodup) (hO : k ∈ O := by decide) (ok : okSet O O' [] i = true := by decide) (hi : X.N[i]? = some x := by rfl) (hk : X.N[k]? = some y := by rfl) (hx : Loc X.env.scope x := by first | exact Or.inl rfl | exact Or.inr rfl)
    (hv : Vis X.env.scope y := by first | exact Or.inl rfl | exact Or.inr (Or.inl rfl) | exact Or.inr (Or.inr rfl)) (hd : (y == ("__debug__" : Str)) = false := by decide) (hcd : (y == ("__classdict__" : Str)) = false := by decide)
    (hiO : i ∉ O' := by decide) (hbase : attributeBase (.Name y p1) "pop" X.env (eval (.Name y p1) X.env) = eval (.Name y p1) X.env := by rfl)
    (hfew : ((backTo p3 (starEach [.Constant (.int 0) kk p4] X.env)).all (fun x => !x.1) && (backToKw p3 (keywordEach [] X.env)).all (fun x => x.1.isSome)
      && decide ([Expr.Constant (.int 0) kk p4].length + ([] : List Keyword).length + (if ([] : List Keyword).isEmpty then 0 else 1) < 30)) = true := by rfl)
    (hline : (p2.endLine == p3.line) = true := by rfl) (hs : starEach [.Constant (.int 0) kk p4] X.env = (false, eval (.Constant (.int 0) kk p4) X.env) :: starEach [] X.env := by rfl) (hplain : (backTo p3 (starEach [] X.env)).any (·.1) = false := by rfl)
    (hsw : swapsWith (.Call (.Attribute (.Name y p1) "pop" p2) [.Constant (.int 0) kk p4] [] p3) (some (.Name x pos')) pos.line X.env = pure false := by rfl) (hf : X.fn x = true ∨ X.env.scope.names.lookup x = some .local := by first | exact .inl rfl | exact .inr rfl | assumption) :
    VS X C O O' (.Assign [.Name x pos'] (.Call (.Attribute (.Name y p1) "pop" p2) [.Constant (.int 0) kk p4] [] p3) pos) (sPop i k) :=
  PSimp (ps_set hN hi hx (pe_bm PySem.F.plainAttrs_list PySem.F.slot_list_pop PySem.F.type_list_pop mt_popAt (pv k hk hv hd hcd) (pa_cons pe_int pa_nil hs) hbase hfew hline hs hplain) hsw hf) fun D σ H ⟨env, Fs, hs, ho, h⟩ => by
  unfold sPop at h
  split at h
  · rename_i d ds e0
    have e0 := slotL_of e0
    split at h
    · rename_i hc
      rw [Bool.and_eq_true, Bool.and_eq_true] at hc
      obtain ⟨⟨hfl, hl⟩, hik⟩ := hc
      have hl := of_decide_eq_true hl
      have hik := of_decide_eq_true hik
      obtain ⟨v, hv, r⟩ := hs.rep k _ e0
      obtain ⟨a, xs, G, rfl, ha, rG, eF⟩ := r
      obtain ⟨x, ys, F1, F2, rfl, r1, r2, eG⟩ := id rG
      have hfl' : flat d = true ∧ flatL ds = true := by simpa [flatL] using hfl
      obtain rfl := Rep.flat d x F1 hfl'.1 r1
      obtain rfl := RepL.flat ds ys F2 hfl'.2 r2
      refine ⟨.ref a, hv, tyV_list (SqL.of ha), a, x :: ys, 0, 0, x, rfl, rfl, ha, by decide, by decide, by simp [seqIndex?], rfl, ?_⟩
      obtain ⟨m1, m2, m3⟩ := relist (O := O) hs (Same.refl H) ho hO e0 hv ha rG eF hfl (ds' := ds) (xs' := ys) r2
      have r1' : Rep X.K (upd H a (.lst ys)) d x [] := Rep.keep (own := fun b => b = a) upd_keep (fun b z => z ▸ .inl ⟨_, ha⟩) d x [] (fun _ z => (nomatch z)) r1
      obtain ⟨o1, o2⟩ := owns_set (O' := O') (A := []) (i := i) m1 m2 (.flat (Same.refl _) r1') ok
      exact h _ _ _ (m1.set (by simpa using hl) r1') o1 (m3.trans o2)
    · exact h.elim
  · exact h.elim
/-! x = l[n].pop(0) -/
theorem repl_inner {K : PySem.W.Frag} {H : Hp} {es : List PyData} (hf : flatL es = true) : ∀ {ds : List PyData} {xs : List V} {G : List Addr} {j : Nat}, RepL K H ds xs G → ds[j]? = some (.list es) → G.Nodup → ∃ b ys G1 G2, xs[j]? = some (.ref b) ∧ H b = some (.lst ys) ∧ RepL K H es ys [] ∧ G = G1 ++ b :: G2 ∧
    ∀ ys' es', RepL K H es' ys' [] → RepL K (upd H b (.lst ys')) (ds.set j (.list es')) xs G
  | [], _, _, _, _, e, _ => by simp at e
  | d :: ds, _, _, 0, h, e, nd => by
    obtain ⟨x, ys, F1, F2, rfl, r1, r2, rfl⟩ := h
    simp at e
    subst e
    obtain ⟨b, us, G0, rfl, hb, rG, rfl⟩ := r1
    obtain rfl := RepL.flat es us G0 hf rG
    have nb : b ∉ F2 := by
      have := List.nodup_cons.mp (show (b :: F2).Nodup by simpa using nd)
      exact this.1
    refine ⟨b, us, [], F2, rfl, hb, rG, rfl, fun ys' es' r' => ?_⟩
    refine ⟨.ref b, ys, [b], F2, rfl, ⟨b, ys', [], rfl, upd_same, RepL.keep (own := fun c => c = b) upd_keep (fun c z => z ▸ .inl ⟨_, hb⟩) es' ys' [] (fun _ z => (nomatch z)) r', rfl⟩, ?_, rfl⟩
    exact RepL.keep (own := fun c => c = b) upd_keep (fun c z => z ▸ .inl ⟨_, hb⟩) ds ys F2 (fun c hc z => nb (z ▸ hc)) r2
  | d :: ds, _, _, j + 1, h, e, nd => by
    obtain ⟨x, ys, F1, F2, rfl, r1, r2, rfl⟩ := h
    obtain ⟨b, us, G1, G2, q1, q2, q3, rfl, q4⟩ := repl_inner (j := j) hf r2 (by simpa using e) (List.nodup_append.mp nd).2.1
    refine ⟨b, us, F1 ++ G1, G2, by simpa using q1, q2, q3, by simp [List.append_assoc], fun ys' es' r' => ?_⟩
    have nb : b ∉ F1 := fun z => (List.nodup_append.mp nd).2.2 b z b (by simp) rfl
    exact ⟨x, ys, F1, _, rfl, Rep.keep (own := fun c => c = b) upd_keep (fun c z => z ▸ .inl ⟨_, q2⟩) d x F1 (fun c hc z => nb (z ▸ hc)) r1, q4 ys' es' r', rfl⟩
def sPopIx (i k : Nat) (fi : Lo → Res PyData) : Lo → Out := fun env => match slotL k env with
  | some ds => (fi env).out env fun n => match n with
    | .int n => match ixN ds.length n with
      | some j => match ds[j]? with
        | some (.list (d :: es)) => if flatL (d :: es) && decide (i < env.length) && decide (i ≠ k) then .nx ((env.set k (some (.list (ds.set j (.list es))))).set i (some d)) else .bad
        | _ => .bad
      | none => .bad
    | _ => .bad
  | none => .bad
theorem vs_popIx (i k : Nat) {ix : Expr} {x y : Str} {p1 p2 p3 p4 p5 pos' : Pos} {kk : Nat} (hN : X.N.Nodup) (hix : VE X C A ix fi) (hO : k ∈ O := by decide) (ok : okSet O O' [] i = true := by decide) (hi : X.N[i]? = some x := by rfl) (hk : X.N[k]? = some y := by rfl) (hx : Loc X.env.scope x := by first | exact Or.inl rfl | exact Or.inr rfl)
    (hv : Vis X.env.scope y := by first | exact Or.inl rfl | exact Or.inr (Or.inl rfl) | exact Or.inr (Or.inr rfl)) (hd : (y == ("__debug__" : Str)) = false := by decide) (hcd : (y == ("__classdict__" : Str)) = false := by decide)
    (hpi : PlainIx ix := by exact fun _ _ => rfl) (hbase : attributeBase (.Subscript (.Name y p1) ix p5) "pop" X.env (eval (.Subscript (.Name y p1) ix p5) X.env) = eval (.Subscript (.Name y p1) ix p5) X.env := by rfl)
    (hfew : ((backTo p3 (starEach [.Constant (.int 0) kk p4] X.env)).all (fun x => !x.1) && (backToKw p3 (keywordEach [] X.env)).all (fun x => x.1.isSome)
      && decide ([Expr.Constant (.int 0) kk p4].length + ([] : List Keyword).length + (if ([] : List Keyword).isEmpty then 0 else 1) < 30)) = true := by rfl)
    (hline : (p2.endLine == p3.line) = true := by rfl) (hs : starEach [.Constant (.int 0) kk p4] X.env = (false, eval (.Constant (.int 0) kk p4) X.env) :: starEach [] X.env := by rfl) (hplain : (backTo p3 (starEach [] X.env)).any (·.1) = false := by rfl)
    (hsw : swapsWith (.Call (.Attribute (.Subscript (.Name y p1) ix p5) "pop" p2) [.Constant (.int 0) kk p4] [] p3) (some (.Name x pos')) pos.line X.env = pure false := by rfl) (hf : X.fn x = true ∨ X.env.scope.names.lookup x = some .local := by first | exact .inl rfl | exact .inr rfl | assumption) :
    VS X C O O' (.Assign [.Name x pos'] (.Call (.Attribute (.Subscript (.Name y p1) ix p5) "pop" p2) [.Constant (.int 0) kk p4] [] p3) pos) (sPopIx i k fi) :=
  PSimp (ps_set hN hi hx (pe_bm PySem.F.plainAttrs_list PySem.F.slot_list_pop PySem.F.type_list_pop mt_popAt (pe_ix ix_list (pv k hk hv hd hcd) hix hpi) (pa_cons pe_int pa_nil hs) hbase hfew hline hs hplain) hsw hf) fun D σ H ⟨env, Fs, hs, ho, h⟩ => by
  unfold sPopIx at h
  split at h
  · rename_i ds e0
    have e0 := slotL_of e0
    obtain ⟨v, hv, r⟩ := hs.rep k _ e0
    obtain ⟨a, xs, G, rfl, ha, rG, eF⟩ := r
    refine ⟨.ref a, hv, env, Fs, hs, post_mono (out_post hs h) (fun n _ h1 u H1 F g1 => ?_) fun _ _ h => h⟩
    split at h1
    · rename_i n _
      split at h1
      · rename_i j hj
        split at h1
        · rename_i d es hd
          split at h1
          · rename_i hc
            rw [Bool.and_eq_true, Bool.and_eq_true] at hc
            obtain ⟨⟨hfl, hl⟩, hik⟩ := hc
            have hl := of_decide_eq_true hl
            have hr := g1.rep
            obtain ⟨rfl, rfl⟩ := hr
            have rG1 := rG.mono g1.same
            have ha1 := g1.same _ _ ha
            have ndG : (a :: G).Nodup := by rw [← eF]; exact ho.nd k hO
            obtain ⟨b, us, G1, G2, q1, q2, q3, eG, q4⟩ := repl_inner hfl rG1 hd (List.nodup_cons.mp ndG).2
            obtain ⟨x, ys, F1, F2, rfl, r1, r2, eE⟩ := id q3
            have hfl' : flat d = true ∧ flatL es = true := by simpa [flatL] using hfl
            obtain rfl := Rep.flat d x F1 hfl'.1 r1
            obtain rfl := RepL.flat es ys F2 hfl'.2 r2
            have hat : atI xs n = some (.ref b) := by
              unfold atI
              rw [rG.length, hj]
              exact q1
            refine ⟨a, xs, n, .ref b, rfl, rfl, SqL.of ha1, hat, tyV_list (SqL.of q2), b, x :: ys, 0, 0, x, rfl, rfl, q2, by decide, by decide, by simp [seqIndex?], rfl, ?_⟩
            have hab : b ≠ a := fun z => by
              have := (List.nodup_cons.mp ndG).1
              rw [eG, z] at this
              exact this (by simp)
            have hlk : k < env.length := (List.getElem?_eq_some_iff.mp e0).1
            have bF : b ∈ Fs k := by rw [eF, eG]; simp
            have rk : Rep X.K (upd H1 b (.lst ys)) (.list (ds.set j (.list es))) (.ref a) (a :: G) := ⟨a, xs, G, rfl, by rw [upd_ne (Ne.symm hab)]; exact ha1, q4 ys es r2, rfl⟩
            obtain ⟨m1, m2, m3⟩ := mutd (O := O) (d' := .list (ds.set j (.list es))) (F' := a :: G) (ch := fun c => c = b) hs g1.same ho hO hlk hv (fun c z => by rw [z]; exact bF) upd_keep (upd_dom ⟨_, q2⟩) rk ndG (fun c hc => .inl (by rw [eF]; exact hc))
            have r1' : Rep X.K (upd H1 b (.lst ys)) d x [] := Rep.keep (own := fun c => c = b) upd_keep (fun c z => z ▸ .inl ⟨_, q2⟩) d x [] (fun _ z => (nomatch z)) r1
            obtain ⟨o1, o2⟩ := owns_set (O' := O') (A := []) (i := i) m1 m2 (.flat (Same.refl _) r1') ok
            exact h1 _ _ _ (m1.set (by simpa using hl) r1') o1 (m3.trans o2)
          · exact h1.elim
        · exact h1.elim
      · exact h1.elim
    · exact h1.elim
  · exact h.elim
end
end PV

set_option Elab.async false
set_option linter.all false
set_option maxRecDepth 100000
namespace PV
open PySem PySem.Spec L2
open PyProof.Rows hiding St
/-! ### a pair as a comprehension's target -/
theorem tg_pair {pr : Bool} {X : Cx} (i j : Nat) (hij : i ≠ j) : TgOk pr X (gTup X.K 2 (gCons (gName i) (gCons (gName j) gNil))) (tPair i j) [i, j] := fun d x G env σ H Fs Q env1 hs it e k => by
  unfold tPair at e
  split at e
  · rename_i d1 d2
    split at e
    · rename_i hl
      cases e
      have key : ∀ T x1 x2 G1 G2, x = .ref T → SqT X.K H T [x1, x2] → Rep X.K H d1 x1 G1 → Rep X.K H d2 x2 G2 → G = G1 ++ G2 → gTup X.K 2 (gCons (gName i) (gCons (gName j) gNil)) x σ H Q := fun T x1 x2 G1 G2 e1 s r1 r2 e2 => by
        subst e1 e2
        refine ⟨T, [x1, x2], rfl, s, rfl, x1, [x2], rfl, x2, [], rfl, rfl, ?_⟩
        refine k _ _ ((hs.set hl.1 r1).set (by simpa using hl.2) r2) (fun m hm => ?_) (fun m hm a ha => ?_) ⟨[(i, x1), (j, x2)], rfl, mem2⟩
        · rw [updF_ne (fun e => hm (by simp [e])), updF_ne fun e => hm (by simp [e])]
        · by_cases e2 : m = j
          · subst e2
            rw [updF_same] at ha
            exact List.mem_append_right _ ha
          · have e1 : m = i := by
              rcases List.mem_cons.mp hm with z | z
              · exact z
              · exact absurd (by simpa using z) e2
            subst e1
            rw [updF_ne e2, updF_same] at ha
            exact List.mem_append_left _ ha
      rcases it with r | ⟨_, d1', d2', T, x1, x2, G1, G2, e0, e1, s, r1, r2, e2⟩
      · obtain ⟨T, xs, rfl, s, r⟩ := r
        obtain ⟨x1, x2, G1, G2, rfl, r1, r2, rfl⟩ := repl_two r
        exact key T x1 x2 G1 G2 rfl s.sq r1 r2 rfl
      · cases e0
        exact key T x1 x2 G1 G2 e1 s r1 r2 e2
    · cases e
  · cases e
theorem pg_pairB {X : Cx} {s : Shared} {H : Hp} {scope : Scope} {cenv : Env} {fp : List Addr} (i j : Nat) {x y : Str} {px py pos : Pos} {kk : Nat} (hc : X.calm = true) (hN : X.N.Nodup) (hi : X.N[i]? = some x := by rfl) (hj : X.N[j]? = some y := by rfl)
    (hx : Loc cenv.scope x := by first | exact Or.inl rfl | exact Or.inr rfl) (hy : Loc cenv.scope y := by first | exact Or.inl rfl | exact Or.inr rfl)
    (hf : (X.blk s H scope cenv fp).fn x = true ∨ cenv.scope.names.lookup x = some .local := by first | exact .inl rfl | exact .inr rfl | assumption) (hf2 : (X.blk s H scope cenv fp).fn y = true ∨ cenv.scope.names.lookup y = some .local := by first | exact .inl rfl | exact .inr rfl | assumption) :
    PG (X.blk s H scope cenv fp) (.Tuple [.Name x px, .Name y py] kk pos) (gTup X.K 2 (gCons (gName i) (gCons (gName j) gNil))) :=
  pg_tup (X := X.blk s H scope cenv fp) hc (pgs_cons (pg_name hN hi hx hf) (pgs_cons (pg_name hN hj hy hf2) pgs_nil))
/-! ### the own exceptions' classes -/
structure ExcF (K : PySem.W.Frag) (mg : Str → Option Value) (x : Str) (C : Addr) : Prop where
  gC : mg x = some (.ref C)
  xF : PySem.W.excIn K C [.type "ValueError", .type "Exception", .type "BaseException", .type "object"] "ValueError.__new__" = true
  kF : PySem.W.keepIn K (.ref C) = true
  bF : PySem.W.subIn K (.ref C) (.type "BaseException") = some true
  tF : PySem.W.typeIn K (.ref C) = some (.type "type")
def ecOf (l : List (Nat × Addr)) (n : Nat) : Addr := (l.lookup n).getD 0
theorem vs_raiseF {X : Cx} {C : Cc} {O O' : List Nat} {c : Nat} {x m : Str} {j : Nat} {p p2 pos pos2 : Pos} (hc : X.calm = true) (tk : Takes X C.W) (F : ExcF X.K X.mg x (C.ec c)) (hg : Gl X x := by rfl) (c0 : c ≠ 0 := by decide) (hdb : (x == ("__debug__" : Str)) = false := by decide) :
    VS X C O O' (.Raise (some (.Call (.Name x p) [.Constant (.str m) j p2] [] pos)) none pos2) (sRaise c) :=
  vs_raise hc tk (pmk_own PySem.F.excBase_ValueError F.xF F.gC F.kF (raises_own F.bF F.tF) hg hdb) c0
theorem lookup_relabel {env : Env} : ∀ {names : List (Str × NameKind)} {x : Str}, (names.lookup x = some .cell ∨ names.lookup x = some .free) →
    ((names.map fun (n, k) => if (k == NameKind.free && env.scope.kind == .function && env.kindOf n == some .cell) then (n, NameKind.cell) else (n, k)).lookup x = some .cell ∨ (names.map fun (n, k) => if (k == NameKind.free && env.scope.kind == .function && env.kindOf n == some .cell) then (n, NameKind.cell) else (n, k)).lookup x = some .free)
  | [], x, h => by simp at h
  | (n, k) :: r, x, h => by
    have ih := @lookup_relabel env r x
    show List.lookup x ((if (k == NameKind.free && env.scope.kind == .function && env.kindOf n == some .cell) = true then (n, NameKind.cell) else (n, k)) :: _) = _ ∨ List.lookup x ((if (k == NameKind.free && env.scope.kind == .function && env.kindOf n == some .cell) = true then (n, NameKind.cell) else (n, k)) :: _) = _
    by_cases e : (x == n) = true
    · simp only [List.lookup_cons, e] at h
      split
      · left; simp only [List.lookup_cons, e]
      · simp only [List.lookup_cons, e]; exact h
    · simp only [Bool.not_eq_true] at e
      simp only [List.lookup_cons, e] at h
      have := ih h
      split <;> simpa only [List.lookup_cons, e] using this
theorem blkOk_relabel {N : List Str} {sc scope : Scope} {own : List (Str × Nat)} {env : Env} (h : BlkOk N sc scope own) : BlkOk N (relabel sc env) scope own :=
  ⟨h.kind, h.uniq, h.ix, fun y hy e => lookup_relabel (env := env) (h.free y hy e), h.own⟩
end PV

set_option Elab.async false
set_option linter.all false
set_option maxRecDepth 100000
namespace PV
open PySem PySem.Spec L2
open PyProof.Rows hiding St
/-! ### zip -/
def zipL (xs ys : List PyData) : List PyData := (xs.zip ys).map fun p => .tuple [p.1, p.2]
def zipOf : PyData → PyData → Res (List PyData)
  | .list xs, .list ys => .ok (zipL xs ys)
  | .tuple xs, .tuple ys => .ok (zipL xs ys)
  | _, _ => .bad
def iZipD (f g : Lo → Res PyData) : Lo → Res (List PyData) := fun env => (f env).bind fun x => (g env).bind fun y => zipOf x y
theorem zipL_get {xs ys : List PyData} {i : Nat} {d : PyData} (h : (zipL xs ys)[i]? = some d) : ∃ x y, xs[i]? = some x ∧ ys[i]? = some y ∧ d = .tuple [x, y] := by
  simp only [zipL, List.getElem?_map, Option.map_eq_some_iff] at h
  obtain ⟨p, h1, h2⟩ := h
  rw [List.getElem?_zip_eq_some] at h1
  exact ⟨p.1, p.2, h1.1, h1.2, h2.symm⟩
theorem zipL_length (xs ys : List PyData) : (zipL xs ys).length = min xs.length ys.length := by simp [zipL]
section
variable {X : Cx} {C : Cc} {e e2 : Expr} {pos : Pos} {A B : List Nat} {f f2 : Lo → Res PyData}
theorem vi_zip {elts : List Expr} {kk : Nat} {p tpos : Pos} (hg : Gl X "zip") (hm : X.mg "zip" = none) (h : VE X C A e f) (h2 : VE X C B e2 f2) (hs : starEach [e, e2] X.env = (false, eval e X.env) :: starEach [e2] X.env := by rfl) (hs1 : starEach [e2] X.env = (false, eval e2 X.env) :: starEach [] X.env := by rfl) (hpl : (backTo pos (starEach [e2] X.env)).any (·.1) = false := by rfl) :
    VI true X C (A ++ B) (.Tuple elts kk tpos) (.Call (.Name "zip" p) [e, e2] [] pos) (iZipD f f2) := PIby fun σ H R ⟨env, Fs, hs0, hr⟩ => by
  have ha : VA X C (A ++ (B ++ [])) [e, e2] (eCons f (eCons f2 eNil)) := va_cons h (va_cons h2 va_nil hs1) hs
  rw [List.append_nil] at ha
  refine ⟨_, RZ.pi_zipA hg hm ha hs hpl, env, Fs, hs0, ?_⟩
  show ((f env).bind fun d => ((f2 env).bind fun d2 => (Res.ok []).bind fun ds => Res.ok (d2 :: ds)).bind fun ds => Res.ok (d :: ds)).post _ _
  have hr : ((f env).bind fun x => (f2 env).bind fun y => zipOf x y).post _ _ := hr
  cases e1 : f env with
  | bad => rw [e1] at hr; exact hr.elim
  | exc c y => rw [e1] at hr; exact hr
  | ok d1 =>
    rw [e1] at hr
    cases e3 : f2 env with
    | bad => rw [e3] at hr; exact hr.elim
    | exc c y => rw [e3] at hr; exact hr
    | ok d2 =>
      rw [e3] at hr
      have hr : (zipOf d1 d2).post _ _ := hr
      intro vs H1 F g1
      obtain ⟨x1, x2, F1, F2, rfl, r1, r2, rfl⟩ := repl_two g1.rep
      cases d1 with
      | list ds1 =>
        cases d2 with
        | list ds2 =>
          obtain ⟨a, xs, G1, rfl, s1, r1, rfl⟩ := r1
          obtain ⟨b, ys, G2, rfl, s2, r2, rfl⟩ := r2
          refine ⟨a, b, xs, ys, rfl, .inl ⟨SqL.of s1, SqL.of s2, hr _ H1 _ g1.same g1.src fun own1 m n H k i => ?_⟩⟩
          have ka := k a _ s1 (n a (by simp))
          have kb := k b _ s2 (n b (by simp))
          refine ⟨fun hl => ⟨xs, ys, SqL.of ka, SqL.of kb, by rw [r1.length, r2.length]; rw [zipL_length] at hl; omega⟩, fun d hd => ?_⟩
          have q1 : RepL X.K H ds1 xs G1 := RepL.keep k m ds1 xs G1 (fun c hc => n c (by simp [hc])) r1
          have q2 : RepL X.K H ds2 ys G2 := RepL.keep k m ds2 ys G2 (fun c hc => n c (by simp [hc])) r2
          obtain ⟨z1, z2, hz1, hz2, rfl⟩ := zipL_get hd
          obtain ⟨v1, F1, Ga, F2, p1, p2, rfl⟩ := q1.get hz1
          obtain ⟨v2, F3, Gb, F4, p3, p4, rfl⟩ := q2.get hz2
          refine ⟨⟨xs, ys, v1, v2, SqL.of ka, SqL.of kb, p1, p3⟩, fun y H' ⟨T, u1, u2, e4, nT, e5, e6, e7⟩ => ?_⟩
          subst e4 e5
          have e6 := e6 xs (SqL.of ka)
          have e7 := e7 ys (SqL.of kb)
          rw [p1] at e6; rw [p3] at e7
          cases e6; cases e7
          exact ⟨same_upd nT, Ga ++ Gb, pair_item nT p2 p4, fun c hc => by
            rcases List.mem_append.mp hc with hc | hc
            · simp [hc]
            · simp [hc]⟩
        | _ => exact hr.elim
      | tuple ds1 =>
        cases d2 with
        | tuple ds2 =>
          obtain ⟨a, xs, rfl, s1, r1⟩ := r1
          obtain ⟨b, ys, rfl, s2, r2⟩ := r2
          refine ⟨a, b, xs, ys, rfl, .inr ⟨s1.sq, s2.sq, hr _ H1 _ g1.same g1.src fun own1 m n H k i => ?_⟩⟩
          have ka : SqT X.K H a xs := (ft_keep k m s1).sq
          have kb : SqT X.K H b ys := (ft_keep k m s2).sq
          refine ⟨fun hl => ⟨xs, ys, ka, kb, by rw [r1.length, r2.length]; rw [zipL_length] at hl; omega⟩, fun d hd => ?_⟩
          have q1 : RepL X.K H ds1 xs F1 := RepL.keep k m ds1 xs F1 (fun c hc => n c (by simp [hc])) r1
          have q2 : RepL X.K H ds2 ys F2 := RepL.keep k m ds2 ys F2 (fun c hc => n c (by simp [hc])) r2
          obtain ⟨z1, z2, hz1, hz2, rfl⟩ := zipL_get hd
          obtain ⟨v1, F5, Ga, F6, p1, p2, rfl⟩ := q1.get hz1
          obtain ⟨v2, F3, Gb, F4, p3, p4, rfl⟩ := q2.get hz2
          refine ⟨⟨xs, ys, v1, v2, ka, kb, p1, p3⟩, fun y H' ⟨T, u1, u2, e4, nT, e5, e6, e7⟩ => ?_⟩
          subst e4 e5
          have e6 := e6 xs ka
          have e7 := e7 ys kb
          rw [p1] at e6; rw [p3] at e7
          cases e6; cases e7
          exact ⟨same_upd nT, Ga ++ Gb, pair_item nT p2 p4, fun c hc => by
            rcases List.mem_append.mp hc with hc | hc
            · simp [hc]
            · simp [hc]⟩
        | _ => exact hr.elim
      | _ => exact hr.elim
end
/-! ### x.reverse(), x.clear() -/
def sRev (k : Nat) : Lo → Out := fun env => match slotL k env with
  | some ds => if flatL ds then .nx (env.set k (some (.list ds.reverse))) else .bad
  | none => .bad
def sClr (k : Nat) : Lo → Out := fun env => match slotL k env with
  | some _ => .nx (env.set k (some (.list [])))
  | none => .bad
theorem RepL.rev {K : PySem.W.Frag} {H : Hp} : ∀ {ds : List PyData} {xs : List V}, RepL K H ds xs [] → RepL K H ds.reverse xs.reverse []
  | [], xs, h => by obtain ⟨rfl, _⟩ := h; exact ⟨rfl, rfl⟩
  | d :: ds, xs, h => by
    obtain ⟨x, ys, F1, F2, rfl, r1, r2, e⟩ := h
    obtain ⟨rfl, rfl⟩ := List.append_eq_nil_iff.mp e.symm
    rw [List.reverse_cons, List.reverse_cons]
    exact (RepL.rev r2).append (.one r1)
section
variable {X : Cx} {C : Cc} {pos : Pos} {O : List Nat}
theorem vs_reverse (k : Nat) {x : Str} {p1 p2 p3 : Pos} (hO : k ∈ O := by decide) (hN : X.N[k]? = some x := by rfl) (hv : Vis X.env.scope x := by first | exact Or.inl rfl | exact Or.inr (Or.inl rfl) | exact Or.inr (Or.inr rfl)) (hd : (x == ("__debug__" : Str)) = false := by decide)
    (hcd : (x == ("__classdict__" : Str)) = false := by decide) (hbase : attributeBase (.Name x p1) "reverse" X.env (eval (.Name x p1) X.env) = eval (.Name x p1) X.env := by rfl)
    (hline : (p2.endLine == p3.line) = true := by rfl) (hs2 : swapsWith (.Call (.Attribute (.Name x p1) "reverse" p2) [] [] p3) none pos.line X.env = pure false := by rfl) :
    VS X C O O (.Expr (.Call (.Attribute (.Name x p1) "reverse" p2) [] [] p3) pos) (sRev k) :=
  PSimp (ps_expr (pe_bm0 PySem.F.plainAttrs_list PySem.F.slot_list_reverse PySem.F.type_list_reverse mt_reverse (pv k hN hv hd hcd) hbase hline) hs2) fun D σ H ⟨env, Fs, hs, ho, h⟩ => by
  unfold sRev at h
  split at h
  · rename_i ds e0
    have e0 := slotL_of e0
    split at h
    · rename_i hf
      obtain ⟨v, hv, r⟩ := hs.rep k _ e0
      obtain ⟨a, xs, G, rfl, ha, rG, eF⟩ := r
      have hG : G = [] := RepL.flat ds xs G hf rG
      subst hG
      refine ⟨_, hv, tyV_list (SqL.of ha), a, xs, rfl, rfl, ha, ?_⟩
      have hlk : k < env.length := (List.getElem?_eq_some_iff.mp e0).1
      have keepG : RepL X.K (upd H a (.lst xs.reverse)) ds xs [] := RepL.keep (own := fun b => b = a) upd_keep (fun b z => z ▸ .inl ⟨xs, ha⟩) ds xs [] (fun b hb => by simp at hb) rG
      have r' : Rep X.K (upd H a (.lst xs.reverse)) (.list ds.reverse) (.ref a) [a] := ⟨a, xs.reverse, [], rfl, upd_same, keepG.rev, rfl⟩
      obtain ⟨m1, m2, m3⟩ := mutd (O := O) (d' := .list ds.reverse) (F' := [a]) (ch := fun b => b = a) (H := H) hs (Same.refl H) ho hO hlk hv (fun b z => by rw [z, eF]; exact List.mem_cons_self) upd_keep (upd_dom ⟨_, ha⟩) r' (by simp) (fun b hb => .inl (by rw [eF]; exact hb))
      exact h σ _ _ m1 m2 m3
    · exact h.elim
  · exact h.elim
theorem vs_clear (k : Nat) {x : Str} {p1 p2 p3 : Pos} (hO : k ∈ O := by decide) (hN : X.N[k]? = some x := by rfl) (hv : Vis X.env.scope x := by first | exact Or.inl rfl | exact Or.inr (Or.inl rfl) | exact Or.inr (Or.inr rfl)) (hd : (x == ("__debug__" : Str)) = false := by decide)
    (hcd : (x == ("__classdict__" : Str)) = false := by decide) (hbase : attributeBase (.Name x p1) "clear" X.env (eval (.Name x p1) X.env) = eval (.Name x p1) X.env := by rfl)
    (hline : (p2.endLine == p3.line) = true := by rfl) (hs2 : swapsWith (.Call (.Attribute (.Name x p1) "clear" p2) [] [] p3) none pos.line X.env = pure false := by rfl) :
    VS X C O O (.Expr (.Call (.Attribute (.Name x p1) "clear" p2) [] [] p3) pos) (sClr k) :=
  PSimp (ps_expr (pe_bm0 PySem.F.plainAttrs_list PySem.F.slot_list_clear PySem.F.type_list_clear mt_clear (pv k hN hv hd hcd) hbase hline) hs2) fun D σ H ⟨env, Fs, hs, ho, h⟩ => by
  unfold sClr at h
  split at h
  · rename_i ds e0
    have e0 := slotL_of e0
    obtain ⟨v, hv, r⟩ := hs.rep k _ e0
    obtain ⟨a, xs, G, rfl, ha, rG, eF⟩ := r
    refine ⟨_, hv, tyV_list (SqL.of ha), a, xs, rfl, rfl, ha, ?_⟩
    have hlk : k < env.length := (List.getElem?_eq_some_iff.mp e0).1
    have r' : Rep X.K (upd H a (.lst [])) (.list []) (.ref a) [a] := ⟨a, [], [], rfl, upd_same, ⟨rfl, rfl⟩, rfl⟩
    obtain ⟨m1, m2, m3⟩ := mutd (O := O) (d' := .list []) (F' := [a]) (ch := fun b => b = a) (H := H) hs (Same.refl H) ho hO hlk hv (fun b z => by rw [z, eF]; exact List.mem_cons_self) upd_keep (upd_dom ⟨_, ha⟩) r' (by simp) (fun b hb => .inl (by rw [eF]; simp at hb; simp [hb]))
    exact h σ _ _ m1 m2 m3
  · exact h.elim
end
end PV

set_option Elab.async false
set_option linter.all false
set_option maxRecDepth 100000
namespace PV
open PySem PySem.Spec L2
open PyProof.Rows hiding St
/-! ### dicts -/
def keyIs (k : Int) : PyData × PyData → Bool
  | (.int j, _) => decide (j = k)
  | _ => false
def putE (kvs : List (PyData × PyData)) (k : Int) (d : PyData) : List (PyData × PyData) :=
  if kvs.any (keyIs k) then kvs.map fun p => if keyIs k p then (p.1, d) else p else kvs ++ [(.int k, d)]
theorem dictK_cons {p : PyData × PyData} {r : List (PyData × PyData)} {ks : List (Key × V)} (h : dictK (p :: r) = some ks) : ∃ j d v ks', p = (.int j, d) ∧ atomV d = some v ∧ dictK r = some ks' ∧ ks = (Sum.inl j, v) :: ks' := by
  obtain ⟨a, d⟩ := p
  cases a with
  | int j =>
    simp only [dictK] at h
    split at h
    · rename_i v ks' h1 h2
      cases h
      exact ⟨j, d, v, ks', rfl, h1, h2, rfl⟩
    · cases h
  | _ => simp [dictK] at h
theorem dictK_mk {j : Int} {d : PyData} {v : V} {r : List (PyData × PyData)} {ks : List (Key × V)} (h1 : atomV d = some v) (h2 : dictK r = some ks) : dictK ((.int j, d) :: r) = some ((Sum.inl j, v) :: ks) := by
  simp only [dictK, h1, h2]
theorem dictK_any (k : Int) : ∀ {kvs : List (PyData × PyData)} {ks : List (Key × V)}, dictK kvs = some ks → kvs.any (keyIs k) = ks.any fun kv => decide (kv.1 = Sum.inl k)
  | [], ks, h => by simp [dictK] at h; subst h; rfl
  | p :: r, ks, h => by
    obtain ⟨j, d, v, ks', rfl, h1, h2, rfl⟩ := dictK_cons h
    have := dictK_any k h2
    simp [keyIs, this]
theorem dictK_map (k : Int) {e : PyData} {w : V} (he : atomV e = some w) : ∀ {kvs : List (PyData × PyData)} {ks : List (Key × V)}, dictK kvs = some ks →
    dictK (kvs.map fun p => if keyIs k p then (p.1, e) else p) = some (ks.map fun kv => if kv.1 = Sum.inl k then (kv.1, w) else kv)
  | [], ks, h => by simp [dictK] at h; subst h; rfl
  | p :: r, ks, h => by
    obtain ⟨j, d, v, ks', rfl, h1, h2, rfl⟩ := dictK_cons h
    have := dictK_map k he h2
    by_cases ej : j = k
    · subst ej; simpa [keyIs] using dictK_mk (j := j) he this
    · simpa [keyIs, ej] using dictK_mk (j := j) h1 this
theorem dictK_app (k : Int) {e : PyData} {w : V} (he : atomV e = some w) : ∀ {kvs : List (PyData × PyData)} {ks : List (Key × V)}, dictK kvs = some ks → dictK (kvs ++ [(.int k, e)]) = some (ks ++ [(Sum.inl k, w)])
  | [], ks, h => by simp [dictK] at h; subst h; exact dictK_mk he rfl
  | p :: r, ks, h => by
    obtain ⟨j, d, v, ks', rfl, h1, h2, rfl⟩ := dictK_cons h
    exact dictK_mk h1 (dictK_app k he h2)
theorem dictK_put {kvs : List (PyData × PyData)} {ks : List (Key × V)} {k : Int} {e : PyData} {w : V} (h : dictK kvs = some ks) (he : atomV e = some w) : dictK (putE kvs k e) = some (putK ks (Sum.inl k) w) := by
  unfold putE putK
  rw [dictK_any k h]
  split
  · exact dictK_map k he h
  · exact dictK_app k he h
theorem dictK_len : ∀ {kvs : List (PyData × PyData)} {ks : List (Key × V)}, dictK kvs = some ks → kvs.length = ks.length
  | [], ks, h => by simp [dictK] at h; subst h; rfl
  | p :: r, ks, h => by
    obtain ⟨j, d, v, ks', rfl, h1, h2, rfl⟩ := dictK_cons h
    simp [dictK_len h2]
theorem rep_dict {K : PySem.W.Frag} {H : Hp} {kvs : List (PyData × PyData)} {ks : List (Key × V)} {v : V} {F : List Addr} (h : dictK kvs = some ks) (r : Rep K H (.dict kvs) v F) : ∃ a, v = .ref a ∧ H a = some (.dK ks) ∧ F = [a] := by
  rcases r with ⟨a, ks', rfl, h1, h2, rfl⟩ | ⟨a, ns, rfl, rfl, _, _⟩ | ⟨hx, _⟩
  · rw [h] at h1; cases h1; exact ⟨a, rfl, h2, rfl⟩
  · simp [scrP, dictK] at h
  · rw [hx.dictK] at h; cases h
/-- {} -/
def eDict0 : Lo → Res PyData := fun _ => .ok (.dict [])
/-- {k: v} -/
def dDisp (k v : PyData) : Option PyData := match k with
  | .int i => if atom v then some (.dict [(.int i, v)]) else none
  | _ => none
def eDict1 (fk fv : Lo → Res PyData) : Lo → Res PyData := eOp dDisp fk fv
section
variable {X : Cx} {C : Cc} {e i k v : Expr} {pos : Pos} {A B O : List Nat} {f fi fk fv : Lo → Res PyData}
theorem ve_dict0 : VE X C [] (.Dict [] [] pos) eDict0 := (pe_dnewK (X := X)).imp fun σ H Q ⟨env, Fs, hs, h⟩ p hp => by
  have h : ∀ v H' F, Got X.K [] H Fs (.dict []) v H' F → Q v H' := h
  refine h (.ref p) _ [p] ⟨.inl ⟨p, [], rfl, rfl, upd_same, rfl⟩, same_upd hp, fun a ha => ?_, fun _ _ => by simp⟩
  have : a = p := by simpa using ha
  subst this
  exact .inl ⟨hp, .inr ⟨[], upd_same⟩⟩
/-! k in d -/
def dInK (x y : PyData) : Option PyData := match x, y with
  | .int i, .dict kvs => if (dictK kvs).isSome then some (.bool (lookD kvs i).isSome) else none
  | _, _ => none
def dNotInK (x y : PyData) : Option PyData := match x, y with
  | .int i, .dict kvs => if (dictK kvs).isSome then some (.bool (!(lookD kvs i).isSome)) else none
  | _, _ => none
theorem look_some {kvs : List (PyData × PyData)} {ks : List (Key × V)} {i : Int} (h : dictK kvs = some ks) : (valV ks (.inl i)).isSome = (lookD kvs i).isSome := by
  obtain ⟨h1, h2⟩ := lookD_val (i := i) h
  rw [h1]
  cases e : lookD kvs i with
  | none => rfl
  | some d => exact h2 d e
theorem op_dinK (hu : X.A.units + 1 < cLine) : OpR X (compareOp .In) fun x y H Q => ∃ a o, y = .ref a ∧ DGet H a x o ∧ Q (.bl o.isSome) H := fun pins s σ H x y v u Q I rx ry ⟨a, o, e, g, q⟩ => by
  subst e
  obtain rfl : u = Value.ref a := ry
  exact d_in hu I g rx fun s3 I3 => ⟨.bl o.isSome, H, I3, rfl, q⟩
theorem op_dnotinK (hu : X.A.units + 1 < cLine) : OpR X (compareOp .NotIn) fun x y H Q => ∃ a o, y = .ref a ∧ DGet H a x o ∧ Q (.bl (!o.isSome)) H := fun pins s σ H x y v u Q I rx ry ⟨a, o, e, g, q⟩ => by
  subst e
  obtain rfl : u = Value.ref a := ry
  exact d_notIn hu I g rx fun s3 I3 => ⟨.bl (!o.isSome), H, I3, rfl, q⟩
theorem ok_inK (hu : X.A.units + 65 < cLine) : OpOk X (compareOp .In) dInK := fun d1 d2 d e => by
  unfold dInK at e
  split at e
  · rename_i i kvs
    split at e
    · rename_i hc
      cases e
      obtain ⟨ks, hk⟩ := Option.isSome_iff_exists.mp hc
      refine ⟨_, op_dinK (by omega), fun x y F1 F2 H Q h1 h2 k => ?_⟩
      obtain ⟨rfl, rfl⟩ := h1
      obtain ⟨a, rfl, ha, rfl⟩ := rep_dict hk h2
      refine ⟨a, _, rfl, DGet.k (k := Sum.inl i) ha, ?_⟩
      rw [look_some hk]
      exact fin_bool k
    · cases e
  · cases e
theorem ok_notInK (hu : X.A.units + 65 < cLine) : OpOk X (compareOp .NotIn) dNotInK := fun d1 d2 d e => by
  unfold dNotInK at e
  split at e
  · rename_i i kvs
    split at e
    · rename_i hc
      cases e
      obtain ⟨ks, hk⟩ := Option.isSome_iff_exists.mp hc
      refine ⟨_, op_dnotinK (by omega), fun x y F1 F2 H Q h1 h2 k => ?_⟩
      obtain ⟨rfl, rfl⟩ := h1
      obtain ⟨a, rfl, ha, rfl⟩ := rep_dict hk h2
      refine ⟨a, _, rfl, DGet.k (k := Sum.inl i) ha, ?_⟩
      rw [look_some hk]
      exact fin_bool k
    · cases e
  · cases e
theorem bo_inK : boolG dInK := fun d1 d2 d h => by
  unfold dInK at h
  split at h
  · split at h
    · cases h; exact ⟨_, rfl⟩
    · cases h
  · cases h
theorem bo_notInK : boolG dNotInK := fun d1 d2 d h => by
  unfold dNotInK at h
  split at h
  · split at h
    · cases h; exact ⟨_, rfl⟩
    · cases h
  · cases h
theorem ve_dict1 (h1 : VE X C A k fk) (h2 : VE X C B v fv) : VE X C [] (.Dict [some k] [v] pos) (eDict1 fk fv) :=
  (pe_disp (pps_cons h1 h2 pps_nil) rfl rfl (by simp) (by simp)).imp fun σ H Q ⟨env, Fs, hs, h⟩ p hp => by
  have s0 : Same H (upd H p (.dK [])) := same_upd hp
  have hs0 := hs.mono s0
  have h : ((fk env).bind fun x => (fv env).bind fun y => Res.of (dDisp x y)).post _ _ := h
  refine ⟨env, Fs, hs0, post_mono (post_bind h) (fun d1 _ q1 x H1 F1 g1 => ?_) fun c x z H' dx s e => z H' dx (s0.trans s) e⟩
  refine ⟨env, Fs, hs0.mono g1.same, post_mono (post_bind q1) (fun d2 _ q2 y H2 F2 g2 => ?_) fun c x z H' dx s e => z H' dx ((s0.trans g1.same).trans s) e⟩
  cases d1 with
  | int i =>
    by_cases ha : atom d2 = true
    · have q2 : (Res.of (if atom d2 then some (PyData.dict [(.int i, d2)]) else none)).post _ _ := q2
      rw [if_pos ha] at q2
      obtain ⟨wv, hwv⟩ := Option.isSome_iff_exists.mp ha
      obtain ⟨rfl, _⟩ := g1.rep
      obtain rfl := rep_atom g2.rep hwv
      have s2 := g1.same.trans g2.same
      have hp2 : H2 p = some (.dK []) := s2 _ _ upd_same
      refine ⟨hp2, [(Sum.inl i, y)], rfl, by simp, ?_⟩
      have q2 : ∀ v H' F, Got X.K [] H Fs (.dict [(.int i, d2)]) v H' F → Q v H' := q2
      refine q2 _ _ [p] ⟨.inl ⟨p, _, rfl, dictK_mk hwv rfl, upd_same, rfl⟩, fun a o e => ?_, fun a ha => ?_, fun _ _ => by simp⟩
      · have hne : a ≠ p := fun z => by rw [z, hp] at e; cases e
        rw [upd_ne hne]; exact s2 _ _ (s0 _ _ e)
      · have : a = p := by simpa using ha
        subst this
        exact .inl ⟨hp, .inr ⟨_, upd_same⟩⟩
    · have q2 : (Res.of (if atom d2 then some (PyData.dict [(.int i, d2)]) else none)).post _ _ := q2
      rw [if_neg ha] at q2; exact q2.elim
  | _ => exact q2.elim
def slotD (k : Nat) (env : Lo) : Option (List (PyData × PyData)) := match env[k]? with
  | some (some (.dict kvs)) => if (dictK kvs).isSome then some kvs else none
  | _ => none
theorem slotD_of {k : Nat} {env : Lo} {kvs : List (PyData × PyData)} (h : slotD k env = some kvs) : env[k]? = some (some (.dict kvs)) ∧ ∃ ks, dictK kvs = some ks := by
  unfold slotD at h
  split at h
  · rename_i kvs' e
    split at h
    · rename_i hc
      cases h
      exact ⟨e, Option.isSome_iff_exists.mp hc⟩
    · cases h
  · cases h
def sDPutD (k : Nat) (f fi : Lo → Res PyData) : Lo → Out := fun env => (f env).out env fun d => match slotD k env with
  | some kvs => (fi env).out env fun i => match i with
    | .int n => if atom d && decide (kvs.length < 100000) then .nx (env.set k (some (.dict (putE kvs n d)))) else .bad
    | _ => .bad
  | none => .bad
theorem vs_dput (k : Nat) {x : Str} {p1 p2 : Pos} (gd : Gd X) (h : VE X C A e f) (hi : VE X C B i fi) (hO : k ∈ O := by decide) (hN : X.N[k]? = some x := by rfl) (hv : Vis X.env.scope x := by first | exact Or.inl rfl | exact Or.inr (Or.inl rfl) | exact Or.inr (Or.inr rfl)) (hd : (x == ("__debug__" : Str)) = false := by decide)
    (hcd : (x == ("__classdict__" : Str)) = false := by decide) (hs : swapsWith e (some (.Subscript (.Name x p1) i p2)) pos.line X.env = pure false := by rfl) :
    VS X C O O (.Assign [.Subscript (.Name x p1) i p2] e pos) (sDPutD k f fi) :=
  PSimp (ps_dput (by have := gd.hu; omega) (pv k hN hv hd hcd) hi h hs) fun D σ H ⟨env, Fs, hs, ho, h⟩ => by
  refine ⟨env, Fs, hs, post_mono (out_post hs h) (fun d _ h1 v H1 F g1 => ?_) fun _ _ h => h⟩
  split at h1
  · rename_i kvs e0
    obtain ⟨e0, ks, hk⟩ := slotD_of e0
    obtain ⟨w, hw, r⟩ := hs.rep k _ e0
    have r0 := r
    obtain ⟨a, rfl, ha, eF⟩ := rep_dict hk r
    have hs1 := hs.mono g1.same
    have fr1 : Fr (own O Fs) H (own O Fs) H1 := fr_same g1.same
    refine ⟨_, hw, env, Fs, hs1, post_mono (out_post hs1 (postS_fr fr1 h1)) (fun iv _ h2 y H2 F2 g2 => ?_) fun _ _ h => h⟩
    split at h2
    · rename_i n _
      split at h2
      · rename_i hc
        rw [Bool.and_eq_true, decide_eq_true_eq] at hc
        obtain ⟨wv, hwv⟩ := Option.isSome_iff_exists.mp hc.1
        have ry := g2.rep
        obtain ⟨rfl, rfl⟩ := ry
        have s2 := g1.same.trans g2.same
        have ha2 := s2 _ _ ha
        obtain rfl := rep_atom g1.rep hwv
        have hlk : k < env.length := (List.getElem?_eq_some_iff.mp e0).1
        have hl : ks.length < sizeLine := by rw [← dictK_len hk, sizeLine_eq]; omega
        refine ⟨a, _, rfl, DPut.k (k := Sum.inl n) ha2 hl, ?_⟩
        have r' : Rep X.K (upd H2 a (.dK (putK ks (Sum.inl n) v))) (.dict (putE kvs n d)) (.ref a) [a] := .inl ⟨a, _, rfl, dictK_put hk hwv, upd_same, rfl⟩
        obtain ⟨m1, m2, m3⟩ := mutd (O := O) (d' := .dict (putE kvs n d)) (F' := [a]) (ch := fun b => b = a) (H := H2) hs1 g2.same ho hO hlk hw (fun b z => by rw [z, eF]; exact List.mem_cons_self) upd_keep (upd_dom ⟨_, ha2⟩) r' (by simp) (fun b hb => .inl (by rw [eF]; exact hb))
        exact h2 σ _ _ m1 m2 m3
      · exact h2.elim
    · exact h2.elim
  · exact h1.elim
end
end PV

set_option Elab.async false
set_option linter.all false
set_option maxRecDepth 100000
namespace PV
open PySem PySem.Spec L2
open PyProof.Rows hiding St
/-! ### tuple(range(n)) -/
section
variable {X : Cx} {C : Cc} {e : Expr} {pos : Pos} {A : List Nat} {f : Lo → Res PyData} {te : St → Hp → (Int → Int → Hp → Prop) → Prop}
theorem pe_tupRgF {p pos : Pos} (hc : X.calm = true) (hg : Gl X "tuple") (hm : X.mg "tuple" = none) (he : PRg X e te) (na : starEach [e] X.env = (false, eval e X.env) :: starEach [] X.env := by rfl) :
    PE X (.Call (.Name "tuple" p) [e] [] pos) (fun σ H Q => te σ H fun a b H1 => RgOk a b ∧ ∀ q o, H1 q = none → o.dict = none → Q (.ref q) (upd H1 q (.frz o (.tup (rgV a b))))) := by
  refine ⟨fun pins s σ H Q I h => ?_⟩
  refine Call_ (ld_blt I hg hm boot_tuple (PyProof.Rows.callWith_type1 (args_cons (thn (he pins s σ H _ I h) fun x s1 ⟨r, a, b, t, u, v, H1, ex, hr, I1, ok, q⟩ => args_nil ?_) na) na))
  subst ex
  obtain ⟨b1, b2, b3, b4, b5⟩ := ok
  refine call_tuple_range (n := (b - a).toNat) (I1.ok.hd hc) hr (small_one b1 b2 b3 b4) (rangeSize_nat a b) b5 fun h' tk acc hk hi => ?_
  have I2 : Inv X pins σ H1 { s1 with heap := h', toks := tk } := I1.kept hk
  refine ⟨.ref h'.objs.size, upd H1 h'.objs.size (.frz (TupO acc.toList) (.tup (rgV a b))), ?_, rfl, q _ _ (I2.hok.fresh (Nat.le_refl _)) rfl⟩
  have := I2.newTup (t' := tk) (xs := rgV a b) (us := acc.toList) (vals_rg hi) (by rw [rgV_length, sizeLine_eq]; omega)
  simpa [TupO] using this
def eTupRg (f : Lo → Res PyData) : Lo → Res PyData := fun env => ((f env).bind fun d => intOf [d]).bind fun n => .ok (.tuple ((List.range n.toNat).map fun i => .int (i : Nat)))
theorem ve_tupRg {p p2 pos2 : Pos} (gd : Gd X) (hg : Gl X "tuple") (hm : X.mg "tuple" = none) (hg2 : Gl X "range") (hm2 : X.mg "range" = none) (h : VE X C A e f) (na2 : starEach [e] X.env = (false, eval e X.env) :: starEach [] X.env := by rfl)
    (na : starEach [.Call (.Name "range" p2) [e] [] pos2] X.env = (false, eval (.Call (.Name "range" p2) [e] [] pos2) X.env) :: starEach [] X.env := by rfl) : VE X C [] (.Call (.Name "tuple" p) [.Call (.Name "range" p2) [e] [] pos2] [] pos) (eTupRg f) :=
  (pe_tupRgF gd.calm hg hm (prg_1 hg2 hm2 h na2) na).imp fun σ H Q ⟨env, Fs, hs, h⟩ => by
  refine ⟨env, Fs, hs, post_mono (post_bind (post_bind h)) (fun d _ h1 v H1 F g1 => ?_) fun _ _ h => h⟩
  unfold intOf at h1
  split at h1
  · rename_i n en
    cases en
    split at h1
    · rename_i hn
      have r := g1.rep
      obtain ⟨rfl, rfl⟩ := r
      refine ⟨n, rfl, ⟨by omega, by omega, by omega, by omega, by omega⟩, fun q o nq od => h1 (.ref q) _ [] ?_⟩
      refine got_tup (G := []) (xs := rgV 0 n) ?_ g1.same (fun _ z => (nomatch z)) (fun _ _ => List.nodup_nil) nq od
      unfold rgV
      rw [Int.sub_zero]
      exact rg_rep _
    · exact h1.elim
  · exact h1.elim
end
end PV

set_option Elab.async false
set_option linter.all false
set_option maxRecDepth 100000
namespace PV
open PySem PySem.Spec L2
open PyProof.Rows hiding St
/-! ### the own exceptions, caught and asked -/
/-- an exception of tag c is one of tag t; 5: any -/
def under (c t : Nat) : Bool := c == t || t == 5
structure ExcP (K : PySem.W.Frag) (ec : Nat → Addr) (c t : Nat) : Prop where
  ex : PySem.W.exmOne K (.ref (ec c)) (.ref (ec t)) = some (under c t)
  ki : PySem.W.kitOne K (.ref (ec c)) (.ref (ec t)) = some (under c t)
structure ExcR (K : PySem.W.Frag) (ec : Nat → Addr) (ts : List Nat) (c : Nat) : Prop where
  cc : ExcC K (ec c)
  kv : PySem.W.kitOne K (.ref (ec c)) (.type "ValueError") = some true
  pr : ∀ t ∈ ts, ExcP K ec c t
abbrev ExcT (K : PySem.W.Frag) (ec : Nat → Addr) (cs ts : List Nat) : Prop := ∀ c ∈ cs, ExcR K ec ts c
theorem kit_of {K : PySem.W.Frag} {D C : Addr} {b : Bool} (ht : PySem.W.typeIn K (.ref C) = some (.type "type")) (hc : PySem.W.hasDictIn K C = true) (hs : PySem.W.subIn K (.ref D) (.ref C) = some b) (self : PySem.W.subIn K (.ref D) (.ref D) = some true) : PySem.W.kitOne K (.ref D) (.ref C) = some b := by
  obtain ⟨cd, hc, _⟩ := PySem.W.any_some hc
  unfold PySem.W.kitOne
  split
  · rename_i e
    have : D = C := by simpa using e
    subst this
    rw [self] at hs
    exact hs
  · unfold PySem.W.kitCls
    have e2 : ((PySem.W.clsIn K C).isSome && PySem.W.typeIn K (.ref C) == some (.type "type")) = true := by rw [hc, ht] <;> rfl
    simp only [e2, if_true]
    exact hs
theorem kitv_of {K : PySem.W.Frag} {D : Addr} (hs : PySem.W.subIn K (.ref D) (.type "ValueError") = some true) : PySem.W.kitOne K (.ref D) (.type "ValueError") = some true := by
  have e1 : ((Value.ref D) == Value.type "ValueError") = false := by simp
  have e2 : PySem.W.kitMeta "ValueError" = true := by decide +kernel
  unfold PySem.W.kitOne PySem.W.kitCls
  simp only [e1, e2, if_true]
  exact hs
theorem excP_mk {K : PySem.W.Frag} {ec : Nat → Addr} {c t : Nat} (bt : PySem.W.subIn K (.ref (ec t)) (.type "BaseException") = some true) (ht : PySem.W.typeIn K (.ref (ec t)) = some (.type "type")) (hc : PySem.W.hasDictIn K (ec t) = true)
    (hs : PySem.W.subIn K (.ref (ec c)) (.ref (ec t)) = some (under c t)) (self : PySem.W.subIn K (.ref (ec c)) (.ref (ec c)) = some true) : ExcP K ec c t :=
  ⟨PySem.W.exm_ref bt hc ht hs, kit_of ht hc hs self⟩
/-- what stands for the exception that a suite holds -/
def hdl (c : Nat) (a d : Addr) (x : PyData) : List (PyData × PyData) := if c = 0 then excA a d x else excP a
def isHd (c : Nat) (a d : Addr) : PyData → Bool
  | .dict [(.bool true, .int z), (.bool false, .int y), (.none, _)] => decide (c = 0) && decide (z = ((a : Nat) : Int)) && decide (y = ((d : Nat) : Int))
  | .dict [(.bool true, .int z)] => decide (c ≠ 0) && decide (z = ((a : Nat) : Int))
  | _ => false
theorem isHd_hdl (c : Nat) (a d : Addr) (x : PyData) : isHd c a d (.dict (hdl c a d x)) = true := by
  unfold hdl
  by_cases h : c = 0
  · rw [if_pos h]; simp [isHd, excA, h]
  · rw [if_neg h]; simp [isHd, excP, h]
theorem isHd_rep {K : PySem.W.Frag} {H : Hp} {c : Nat} {a d : Addr} {p : PyData} {v : V} {F : List Addr} (h : isHd c a d p = true) (r : Rep K H p v F) : v = .ref a ∧ (c = 0 → ∃ w, H d = some (.xd [("at", w)])) := by
  unfold isHd at h
  split at h
  · rename_i z y x
    rw [Bool.and_eq_true, Bool.and_eq_true] at h
    obtain ⟨⟨h0, h1⟩, h2⟩ := h
    have h1 := of_decide_eq_true h1
    have h2 := of_decide_eq_true h2
    rcases r with ⟨_, ks, _, h3, _⟩ | ⟨_, ns, _, h3, _⟩ | ⟨⟨a', e, h3⟩, _⟩
    · cases h3
    · cases h3
    · rcases h3 with h3 | ⟨d', x', w, h3, h4, _⟩ | ⟨h3, _⟩
      · cases h3
      · simp only [excA, List.cons.injEq, Prod.mk.injEq, PyData.int.injEq] at h3
        obtain ⟨⟨_, e1⟩, ⟨_, e2⟩, _⟩ := h3
        have e1 : a' = a := by have := e1.symm.trans h1; exact Int.ofNat_inj.mp this
        have e2 : d' = d := by have := e2.symm.trans h2; exact Int.ofNat_inj.mp this
        subst e1 e2
        exact ⟨e, fun _ => ⟨w, h4⟩⟩
      · simp [olP] at h3
  · rename_i z
    rw [Bool.and_eq_true] at h
    obtain ⟨h0, h1⟩ := h
    have h0 := of_decide_eq_true h0
    have h1 := of_decide_eq_true h1
    rcases r with ⟨_, ks, _, h3, _⟩ | ⟨_, ns, _, h3, _⟩ | ⟨⟨a', e, h3⟩, _⟩
    · cases h3
    · cases h3
    · rcases h3 with h3 | ⟨d', x', w, h3, h4, _⟩ | ⟨h3, _⟩
      · simp only [excP, List.cons.injEq, Prod.mk.injEq, PyData.int.injEq] at h3
        obtain ⟨⟨_, e1⟩, _⟩ := h3
        have e1 : a' = a := by have := e1.symm.trans h1; exact Int.ofNat_inj.mp this
        subst e1
        exact ⟨e, fun z => absurd z h0⟩
      · cases h3
      · simp [olP] at h3
  · cases h
/-- isinstance(e, c), e the exception that the suite holds -/
def rIsX (K : PySem.W.Frag) (D a : Addr) (dx : Option Addr) : List V → Hp → VK → Prop := fun xs H Q => ∃ (c : V) (cv : Value) (b : Bool), xs = [.ref a, c] ∧ (∀ u, RelV c u → u = cv) ∧ PySem.W.kitOne K (.ref D) cv = some b ∧ (∀ d, dx = some d → ∃ fs, H d = some (.xd fs)) ∧ Q (.bl b) H
theorem call_isX {X : Cx} {a D : Addr} {dx : Option Addr} {oe : Obj} {pn : List (Addr × Obj)} (C : ExcC X.K D) (hz : Zc (.ref D) dx oe) (hf : ∃ vs, oe.data = .fields vs) : CallR (X.suite a ((a, oe) :: pn)) (.builtin "isinstance") (rIsX X.K D a dx) := by
  intro pins s σ H xs us Q I r h
  obtain ⟨c, cv, b, rfl, hcv, e, hd, q⟩ := h
  cases r with
  | cons rx rr =>
    cases rr with
    | cons rt rr =>
      cases rr
      cases rx
      have ec := hcv _ rt
      subst ec
      obtain ⟨hget, _⟩ := I.pin (a, oe) (List.mem_append.mpr (.inl List.mem_cons_self))
      obtain ⟨vs, hv⟩ := hf
      have J : ∃ od, PySem.W.InstAt s.heap a oe D od := by
        obtain ⟨oc, od, oda, osl⟩ := oe
        obtain ⟨h1, h2⟩ := hz
        dsimp only at h1 h2 hv
        subst h1 h2 hv
        cases od with
        | none => exact ⟨none, hget, rfl, rfl, trivial⟩
        | some d =>
          obtain ⟨fs, hfs⟩ := hd d rfl
          have hx : ObjOk X.prog X.w H s.heap d (.xd fs) := I.hok d _ hfs
          obtain ⟨mA, hns, hr⟩ := hx
          obtain ⟨od, ho, hl⟩ := lookIn_ns hns
          exact ⟨some od, hget, rfl, rfl, ho⟩
      obtain ⟨od, J⟩ := J
      have hcl : (PySem.W.clsIn X.K D).isSome = true := by
        obtain ⟨cd, hc, _⟩ := PySem.W.any_some C.hd
        rw [hc]; rfl
      exact PySem.W.kia_one (PySem.W.kitx_exc hcl C.hg C.hk C.hs C.ha C.hn C.ht C.hm) I.kIn J e (fun z => nomatch z) fun tk => ⟨.bl b, H, I.kept (t' := tk) fun _ _ z => z, rfl, q⟩
/-- isinstance(e, D) within a suite -/
def eIsE (c : Nat) (a d : Addr) (b : Bool) (f : Lo → Res PyData) : Lo → Res PyData := fun env => (f env).bind fun v => if isHd c a d v then .ok (.bool b) else .bad
def dxOf (c : Nat) (d : Addr) : Option Addr := if c = 0 then some d else none
section
variable {X : Cx} {C : Cc} {e : Expr} {pos p p2 : Pos} {A : List Nat} {f : Lo → Res PyData} {a d : Addr} {oe : Obj} {pn : List (Addr × Obj)} {ts : List Nat} {c t : Nat}
theorem ve_isEO {Tn : Str} (R : ExcR X.K C.ec ts c) (hz : Zc (.ref (C.ec c)) (dxOf c d) oe) (hf : ∃ vs, oe.data = .fields vs) (hg : Gl (X.suite a ((a, oe) :: pn)) "isinstance") (hm : X.mg "isinstance" = none) (hg2 : Gl (X.suite a ((a, oe) :: pn)) Tn) (hm2 : X.mg Tn = some (.ref (C.ec t))) (ht : t ∈ ts)
    (ha : VE (X.suite a ((a, oe) :: pn)) C A e f) (hd2 : (Tn == ("__debug__" : Str)) = false := by decide)
    (s1 : starEach [e, .Name Tn p2] X.env = (false, eval e X.env) :: starEach [.Name Tn p2] X.env := by rfl) (s2 : starEach [.Name Tn p2] X.env = (false, eval (.Name Tn p2) X.env) :: starEach [] X.env := by rfl) (hpl : (backTo pos (starEach [.Name Tn p2] X.env)).any (·.1) = false := by rfl) :
    VE (X.suite a ((a, oe) :: pn)) C [] (.Call (.Name "isinstance" p) [e, .Name Tn p2] [] pos) (eIsE c a d (under c t) f) :=
  (pe_callB (call_isX R.cc hz hf) hg hm (by decide +kernel) (pa_cons ha (pa_cons (pe_glob (v := .ref (C.ec t)) hg2 hm2 rfl hd2) pa_nil s2) s1) (he := s1) (hpl := hpl)).imp fun σ H Q ⟨env, Fs, hs, h⟩ => by
  refine ⟨env, Fs, hs, post_mono (post_bind h) (fun v _ h1 w H1 F g1 => ?_) fun _ _ h => h⟩
  split at h1
  · rename_i hh
    obtain ⟨rfl, hx⟩ := isHd_rep hh g1.rep
    refine ⟨.ref (C.ec t), .ref (C.ec t), under c t, rfl, fun u r => r, (R.pr t ht).ki, fun d' e => ?_, h1 _ H1 [] (.flat g1.same rep_bool)⟩
    unfold dxOf at e
    split at e
    · rename_i e0
      cases e
      obtain ⟨w, hw⟩ := hx e0
      exact ⟨_, hw⟩
    · cases e
  · exact h1.elim
theorem ve_isEV (R : ExcR X.K C.ec ts c) (hz : Zc (.ref (C.ec c)) (dxOf c d) oe) (hf : ∃ vs, oe.data = .fields vs) (hg : Gl (X.suite a ((a, oe) :: pn)) "isinstance") (hm : X.mg "isinstance" = none) (hg2 : Gl (X.suite a ((a, oe) :: pn)) "ValueError") (hm2 : X.mg "ValueError" = none)
    (ha : VE (X.suite a ((a, oe) :: pn)) C A e f)
    (s1 : starEach [e, .Name "ValueError" p2] X.env = (false, eval e X.env) :: starEach [.Name "ValueError" p2] X.env := by rfl) (s2 : starEach [.Name "ValueError" p2] X.env = (false, eval (.Name "ValueError" p2) X.env) :: starEach [] X.env := by rfl) (hpl : (backTo pos (starEach [.Name "ValueError" p2] X.env)).any (·.1) = false := by rfl) :
    VE (X.suite a ((a, oe) :: pn)) C [] (.Call (.Name "isinstance" p) [e, .Name "ValueError" p2] [] pos) (eIsE c a d true f) :=
  (pe_callB (call_isX R.cc hz hf) hg hm (by decide +kernel) (pa_cons ha (pa_cons (pe_bltn (v := .ty "ValueError") hg2 hm2 (by decide +kernel) rfl) pa_nil s2) s1) (he := s1) (hpl := hpl)).imp fun σ H Q ⟨env, Fs, hs, h⟩ => by
  refine ⟨env, Fs, hs, post_mono (post_bind h) (fun v _ h1 w H1 F g1 => ?_) fun _ _ h => h⟩
  split at h1
  · rename_i hh
    obtain ⟨rfl, hx⟩ := isHd_rep hh g1.rep
    refine ⟨.ty "ValueError", .type "ValueError", true, rfl, fun u r => r, R.kv, fun d' e => ?_, h1 _ H1 [] (.flat g1.same rep_bool)⟩
    unfold dxOf at e
    split at e
    · rename_i e0
      cases e
      obtain ⟨w, hw⟩ := hx e0
      exact ⟨_, hw⟩
    · cases e
  · exact h1.elim
/-- l[i] within a suite -/
theorem ve_ixS {b : Expr} {B : List Nat} {fb : Lo → Res PyData} (ha : VE X C A e f) (hb : VE X C B b fb) (hs : PlainIx b := by exact fun _ _ => rfl) : VE X C (A ++ B) (.Subscript e b pos) (eOp dIx0 f fb) := .by fun σ H Q ⟨env, Fs, hs', h⟩ => by
  obtain ⟨r, q, z⟩ := OkP.pick ixF ok_ix (f env) (fb env)
  exact ⟨_, pe_ix q ha hb hs, op_reads (g := dIx0) hs' z h⟩
end
/-! ### try .. except X as e -/
def fin (i : Nat) : Out → Out
  | .nx e => .nx (e.set i none)
  | .rt d => .rt d
  | _ => .bad
/-- what holds wherever the exception may stand -/
noncomputable def allA (f : Addr → Addr → Out) : Out := open Classical in if h : ∃ o, ∀ a d, f a d = o then h.choose else .bad
theorem allA_of {f : Addr → Addr → Out} {o : Out} (h : ∀ a d, f a d = o) : allA f = o := by
  have hx : ∃ o, ∀ a d, f a d = o := ⟨o, h⟩
  unfold allA
  rw [dif_pos hx]
  have := hx.choose_spec 0 0
  rw [← this, h 0 0]
theorem allA_is {f : Addr → Addr → Out} (a d : Addr) (h : allA f ≠ .bad) : allA f = f a d := by
  unfold allA at h ⊢
  split
  · rename_i hx
    exact (hx.choose_spec a d).symm
  · rename_i hx
    rw [dif_neg hx] at h
    exact absurd rfl h
def atOk : PyData → Bool
  | .none => true
  | .tuple [.str _, .int _] => true
  | _ => false
noncomputable def sTryAs (i : Nat) (cs : List Nat) (t : Nat) (gb : Lo → Out) (gs : Addr → Addr → Nat → PyData → Lo → Out) : Lo → Out := fun env => match gb env with
  | .ex env' c x => if decide (c ∈ cs) && (decide (c ≠ 0) || atOk x) && decide (i < env'.length) then (if under c t then allA fun a d => fin i (gs a d c x (env'.set i (some (.dict (hdl c a d x))))) else .ex env' c x) else .bad
  | o => o
theorem Slots.unset {K : PySem.W.Frag} {env : Lo} {σ : St} {H : Hp} {Fs : Nat → List Addr} (h : Slots K env σ H Fs) (i : Nat) : Slots K (env.set i none) (σ.set i none) H (updF Fs i []) := by
  refine ⟨by simp [h.len], fun k d e => ?_, fun k n => ?_⟩
  · by_cases hk : k = i
    · subst hk
      by_cases hl : k < env.length
      · rw [List.getElem?_set_self hl] at e
        cases e
      · rw [List.getElem?_eq_none (by simp; omega)] at e
        cases e
    · rw [List.getElem?_set_ne (Ne.symm hk)] at e
      rw [updF_ne hk, List.getElem?_set_ne (Ne.symm hk)]
      exact h.rep k d e
  · by_cases hk : k = i
    · subst hk
      exact updF_same
    · rw [updF_ne hk]
      exact h.non k fun d e => n d (by rw [List.getElem?_set_ne (Ne.symm hk)]; exact e)
theorem at_rep {K : PySem.W.Frag} {H : Hp} {x : PyData} {v : V} (h : atOk x = true) (r : Rep K H x v []) : AtRep H x v := by
  unfold atOk at h
  split at h
  · exact .inl ⟨rfl, r.1⟩
  · rename_i s n
    obtain ⟨T, xs, rfl, ft, r⟩ := r
    obtain ⟨x1, x2, G1, G2, rfl, ⟨rfl, rfl⟩, ⟨rfl, rfl⟩, _⟩ := repl_two r
    exact .inr ⟨s, n, T, rfl, rfl, ft⟩
  · cases h
/-- what an exception leaves, as its handle -/
theorem hdl_rep {K : PySem.W.Frag} {H : Hp} {c : Nat} {x : PyData} {dx : Option Addr} {a : Addr} (ex : ExAt K H c x dx) (hx : (decide (c ≠ 0) || atOk x) = true) : ∃ d, dx = dxOf c d ∧ Rep K H (.dict (hdl c a d x)) (.ref a) [] := by
  unfold ExAt at ex
  by_cases h : c = 0
  · subst h
    rw [if_pos rfl] at ex
    obtain ⟨_, d, v, rfl, h1, h2⟩ := ex
    simp at hx
    exact ⟨d, rfl, .inr (.inr ⟨⟨a, rfl, .inr (.inl ⟨d, x, v, rfl, h1, at_rep hx h2⟩)⟩, rfl⟩)⟩
  · rw [if_neg h] at ex
    refine ⟨0, by rw [ex, dxOf, if_neg h], ?_⟩
    rw [hdl, if_neg h]
    exact .inr (.inr ⟨⟨a, rfl, .inl rfl⟩, rfl⟩)
theorem PSsby {X : Cx} {st : List Stmt} {t' : TS} (h : ∀ D σ H, t' D σ H → ∃ t, PSs X st t ∧ t D σ H) : PSs X st t' := ⟨fun pins s σ H D I hw => let ⟨t, p, q⟩ := h D σ H hw; p.run pins s σ H D I q⟩
theorem gdT {X : Cx} {pn : List (Addr × Obj)} {xe : Value → Shared → Prop} (g : Gd X) : Gd (X.tr pn xe) := ⟨g.calm, g.hu, g.nd⟩
theorem vs_tryAs {X : Cx} {C : Cc} {i t : Nat} {x n : Str} {np pos pos' : Pos} {body suite : List Stmt} {b₀ : Stmt} {O O' Os : List Nat} {gb : Lo → Out} {gs : Addr → Addr → Nat → PyData → Lo → Out} {cs ts : List Nat} (T : ExcT X.K C.ec cs ts) (ht : t ∈ ts) (hN : X.N.Nodup) (tk : Takes X C.W) (hm : X.mg x = some (.ref (C.ec t)))
    (hb : ∀ (W : WX) (pn : List (Addr × Obj)) (xe : Value → Shared → Prop), Takes (X.tr pn xe) W → PassesOwn (model X.prog X.w) X.A X.env xe → VB (X.tr pn xe) ⟨C.ec, W⟩ O O' body gb)
    (hsu : ∀ (a d : Addr) (c : Nat) (z : PyData) (oe : Obj) (pn : List (Addr × Obj)), ExcR X.K C.ec ts c → Zc (.ref (C.ec c)) (dxOf c d) oe → (∃ vs, oe.data = .fields vs) → VB (X.suite a ((a, oe) :: pn)) (C0 C) [] Os (b₀ :: suite) (gs a d c z))
    (hO : ∀ k ∈ O', k ∈ Os ∧ k ≠ i := by decide) (hs : X.stack = X.env :: X.outer := by rfl) (hf : X.env.frame = some X.env.locals := by rfl) (hi : X.N[i]? = some n := by rfl) (hln : X.env.kindOf n = some .local := by rfl) (hg : Gl X x := by rfl) (hdb : (x == ("__debug__" : Str)) = false := by decide) :
    VS X C O O' (.Try body [.ExceptHandler (some (.Name x np)) (some n) (b₀ :: suite) pos'] [] [] pos) (sTryAs i cs t gb gs) := by
  refine PSimp (ps_try_as (tb := fun W => PV.ts X.K ⟨C.ec, W⟩ O O' gb) (ts := fun a cls d D σ H => ∃ c z d', c ∈ cs ∧ cls = .ref (C.ec c) ∧ d = dxOf c d' ∧ PV.ts X.K (C0 C) [] Os (gs a d' c z) D σ H) (Wout := C.W) hs hf hN hi hln ⟨hg, hdb, .inl hm⟩ tk (fun W pn xe tk' pw => hb W pn xe tk' pw) (fun a oe cls d pn hz hfs => PSsby fun D σ H ⟨c, z, d', hc, e1, e2, q⟩ => ?_)) fun D σ H ⟨env, Fs, hsl, ho, h⟩ => ?_
  · subst e1 e2
    exact ⟨_, hsu a d' c z oe pn (T c hc) hz hfs, q⟩
  · refine ⟨env, Fs, hsl, ho, ?_⟩
    unfold sTryAs at h
    cases e : gb env with
    | nx e' => rw [e] at h; exact h
    | rt d => rw [e] at h; exact h
    | ct e' => rw [e] at h; exact h
    | bad => rw [e] at h; exact h
    | ex env' c z =>
      rw [e] at h
      simp only at h
      split at h
      · rename_i hc
        rw [Bool.and_eq_true, Bool.and_eq_true] at hc
        obtain ⟨⟨h1, h2⟩, h3⟩ := hc
        have hcs := of_decide_eq_true h1
        have hil := of_decide_eq_true h3
        intro σ' H' Fs' dx sl fr ex
        refine ⟨under c t, ((T c hcs).pr t ht).ex, fun hu a na => ?_, fun hu => ?_⟩
        · rw [if_pos hu] at h
          obtain ⟨d, ed, rh⟩ := hdl_rep (a := a) ex h2
          have hnb : (allA fun a d => fin i (gs a d c z (env'.set i (some (.dict (hdl c a d z)))))) ≠ .bad := fun q => by rw [q] at h; exact h
          rw [allA_is a d hnb] at h
          refine ⟨c, z, d, hcs, rfl, ed, env'.set i (some (.dict (hdl c a d z))), updF Fs' i [], sl.set hil rh, owns_none, ?_⟩
          cases eg : gs a d c z (env'.set i (some (.dict (hdl c a d z)))) with
          | nx e2 =>
            rw [eg] at h
            intro σ2 H2 Fs2 sl2 ow2 fr2
            refine h _ H2 (updF Fs2 i []) (sl2.unset i) ⟨fun k hk => ?_, fun k hk j hj a' ha' => ?_⟩ ?_
            · rw [updF_ne (hO k hk).2]; exact ow2.nd k (hO k hk).1
            · rw [updF_ne (hO k hk).2] at ha'
              by_cases ej : j = i
              · subst ej; rw [updF_same]; exact fun z => nomatch z
              · rw [updF_ne ej]; exact ow2.dj k (hO k hk).1 j hj a' ha'
            · refine (fr.trans ?_).weak (q := own Os Fs2) fun a' ⟨k, hk, ha'⟩ => ⟨k, (hO k hk).1, by rwa [updF_ne (hO k hk).2] at ha'⟩
              rw [own_none (Fs := updF Fs' i [])] at fr2
              exact fr2
          | rt d2 =>
            rw [eg] at h
            intro v2 H2 F2 r2 nd2 fr2
            rw [own_none (Fs := updF Fs' i [])] at fr2
            exact h v2 H2 F2 r2 nd2 (fr.trans fr2)
          | ct e2 => rw [eg] at h; exact h.elim
          | ex e2 c2 x2 => rw [eg] at h; exact h.elim
          | bad => rw [eg] at h; exact h.elim
        · rw [hu] at h
          exact h σ' H' Fs' dx sl fr ex
      · exact h.elim
end PV

set_option Elab.async false
set_option linter.all false
set_option maxRecDepth 100000
/-! t * 1 -/
namespace L2
open PySem PySem.Spec PyProof.Rows
theorem tuple_mul1 (l : Addr) (items : Array Value) (n : Nat) (dd : Option Addr) (sl : Array (Option Value)) (x : Int) (u : Tok) (c0 : (decide (x < -(2 ^ 63)) || decide (x ≥ 2 ^ 63)) = false) (c1 : (items.isEmpty || x == 1) = true) :
    Meets (Builtin.«tuple.__mul__» ⟨[.ref l, .int x u], []⟩) (fun _ R s => s.heap.get? l = some { cls := .type "tuple", dict := dd, data := .seq items n, slots := sl } ∧
      R (.ok (.ret (Value.ref l))) s) :=
  .of_wp fun prog w A R s h => by
    obtain ⟨hp, g, d, tk, os⟩ := s
    obtain ⟨hl, h⟩ := h
    have f1 := AutoSeq1.idx_int
    wp_walk using wpAny_loadPart' hl
    repeat (first
      | (refine wpAny_ite_false (decide_eq_false (by rw [c0]; exact Bool.false_ne_true)) ?_; wp_walk using wpAny_loadPart' hl)
      | (refine wpAny_ite_true (decide_eq_true (by rw [c1])) ?_; wp_walk using wpAny_loadPart' hl))
    exact ⟨_, rfl, h⟩
end L2

namespace PV
open PySem PySem.Spec L2
open PyProof.Rows hiding St
/-! ### list * n, tuple * n, text * n -/
def rRepTF : R2 := fun x y H Q => ∃ l k xs, x = .ref l ∧ y = .int k ∧ FT H l xs ∧ xs ≠ [] ∧ 1 ≤ k ∧ k ≤ 1000 ∧ xs.length ≤ 1000 ∧ (k = 1 → Q (.ref l) H) ∧ (2 ≤ k → ∀ p o, H p = none → o.dict = none → Q (.ref p) (upd H p (.frz o (.tup (List.replicate k.toNat xs).flatten))))
section
variable {X : Cx} {C : Cc} {a b : Expr} {pos : Pos} {A B : List Nat} {fa fb : Lo → Res PyData}
theorem op_repTF : OpR X (binaryOp .Mult) rRepTF := by
  intro pins s σ H x y v u Q I rx ry h
  obtain ⟨l, k, xs, rfl, rfl, hT, hne, h1, h2, hz, q1, q2⟩ := h
  cases rx
  obtain ⟨t, rfl⟩ := ry
  obtain ⟨its, r, ⟨⟨cls, dd, data, sl⟩, ho, hc, n, hd⟩, hs⟩ := I.tuple (hT.sq (K := X.K))
  simp only at hc hd
  subst hc hd
  have hle : its.length = xs.length := r.length.symm
  have hn : its ≠ [] := fun e => hne (by
    rw [e] at hle
    exact List.eq_nil_of_length_eq_zero hle.symm)
  have hi : its.toArray.isEmpty = false := by
    cases its with
    | nil => exact absurd rfl hn
    | cons a b => rfl
  have hsz0 : its.toArray.size = xs.length := by rw [List.size_toArray, hle]
  have c0 : (decide (k < -(2 ^ 63)) || decide (k ≥ 2 ^ 63)) = false := by
    rw [decide_eq_false (by omega), decide_eq_false (by omega)] <;> rfl
  by_cases hk : k = 1
  · refine wpAny_binaryOp_repeat_ref (T := "tuple") (U := "int") (by decide) ⟨_, ho, rfl⟩ (fun s' => typeIs_int s' k t) noFill_tuple_mul F.fills_int_mul F.slot_int_rmul repeat_tuple F.slot_int_index.lookup
      (call_meets F.slot_int_rmul (typeIs_int s k t) F.entry_int_rmul (F.args_int_rmul_2 _ _) (int_rmul_tuple k t l its.toArray n dd sl)
        ⟨ho, rfl, ⟨_, ho, rfl⟩, call_meets F.slot_tuple_mul ⟨_, ho, rfl⟩ F.entry_tuple_mul (F.args_tuple_mul_2 _ _) (tuple_mul1 l its.toArray n dd sl k t c0 (by rw [hk, hi]; rfl)) ⟨ho, ?_⟩⟩)
    exact ⟨.ref l, H, I, rfl, q1 hk⟩
  · have hk2 : 2 ≤ k := by omega
    have hm : ((its.toArray.size : Nat) : Int) * k ≤ 1000000 := by
      rw [hsz0]
      have a1 : ((xs.length : Nat) : Int) * k ≤ 1000 * k := Int.mul_le_mul_of_nonneg_right (by omega) (by omega)
      omega
    have flen : (List.replicate k.toNat its).flatten.length ≤ sizeLine := by
      rw [PyProof.Rows.lm_len_rep_flat, hle, sizeLine_eq]
      have a1 : k.toNat * xs.length ≤ 1000 * 1000 := Nat.mul_le_mul (by omega) hz
      omega
    have c1 : (its.toArray.isEmpty || k == 1) = false := by
      rw [hi, Bool.false_or]
      exact beq_eq_false_iff_ne.mpr (by omega)
    have c2 : (decide (k ≤ 0) || its.toArray.isEmpty) = false := by
      rw [hi, Bool.or_false]
      exact decide_eq_false (by omega)
    have c4 : Builtin.Tuple.tupleTooMany (((its.toArray.size : Nat) : Int) * k) = false := by
      unfold Builtin.Tuple.tupleTooMany
      rw [sizeLine_eq]
      exact decide_eq_false (by omega)
    refine wpAny_binaryOp_repeat_ref (T := "tuple") (U := "int") (by decide) ⟨_, ho, rfl⟩ (fun s' => typeIs_int s' k t) noFill_tuple_mul F.fills_int_mul F.slot_int_rmul repeat_tuple F.slot_int_index.lookup
      (call_meets F.slot_int_rmul (typeIs_int s k t) F.entry_int_rmul (F.args_int_rmul_2 _ _) (int_rmul_tuple k t l its.toArray n dd sl)
        ⟨ho, rfl, ⟨_, ho, rfl⟩, call_meets F.slot_tuple_mul ⟨_, ho, rfl⟩ F.entry_tuple_mul (F.args_tuple_mul_2 _ _) (tuple_mulW l its.toArray n dd sl k t c0 c1 c2 (by omega) c4 (by rw [size_rep, List.size_toArray]; exact flen)) ⟨ho, ?_⟩⟩)
    rw [size_rep]
    have r2 : Vals (List.replicate k.toNat xs).flatten (List.replicate k.toNat its).flatten := r.rep k.toNat
    exact ⟨.ref s.heap.objs.size, _, I.newTup (t' := s.toks) r2 (by rw [r2.length]; exact flen), rfl, q2 hk2 _ _ (I.hok.fresh (Nat.le_refl _)) rfl⟩
/-- a text, some times -/
def strRep (x : Str) (k : Nat) : Str := ⟨(List.replicate k x.cps).foldl (· ++ ·) #[]⟩
theorem foldl_size {α : Type} (xs : Array α) : ∀ (n : Nat) (acc : Array α), ((List.replicate n xs).foldl (· ++ ·) acc).size = acc.size + n * xs.size
  | 0, acc => by simp
  | n + 1, acc => by
    rw [List.replicate_succ, List.foldl_cons, foldl_size xs n, Array.size_append, Nat.succ_mul]; omega
theorem strRep_len (x : Str) (k : Nat) : (strRep x k).length = k * x.length := by
  show ((List.replicate k x.cps).foldl (· ++ ·) #[]).size = k * x.cps.size
  rw [foldl_size]; simp
def dRep : PyData → PyData → Option PyData
  | .list ds, .int k => if 0 ≤ k ∧ k ≤ 1000 ∧ ds.length ≤ 100 ∧ flatL ds = true then some (.list (List.replicate k.toNat ds).flatten) else none
  | .tuple ds, .int k => if 1 ≤ k ∧ k ≤ 1000 ∧ ds.length ≤ 100 ∧ ds ≠ [] ∧ flatL ds = true then some (.tuple (List.replicate k.toNat ds).flatten) else none
  | .str x, .int k => if 1 ≤ k ∧ k ≤ 1000 ∧ x.length = 1 then some (.str (if k = 1 then x else strRep x k.toNat)) else none
  | _, _ => none
theorem repl_rep {K : PySem.W.Frag} {H : Hp} {ds : List PyData} {xs : List V} (h : RepL K H ds xs []) : ∀ n, RepL K H (List.replicate n ds).flatten (List.replicate n xs).flatten []
  | 0 => ⟨rfl, rfl⟩
  | n + 1 => by
    rw [List.replicate_succ, List.replicate_succ, List.flatten_cons, List.flatten_cons]
    exact RepL.append h (repl_rep h n)
theorem flatL_rep {ds : List PyData} (h : flatL ds = true) : ∀ n, flatL (List.replicate n ds).flatten = true := by
  have app : ∀ xs ys : List PyData, flatL xs = true → flatL ys = true → flatL (xs ++ ys) = true := fun xs ys h1 h2 => by
    induction xs with
    | nil => exact h2
    | cons x xs ih =>
      have h1' : PV.flat x = true ∧ flatL xs = true := by simpa [PV.flatL] using h1
      show (PV.flat x && flatL (xs ++ ys)) = true
      rw [h1'.1, ih h1'.2]; rfl
  intro n
  induction n with
  | zero => rfl
  | succ n ih =>
    rw [List.replicate_succ, List.flatten_cons]
    exact app _ _ h ih
theorem len_rep {α : Type} (xs : List α) (n : Nat) : (List.replicate n xs).flatten.length = n * xs.length := by simp
theorem ok_rep : OpOk X (binaryOp .Mult) dRep := fun d1 d2 d e => by
  unfold dRep at e
  split at e
  · rename_i ds k
    split at e
    · rename_i hc
      cases e
      obtain ⟨h1, h2, h3, h4⟩ := hc
      refine ⟨_, op_rep, fun x y F1 F2 H Q r1 r2 kk => ?_⟩
      obtain ⟨l, us, G1, rfl, s1, r1, rfl⟩ := r1
      obtain ⟨rfl, rfl⟩ := r2
      obtain rfl := RepL.flat ds us G1 h4 r1
      refine ⟨l, k, us, rfl, rfl, s1, by omega, by omega, ?_, fun p np => ?_⟩
      · rw [r1.length, sizeLine_eq]
        have a1 : ds.length * k.toNat ≤ 100 * 1000 := Nat.mul_le_mul h3 (by omega)
        omega
      · refine kk _ _ [p] ⟨p, _, [], rfl, upd_same, (repl_rep r1 _).mono (same_upd np), rfl⟩ (same_upd np) (fun c hc => ?_) fun _ _ => by simp
        have : c = p := by simpa using hc
        subst this
        exact .inl ⟨np, .inl ⟨_, upd_same⟩⟩
    · cases e
  · rename_i ds k
    split at e
    · rename_i hc
      cases e
      obtain ⟨h1, h2, h3, h4, h5⟩ := hc
      refine ⟨_, op_repTF, fun x y F1 F2 H Q r1 r2 kk => ?_⟩
      obtain ⟨l, us, rfl, s1, r1⟩ := r1
      obtain ⟨rfl, rfl⟩ := r2
      obtain rfl := RepL.flat ds us _ h5 r1
      refine ⟨l, k, us, rfl, rfl, s1, fun z => h4 ((rep_nil r1).mp z), h1, h2, by rw [r1.length]; omega, fun k1 => ?_, fun _ p o np od => ?_⟩
      · subst k1
        refine kk _ H [] ⟨l, us, rfl, s1, ?_⟩ (Same.refl H) (fun _ z => (nomatch z)) fun _ _ => List.nodup_nil
        have e1 : (List.replicate (Int.toNat 1) ds).flatten = ds := by
          show (List.replicate 1 ds).flatten = ds
          simp
        rw [e1]; exact r1
      · exact kk _ _ [] ⟨p, _, rfl, ⟨o, od, upd_same⟩, (repl_rep r1 _).mono (same_upd np)⟩ (same_upd np) (fun _ z => (nomatch z)) fun _ _ => List.nodup_nil
    · cases e
  · rename_i x k
    split at e
    · rename_i hc
      cases e
      obtain ⟨h1, h2, h3⟩ := hc
      refine ⟨fun a b H Q => a = .str x ∧ b = .int k ∧ Q (.str (if k = 1 then x else strRep x k.toNat)) H, fun pins s σ H a b v u Q I rx ry ⟨e1, e2, q⟩ => ?_, fun a b F1 F2 H Q r1 r2 kk => ?_⟩
      · subst e1 e2
        obtain ⟨t, rfl⟩ := rx
        obtain ⟨t2, rfl⟩ := ry
        have hk1 : ¬ k < 1 := by omega
        refine P.mul_str (by rw [decide_eq_false (by omega), decide_eq_false (by omega)]; rfl) (fun _ _ => ?_) (fun _ _ => ?_) ?_
        · rw [h3]
          have : (1 : Int) ≤ 9223372036854775807 / k := by
            rw [Int.le_ediv_iff_mul_le (by omega)]; omega
          simp; omega
        · rw [h3]
          unfold Builtin.Str.tooLong
          rw [sizeLine_eq]
          simp; omega
        · rw [if_neg hk1]
          by_cases hk : k = 1
          · subst hk
            rw [if_pos (by simp)]
            exact ⟨.str x, H, I, ⟨_, rfl⟩, by simpa using q⟩
          · rw [if_neg (by simp [hk, h3])]
            rw [if_neg hk] at q
            refine ⟨?_, V.str (strRep x k.toNat), H, I.tok _, ⟨_, rfl⟩, q⟩
            rw [show (⟨(List.replicate k.toNat x.cps).foldl (· ++ ·) #[]⟩ : Str) = strRep x k.toNat from rfl]
            rw [strRep_len, h3, sizeLine_eq]; omega
      · obtain ⟨rfl, rfl⟩ := r1
        obtain ⟨rfl, rfl⟩ := r2
        exact ⟨rfl, rfl, kk _ H [] ⟨rfl, rfl⟩ (Same.refl H) (fun _ z => (nomatch z)) fun _ _ => List.nodup_nil⟩
    · cases e
  · cases e
theorem fl_rep : ∀ d1 d2 d, dRep d1 d2 = some d → (match d1 with | .list _ => True | _ => flat d = true) := fun d1 d2 d h => by
  unfold dRep at h
  split at h
  · trivial
  · split at h
    · rename_i hc; cases h
      show flat (.tuple _) = true
      rw [flat]; exact flatL_rep hc.2.2.2.2 _
    · cases h
  · split at h
    · cases h; rfl
    · cases h
  · cases h
theorem ve_rep (ha : VE X C A a fa) (hb : VE X C B b fb) : VE X C (A ++ B) (.BinOp a .Mult b pos) (eOp dRep fa fb) := ve_op ok_rep ha hb
end
end PV

set_option Elab.async false
set_option linter.all false
set_option maxRecDepth 100000
namespace PV
open PySem PySem.Spec L2
open PyProof.Rows hiding St
/-! ### new values of flat items -/
def flatF : PyData → Bool
  | .list ds => flatL ds
  | d => flat d
def eFlatF (f : Lo → Res PyData) : Lo → Res PyData := fun env => (f env).bind fun d => if flatF d then .ok d else .bad
section
variable {X : Cx} {C : Cc} {e a b : Expr} {pos : Pos} {A B : List Nat} {fa fb f : Lo → Res PyData}
/-- what is told of a new value -/
def KontF (X : Cx) (H : Hp) (d : PyData) (Q : VK) : Prop := ∀ v H' F, Rep X.K H' d v F → Same H H' → (∀ a ∈ F, H a = none ∧ Mu H' a) → F.Nodup → Q v H'
theorem KontF.flat {H : Hp} {d : PyData} {Q : VK} (k : KontF X H d Q) {v : V} {F : List Addr} (hf : flat d = true) (r : Rep X.K H d v F) : Q v H := by
  obtain rfl := Rep.flat d v F hf r
  exact k v H [] r (Same.refl H) (fun _ z => (nomatch z)) List.nodup_nil
theorem KontF.lst {H : Hp} {ds : List PyData} {Q : VK} (k : KontF X H (.list ds) Q) {xs : List V} (r : RepL X.K H ds xs []) (p : Addr) (np : H p = none) : Q (.ref p) (upd H p (.lst xs)) :=
  k _ _ [p] ⟨p, xs, [], rfl, upd_same, r.mono (same_upd np), rfl⟩ (same_upd np) (fun c hc => by
    have : c = p := by simpa using hc
    subst this
    exact ⟨np, .inl ⟨_, upd_same⟩⟩) (by simp)
theorem KontF.tup {H : Hp} {ds : List PyData} {Q : VK} (k : KontF X H (.tuple ds) Q) {xs : List V} (r : RepL X.K H ds xs []) (p : Addr) (o : Obj) (np : H p = none) (od : o.dict = none) : Q (.ref p) (upd H p (.frz o (.tup xs))) :=
  k _ _ [] ⟨p, xs, rfl, ⟨o, od, upd_same⟩, r.mono (same_upd np)⟩ (same_upd np) (fun _ z => (nomatch z)) List.nodup_nil
theorem kontF_of {H H1 : Hp} {Fs : Nat → List Addr} {d : PyData} {Q : VK} (s : Same H H1) (h : ∀ v H' F, Got X.K [] H Fs d v H' F → Q v H') : KontF X H1 d Q :=
  fun v H' F r s' src nd => h v H' F ⟨r, s.trans s', fun a ha => .inl ⟨s.free (src a ha).1, (src a ha).2⟩, fun _ _ => nd⟩
theorem flatL_app2 {xs ys : List PyData} (h : flatL (xs ++ ys) = true) : flatL xs = true ∧ flatL ys = true := by
  induction xs with
  | nil => exact ⟨rfl, h⟩
  | cons x xs ih =>
    have h' : PV.flat x = true ∧ flatL (xs ++ ys) = true := by simpa [PV.flatL] using h
    obtain ⟨h1, h2⟩ := ih h'.2
    exact ⟨by show (PV.flat x && flatL xs) = true; rw [h'.1, h1]; rfl, h2⟩
theorem ok_addF : ∀ d1 d2 d, dAdd d1 d2 = some d → flatF d = true → ∃ r, OpR X (binaryOp .Add) r ∧ ∀ x y F1 F2 H Q, Rep X.K H d1 x F1 → Rep X.K H d2 y F2 → KontF X H d Q → r x y H Q := fun d1 d2 d e hf => by
  unfold dAdd at e
  split at e
  · cases e
    rename_i i j
    refine ⟨_, op_add, fun x y F1 F2 H Q h1 h2 k => ?_⟩
    obtain ⟨rfl, rfl⟩ := h1
    obtain ⟨rfl, rfl⟩ := h2
    exact ⟨i, j, rfl, rfl, k.flat rfl (F := []) rep_int⟩
  · rename_i xs ys
    split at e
    · rename_i hl
      cases e
      obtain ⟨f1, f2⟩ := flatL_app2 (show flatL (xs ++ ys) = true from hf)
      refine ⟨_, op_cat, fun x y F1 F2 H Q h1 h2 k => ?_⟩
      obtain ⟨a, us, G1, rfl, s1, r1, rfl⟩ := h1
      obtain ⟨b, ws, G2, rfl, s2, r2, rfl⟩ := h2
      obtain rfl := RepL.flat xs us G1 f1 r1
      obtain rfl := RepL.flat ys ws G2 f2 r2
      exact ⟨a, b, us, ws, rfl, rfl, s1, s2, by rw [r1.length, r2.length]; exact line1000 hl, fun p np => k.lst (r1.append r2) p np⟩
    · cases e
  · rename_i xs ys
    split at e
    · rename_i hl
      cases e
      have hf' : flatL (xs ++ ys) = true := by simpa [flatF, flat] using hf
      obtain ⟨f1, f2⟩ := flatL_app2 hf'
      refine ⟨_, op_catF, fun x y F1 F2 H Q h1 h2 k => ?_⟩
      obtain ⟨a, us, rfl, s1, r1⟩ := h1
      obtain ⟨b, ws, rfl, s2, r2⟩ := h2
      obtain rfl := RepL.flat xs us _ f1 r1
      obtain rfl := RepL.flat ys ws _ f2 r2
      refine ⟨a, b, us, ws, rfl, rfl, s1, s2, by rw [r1.length, r2.length]; exact line1000 hl, fun z => ?_, fun _ z => ?_, fun _ _ p o np od => ?_⟩
      · subst z
        obtain rfl := (rep_nil r1).mp rfl
        exact k _ H [] ⟨b, ws, rfl, s2, r2⟩ (Same.refl H) (fun _ z => (nomatch z)) List.nodup_nil
      · subst z
        obtain rfl := (rep_nil r2).mp rfl
        rw [List.append_nil] at k
        exact k _ H [] ⟨a, us, rfl, s1, r1⟩ (Same.refl H) (fun _ z => (nomatch z)) List.nodup_nil
      · exact k.tup (r1.append r2) p o np od
    · cases e
  · rename_i x y
    split at e
    · rename_i hl
      cases e
      refine ⟨_, op_add_str, fun x y F1 F2 H Q h1 h2 k => ?_⟩
      obtain ⟨rfl, rfl⟩ := h1
      obtain ⟨rfl, rfl⟩ := h2
      have hsz := sizeLine_eq
      exact ⟨_, _, rfl, rfl, by omega, k.flat rfl (F := []) ⟨rfl, rfl⟩⟩
    · cases e
  · cases e
theorem ve_addF (ha : VE X C A a fa) (hb : VE X C B b fb) : VE X C [] (.BinOp a .Add b pos) (eFlatF (eOp dAdd fa fb)) := .by fun σ H Q ⟨env, Fs, hs, h⟩ => by
  have h : (((fa env).bind fun x => (fb env).bind fun y => Res.of (dAdd x y)).bind fun d => if flatF d then .ok d else .bad).post _ _ := h
  have key : ∃ r, OpR X (binaryOp .Add) r ∧ ∀ d1 d2 d, fa env = .ok d1 → fb env = .ok d2 → dAdd d1 d2 = some d → flatF d = true → ∀ x y F1 F2 H Q, Rep X.K H d1 x F1 → Rep X.K H d2 y F2 → KontF X H d Q → r x y H Q := by
    by_cases hx : ∃ d1 d2 d, fa env = .ok d1 ∧ fb env = .ok d2 ∧ dAdd d1 d2 = some d ∧ flatF d = true
    · obtain ⟨d1, d2, d, e1, e2, e3, e4⟩ := hx
      obtain ⟨r, q, z⟩ := ok_addF (X := X) d1 d2 d e3 e4
      refine ⟨r, q, fun d1' d2' d' e1' e2' e3' _ => ?_⟩
      rw [e1] at e1'; cases e1'
      rw [e2] at e2'; cases e2'
      rw [e3] at e3'; cases e3'
      exact z
    · exact ⟨fun _ _ _ _ => False, opF, fun d1 d2 d h1 h2 h3 h4 => absurd ⟨d1, d2, d, h1, h2, h3, h4⟩ hx⟩
  obtain ⟨r, q, z⟩ := key
  refine ⟨_, pe_op q ha hb, env, Fs, hs, post_mono (post_bind (post_bind h)) (fun d1 e1 h1 v H1 F1 g1 => ?_) fun _ _ h => h⟩
  refine ⟨env, Fs, hs.mono g1.same, post_mono (post_bind h1) (fun d2 e2 h2 w H2 F2 g2 => ?_) fun _ _ h H' dx s x => h H' dx (g1.same.trans s) x⟩
  obtain ⟨d, hd, h3⟩ := of_post h2
  by_cases hf : flatF d = true
  · rw [if_pos hf] at h3
    exact z d1 d2 d e1 e2 hd hf v w F1 F2 H2 Q (g1.rep.mono g2.same) g2.rep (kontF_of (g1.same.trans g2.same) h3)
  · rw [if_neg hf] at h3
    exact h3.elim
theorem ve_sliceF {lo hi : Option Expr} {fl fh : Lo → Res (Option Int)} {p2} (ha : VE X C A a fa) (hl : VO X C lo fl) (hh : VO X C hi fh) : VE X C [] (.Subscript a (.Slice lo hi none p2) pos) (eFlatF (eSl fa fl fh)) := .by fun σ H Q ⟨env, Fs, hs, h⟩ => by
  have h : (((fa env).bind fun d => (fl env).bind fun lo => (fh env).bind fun hi => Res.of (dSl d lo hi)).bind fun d => if flatF d then .ok d else .bad).post _ _ := h
  have key : ∀ r : V → Option Int → Option Int → Hp → VK → Prop, (∀ d lo hi, fa env = .ok d → ∀ d', dSl d lo hi = some d' → flatF d' = true → ∀ x F H Q, Rep X.K H d x F → KontF X H d' Q → r x lo hi H Q) →
      tSl r (tv X.K C A fa) (fun σ H Q => ∃ env Fs, Slots X.K env σ H Fs ∧ (fl env).post (fun d => ∀ H', Same H H' → Q d H') fun c x => ∀ H' dx, Same H H' → ExAt X.K H' c x dx → C.W (.ref (C.ec c)) dx σ H')
        (fun σ H Q => ∃ env Fs, Slots X.K env σ H Fs ∧ (fh env).post (fun d => ∀ H', Same H H' → Q d H') fun c x => ∀ H' dx, Same H H' → ExAt X.K H' c x dx → C.W (.ref (C.ec c)) dx σ H') σ H Q := fun r hr => by
    refine ⟨env, Fs, hs, post_mono (post_bind (post_bind h)) (fun d1 e1 h1 v H1 F1 g1 => ?_) fun _ _ h => h⟩
    refine ⟨env, Fs, hs.mono g1.same, post_mono (post_bind h1) (fun lo e2 h2 H2 s2 => ?_) fun _ _ h H' dx s x => h H' dx (g1.same.trans s) x⟩
    refine ⟨env, Fs, hs.mono (g1.same.trans s2), post_mono (post_bind h2) (fun hi e3 h3 H3 s3 => ?_) fun _ _ h H' dx s x => h H' dx ((g1.same.trans s2).trans s) x⟩
    obtain ⟨d, hd, h4⟩ := of_post h3
    have s13 := s2.trans s3
    by_cases hf : flatF d = true
    · rw [if_pos hf] at h4
      exact hr d1 lo hi e1 d hd hf v F1 H3 Q (g1.rep.mono s13) (kontF_of (g1.same.trans s13) h4)
    · rw [if_neg hf] at h4
      exact h4.elim
  by_cases ht : ∃ ds, fa env = .ok (.tuple ds)
  · obtain ⟨ds, ht⟩ := ht
    refine ⟨_, pe_slice sl_tupF ha hl hh, key _ fun d lo hi e d' hd hf x F H Q r k => ?_⟩
    rw [ht] at e; cases e
    cases hd
    obtain ⟨p, xs, rfl, s, r⟩ := r
    have hfl : flatL (cutD ds lo hi) = true := by simpa [flatF, flat] using hf
    obtain ⟨G, sub, r'⟩ := repl_cut lo hi r
    obtain rfl := RepL.flat _ _ G hfl r'
    refine ⟨p, xs, rfl, s, fun hw => ?_, fun _ q o nq od => k.tup r' q o nq od⟩
    have e : cutD ds lo hi = ds := by
      unfold cutD
      rw [r.length] at hw
      rw [hw.1, hw.2, List.drop_zero, Nat.sub_zero, List.take_length]
    rw [e] at k hfl
    obtain rfl := RepL.flat _ _ F hfl r
    exact k _ H [] ⟨p, xs, rfl, s, r⟩ (Same.refl H) (fun _ z => (nomatch z)) List.nodup_nil
  · by_cases hl' : ∃ ds, fa env = .ok (.list ds)
    · obtain ⟨ds, hl'⟩ := hl'
      refine ⟨_, pe_slice sl_list ha hl hh, key _ fun d lo hi e d' hd hf x F H Q r k => ?_⟩
      rw [hl'] at e; cases e
      cases hd
      obtain ⟨p, xs, G, rfl, s, r, rfl⟩ := r
      refine ⟨p, xs, rfl, SqL.of s, fun q nq => ?_⟩
      obtain ⟨G', sub, r'⟩ := repl_cut lo hi r
      obtain rfl := RepL.flat _ _ G' (show flatL (cutD ds lo hi) = true from hf) r'
      exact k.lst r' q nq
    · refine ⟨_, pe_slice sl_str ha hl hh, key _ fun d lo hi e d' hd hf x F H Q r k => ?_⟩
      unfold dSl at hd
      split at hd
      · exact absurd ⟨_, e⟩ hl'
      · exact absurd ⟨_, e⟩ ht
      · split at hd
        · rename_i hz
          cases hd
          obtain ⟨rfl, rfl⟩ := r
          have hsz := sizeLine_eq
          exact ⟨_, rfl, by omega, k.flat rfl (F := []) ⟨rfl, rfl⟩⟩
        · cases hd
      · cases hd
end
end PV

set_option Elab.async false
set_option linter.all false
set_option maxRecDepth 100000
namespace PySem
open Sem (wp)
section
variable {prog : Program} {w : World} {A : Around} {E : Value → Shared → Prop} {s : Shared}
theorem wpAny_hint_rit {I : Addr} {x left step : Int} {Q : Bool → Shared → Prop} (hit : IsRangeIter s.heap I x left step) (hl : left ≤ 2 ^ 24)
    (h : ∀ tk, Q false { s with toks := tk }) : wpAny (model prog w) A (Builtin.List.listLengthHint (.ref I)) Q E s := by
  have hT : s.TypeIs (.ref I) "range_iterator" := ⟨_, hit, rfl⟩
  unfold Builtin.List.listLengthHint
  refine wpAny_bind (wpAny_specialOf hT F.nolen_ra ?_)
  show wpAny _ A (specialOf (Value.ref I) (Str.ofString "__length_hint__") >>= _) _ _ _
  refine wpAny_bind (wpAny_specialOf hT F.hint_ra ?_)
  (generalize hid : ("range_iterator.__length_hint__" : String) = id0; (fail_if_success (clear hid id0)); wp_delta; rw [show splitId id0 = some ("range_iterator", "__length_hint__") from by subst hid; decide +kernel]; subst hid)
  refine wpAny_bind (wpAny_isInstance (b := true) hT (by rw [isSubtype_type]; kernel_rfl) ?_)
  show wpAny _ A (call (.builtin "range_iterator.__length_hint__") [.ref I] >>= _) _ _ _
  refine wpAny_bind ?_
  refine wpAny_call_entry F.slot_range_iterator_length_hint hT F.entry_range_iterator_length_hint ?_ (F.args_range_iterator_length_hint_1 _)
  show wpAny _ _ (field (.ref I) 1 >>= _) _ _ s
  refine wpAny_bind (wpAny_field hit rfl (x := rawInt left) rfl ?_)
  show wpAny _ _ (retInt left) _ _ s
  unfold retInt
  refine wpAny_bind (wpAny_mkInt ?_)
  refine wpAny_pure ⟨_, rfl, ?_⟩
  have htl : Builtin.List.listTooLong left.toNat = false := by simp [Builtin.List.listTooLong, sizeLine]; omega
  refine wpAny_bind (m := asInt? _) (wpAny_pure ?_)
  dsimp only
  rw [if_neg (by rw [htl]; decide)]
  exact wpAny_pure (h _)
/-- list.extend of an iterator of a range -/
theorem wpAny_extend_rit {R : Result → Shared → Prop} {I : Addr} {a c : Int} {n : Nat} (hh : A.handled = none) (hit : IsRangeIter s.heap I a (n : Int) c) (hlen : n ≤ 2 ^ 24) (S : Addr) (res : Value) (c₀ : Nat) (hS : s.heap.get? S = some { cls := .type "list", data := .seq #[] c₀ })
    (hR : ∀ h' tk acc' c', (∀ b o, b ≠ S → b ≠ I → s.heap.get? b = some o → h'.get? b = some o) → h'.get? S = some { cls := .type "list", dict := none, data := .seq acc' c', slots := #[] } →
      ItemsOf (fun i v => ∃ t, v = .int (a + i * c) t) acc' n → R (.ok (.ret res)) { s with heap := h', toks := tk }) :
    wpAny (model prog w) A.in1 (Builtin.List.listExtendWith (.ref S) (.ref I) res)
      (fun fin s' => match fin with | .done f => R (.ok f) s' | .again c' => c'.quiet = true ∧ codeAny (model prog w) A c' R s') (fun e s' => R (.error e) s') s := by
  have hSI : S ≠ I := fun e => by rw [e, hit] at hS; simp at hS
  have hSf : S ∉ [I] := fun hm => hSI (List.mem_singleton.mp hm)
  have W := (Walks.range (prog := prog) (w := w) (A := A.in1) hh I a c n).toS
  have hit0 : IsRangeIter s.heap I (a + ((0 : Nat) : Int) * c) ((n : Int) - ((0 : Nat) : Int)) c := by
    have e1 : a + ((0 : Nat) : Int) * c = a := by simp
    have e2 : (n : Int) - ((0 : Nat) : Int) = n := by simp
    rw [e1, e2]
    exact hit
  have key : ∀ (tk : Nat), codeAny (model prog w) A (.builtin "list.extend.loop" ⟨[.ref S, .ref I, res], []⟩) R { s with toks := tk } := by
    intro tk
    refine codeAny_extend_loopS W (by rw [sizeLine_eq]; omega) S hSf res n 0 _ #[] c₀ rfl (Nat.zero_le _) hit0 hS (ItemsOf.nil _) fun s' acc' c' hm hS' hacc => ?_
    rw [Moved.eq_with hm]
    refine hR s'.heap s'.toks acc' c' (fun b o hb hbI e => hm.heap b o (fun hmem => ?_) e) hS' hacc
    rcases List.mem_cons.mp hmem with e' | hmem
    · exact hb e'
    · exact hbI (List.mem_singleton.mp hmem)
  unfold Builtin.List.listExtendWith
  refine wpAny_bind (wpAny_typeOf (T := "range_iterator") ⟨_, hit, rfl⟩ ?_)
  have h1 : Builtin.List.listSameRef (.ref S) (.ref I) = false := by simp [Builtin.List.listSameRef, hSI]
  have h2 : (Value.type "range_iterator" == Value.type "list") = false := by decide
  have h3 : (Value.type "range_iterator" == Value.type "tuple") = false := by decide
  simp only [h1, h2, h3, Bool.or_false, Bool.false_eq_true, if_false]
  refine wpAny_bind (wpAny_pyIter_rangeiter hit ?_)
  refine wpAny_bind (wpAny_holding (wpAny_hint_rit hit (by omega) fun tk => ?_))
  refine wpAny_ite_split (fun hab => absurd hab (by decide)) (fun _ => wpAny_pure ⟨plainId_quiet F.plain_extend_loop _, key _⟩)
theorem wpAny_list_init_rit {R : Result → Shared → Prop} {I : Addr} {a c : Int} {n : Nat} (hh : A.handled = none) (hit : IsRangeIter s.heap I a (n : Int) c) (hlen : n ≤ 2 ^ 24) (S : Addr) (hS : s.heap.get? S = some { cls := .type "list", data := .seq #[] })
    (hR : ∀ h' tk acc' c', (∀ b o, b ≠ S → b ≠ I → s.heap.get? b = some o → h'.get? b = some o) → h'.get? S = some { cls := .type "list", dict := none, data := .seq acc' c', slots := #[] } →
      ItemsOf (fun i v => ∃ t, v = .int (a + i * c) t) acc' n → R (.ok (.ret .none)) { s with heap := h', toks := tk }) :
    wpAny (model prog w) A.in1 (Builtin.«list.__init__» ⟨[.ref S, .ref I], []⟩)
      (fun fin s' => match fin with | .done f => R (.ok f) s' | .again c' => c'.quiet = true ∧ codeAny (model prog w) A c' R s') (fun e s' => R (.error e) s') s := by
  have hSI : S ≠ I := fun e => by rw [e, hit] at hS; simp at hS
  show wpAny _ _ (do let old ← Builtin.List.listItems (.ref S); Builtin.List.listUpdate (.ref S) (fun _ => #[]); letGo old.toList.reverse; Builtin.List.listExtendWith (.ref S) (.ref I) .none) _ _ s
  refine wpAny_bind ?_
  unfold Builtin.List.listItems
  refine wpAny_bind (wpAny_seqItems hS rfl (wpAny_pure ?_))
  show wpAny _ _ (updateSeq S (fun _ => #[]) >>= fun _ => letGo (#[] : Array Value).toList.reverse >>= fun _ => Builtin.List.listExtendWith (.ref S) (.ref I) .none) _ _ s
  refine wpAny_bind (wpAny_updateSeq hS rfl ?_)
  have hS₂ := Heap.get?_update_self (Obj.mapSeq (fun _ => (#[] : Array Value))) hS rfl
  have oth : ∀ b o, b ≠ S → s.heap.get? b = some o → (s.heap.update S (Obj.mapSeq (fun _ => (#[] : Array Value)))).get? b = some o :=
    fun b o hb e => (Heap.get?_update_other _ _ (Ne.symm hb)).trans e
  refine wpAny_bind (wpAny_letGo ?_)
  refine wpAny_extend_rit hh (oth I _ (Ne.symm hSI) hit) hlen S .none _ hS₂ fun h' tk acc' c' hk hS' hacc => ?_
  exact hR h' tk acc' c' (fun b o hb hbI e => hk b o hb hbI (oth b o hb e)) hS' hacc
theorem call_list_rit {Q : Value → Shared → Prop} {I : Addr} {a c : Int} {n : Nat} (hh : A.handled = none) (hit : IsRangeIter s.heap I a (n : Int) c) (hlen : n ≤ 2 ^ 24)
    (hQ : ∀ h' tk acc' c', (∀ b o, b ≠ I → s.heap.get? b = some o → h'.get? b = some o) →
      h'.get? s.heap.objs.size = some { cls := .type "list", dict := none, data := .seq acc' c', slots := #[] } → ItemsOf (fun i v => ∃ t, v = .int (a + i * c) t) acc' n → Q (.ref s.heap.objs.size) { s with heap := h', toks := tk }) :
    wpAny (model prog w) A (call (.type "list") [.ref I]) Q E s := by
  refine callType_codes (Q₁ := fun obj s₁ => obj = .ref s.heap.objs.size ∧ s₁ = { s with heap := s.heap.push { cls := .type "list", data := .seq #[] } }) F.called_list (F.typeCall_list_1 _) F.entry_list_init
    (code_list_new _ ⟨rfl, rfl⟩) fun obj s₁ h₁ => ?_
  obtain ⟨rfl, rfl⟩ := h₁
  have hS : (s.heap.push { cls := .type "list", data := .seq #[] }).get? s.heap.objs.size = some { cls := .type "list", data := .seq #[] } := Heap.get?_push_size _ rfl
  refine ⟨⟨_, hS, rfl⟩, F.args_list_init_2 _ _, wpAny_list_init_rit (A := A.in1) hh (Heap.get?_push_of_some _ hit) hlen _ hS fun h' tk acc' c' hk hS' hacc => ?_⟩
  exact ⟨rfl, hQ h' tk acc' c' (fun b o hb e => hk b o (Nat.ne_of_lt (Heap.lt_size e)) hb (Heap.get?_push_of_some _ e)) hS' hacc⟩
end
end PySem
namespace L2
open PySem PySem.Spec PyProof.Rows
/-- the ints b - 1 .. a -/
def rgR (a b : Int) : List V := (List.range (b - a).toNat).map fun i => V.int (a + (((b - a).toNat : Nat) : Int) - 1 - (i : Nat))
theorem vals_rgR {a b : Int} {acc : Array Value} (h : ItemsOf (fun i v => ∃ t, v = .int ((a + (((b - a).toNat : Nat) : Int) - 1) + i * (-1)) t) acc (b - a).toNat) : Vals (rgR a b) acc.toList := by
  have e : acc.toList.length = (b - a).toNat := by rw [Array.length_toList]; exact h.1
  unfold rgR
  have := vals_of_get acc.toList (fun i => V.int (a + (((b - a).toNat : Nat) : Int) - 1 - (i : Nat))) fun j u hj => ?_
  · rw [e] at this; exact this
  obtain ⟨t, rfl⟩ := h.2 j u (by rw [← hj, Array.getElem?_toList])
  exact ⟨t, by congr 1; omega⟩
def tLstRev (te : St → Hp → (Int → Int → Hp → Prop) → Prop) : TE := fun σ H Q => te σ H fun a b H1 => RgOk a b ∧ ∀ q, H1 q = none → Q (.ref q) (upd H1 q (.lst (rgR a b)))
theorem pe_listRev {X : Cx} {e : Expr} {te : St → Hp → (Int → Int → Hp → Prop) → Prop} {p p2 pos pos2 : Pos} (hc : X.calm = true) (hg : Gl X "list") (hm : X.mg "list" = none) (hg2 : Gl X "reversed") (hm2 : X.mg "reversed" = none) (he : PRg X e te)
    (hs : starEach [e] X.env = (false, eval e X.env) :: starEach [] X.env := by rfl)
    (hs2 : starEach [.Call (.Name "reversed" p2) [e] [] pos2] X.env = (false, eval (.Call (.Name "reversed" p2) [e] [] pos2) X.env) :: starEach [] X.env := by rfl) :
    PE X (.Call (.Name "list" p) [.Call (.Name "reversed" p2) [e] [] pos2] [] pos) (tLstRev te) := by
  refine ⟨fun pins s σ H Q I h => ?_⟩
  refine Call_ (ld_blt I hg hm boot_list (PyProof.Rows.callWith_type1 (args_cons (Call_ (ld_blt I hg2 hm2 PyProof.Rows.boot_reversed (PyProof.Rows.callWith_type1 (args_cons (thn (he pins s σ H _ I h) fun x s1 ⟨r, a, b, t, u, v, H1, ex, hr, I1, ok, q⟩ => args_nil ?_) hs) hs rfl))) hs2) hs2 rfl))
  subst ex
  obtain ⟨b1, b2, b3, b4, b5⟩ := ok
  have hn : Builtin.Range.rangeSize a b 1 = (((b - a).toNat : Nat) : Int) := rangeSize_nat a b
  refine call_reversed_range hr (smallRev_one b1 b2 b3 b4) (args_nil ?_)
  have k0 : ∀ b' o, s1.heap.get? b' = some o → (s1.heap.push (rngRevObj a b 1)).get? b' = some o := fun b o e => Heap.get?_push_of_some _ e
  have I2 : Inv X pins σ H1 { s1 with heap := s1.heap.push (rngRevObj a b 1) } := I1.kept (t' := s1.toks) k0
  obtain ⟨f0, f1, f2, f3, f4, f5⟩ := I1.fpOk (H' := H1) (b := s1.heap.objs.size) (Nat.le_refl _) (I1.hok.fresh (Nat.le_refl _))
  have hit : IsRangeIter (s1.heap.push (rngRevObj a b 1)) s1.heap.objs.size (a + (((b - a).toNat : Nat) : Int) - 1) (((b - a).toNat : Nat) : Int) (-1) := by
    have e1 : a + (((b - a).toNat : Nat) : Int) - 1 = a + (Builtin.Range.rangeSize a b 1 - 1) * 1 := by rw [hn]; omega
    rw [e1]
    conv => arg 4; rw [← hn]
    exact Heap.get?_push_size _ rfl
  refine call_list_rit (s := { s1 with heap := s1.heap.push (rngRevObj a b 1) }) (n := (b - a).toNat) (I1.ok.hd hc) hit b5 fun h' tk acc c' hk e' hi => ?_
  have hp := I2.hok.fresh (a := (s1.heap.push (rngRevObj a b 1)).objs.size) (Nat.le_refl _)
  have I3 : Inv X pins σ (upd H1 (s1.heap.push (rngRevObj a b 1)).objs.size (.lst (rgR a b))) { s1 with heap := (s1.heap.push (rngRevObj a b 1)).push { cls := .type "list", dict := none, data := .seq acc c', slots := #[] }, toks := s1.toks } := by
    refine I2.laid (fun b o e => Heap.get?_push_of_some _ e) (Nat.le_refl _) (show ObjOk X.prog X.w _ _ _ (.lst (rgR a b)) from ⟨?_, acc.toList, c', vals_rgR hi, ?_⟩)
    · unfold rgR; rw [List.length_map, List.length_range, sizeLine_eq]; omega
    · rw [Array.toArray_toList]; exact Heap.get?_push_size _ rfl
  have hne : (s1.heap.push (rngRevObj a b 1)).objs.size ≠ s1.heap.objs.size := Nat.ne_of_gt (Heap.lt_size hit)
  have I4 := I3.turned (h' := h') (t' := tk) (it := s1.heap.objs.size) (fun b' o hb e => ?_) (by rw [upd_ne (Ne.symm hne)]; exact f0) f1 f3 f4 f5
  · exact ⟨.ref (s1.heap.push (rngRevObj a b 1)).objs.size, _, I4, rfl, q _ hp⟩
  · rcases Heap.get?_push_cases e with ⟨rfl, rfl⟩ | e
    · exact e'
    · exact hk b' o hb e
end L2
namespace PV
open PySem PySem.Spec L2
open PyProof.Rows hiding St
section
variable {X : Cx} {C : Cc} {e a b c : Expr} {pos : Pos} {A B O O' : List Nat} {f : Lo → Res PyData}
def eListRev (f : Lo → Res PyData) : Lo → Res PyData := fun env => ((f env).bind fun d => intOf [d]).bind fun n => .ok (.list ((List.range n.toNat).map fun i => .int ((n.toNat : Nat) - 1 - (i : Nat))))
theorem rgR_rep {K : PySem.W.Frag} {H : Hp} (m : Int) : ∀ l : List Nat, RepL K H (l.map fun i => .int (m - (i : Nat))) (l.map fun i => V.int (m - (i : Nat))) []
  | [] => ⟨rfl, rfl⟩
  | n :: l => ⟨_, _, [], [], rfl, ⟨rfl, rfl⟩, rgR_rep m l, rfl⟩
theorem ve_listRev {p p2 p3 pos2 pos3 : Pos} (gd : Gd X) (hg : Gl X "list") (hm : X.mg "list" = none) (hg3 : Gl X "reversed") (hm3 : X.mg "reversed" = none) (hg2 : Gl X "range") (hm2 : X.mg "range" = none) (h : VE X C A e f) (na2 : starEach [e] X.env = (false, eval e X.env) :: starEach [] X.env := by rfl)
    (na3 : starEach [.Call (.Name "range" p3) [e] [] pos3] X.env = (false, eval (.Call (.Name "range" p3) [e] [] pos3) X.env) :: starEach [] X.env := by rfl)
    (na : starEach [.Call (.Name "reversed" p2) [.Call (.Name "range" p3) [e] [] pos3] [] pos2] X.env = (false, eval (.Call (.Name "reversed" p2) [.Call (.Name "range" p3) [e] [] pos3] [] pos2) X.env) :: starEach [] X.env := by rfl) : VE X C [] (.Call (.Name "list" p) [.Call (.Name "reversed" p2) [.Call (.Name "range" p3) [e] [] pos3] [] pos2] [] pos) (eListRev f) :=
  (pe_listRev gd.calm hg hm hg3 hm3 (prg_1 hg2 hm2 h na2) na3 na).imp fun σ H Q ⟨env, Fs, hs, h⟩ => by
  refine ⟨env, Fs, hs, post_mono (post_bind (post_bind h)) (fun d _ h1 v H1 F g1 => ?_) fun _ _ h => h⟩
  unfold intOf at h1
  split at h1
  · rename_i n en
    cases en
    split at h1
    · rename_i hn
      have r := g1.rep
      obtain ⟨rfl, rfl⟩ := r
      refine ⟨n, rfl, ⟨by omega, by omega, by omega, by omega, by omega⟩, fun q nq => h1 (.ref q) _ [q] ?_⟩
      refine got_lst (G := []) (xs := rgR 0 n) ?_ g1.same (fun _ z => (nomatch z)) (fun _ _ => List.nodup_nil) nq
      unfold rgR
      rw [Int.sub_zero, Int.zero_add]
      exact rgR_rep _ _
    · exact h1.elim
  · exact h1.elim
end
end PV

set_option Elab.async false
set_option linter.all false
set_option maxRecDepth 100000
namespace PV
open PySem PySem.Spec L2
open PyProof.Rows hiding St
/-! ### for x in l: x.clear() -/
theorem Slots.loose {K : PySem.W.Frag} {env : Lo} {σ σ' : St} {H : Hp} {Fs : Nat → List Addr} {i : Nat} (h : Slots K env σ H Fs) (hl : σ'.length = σ.length) (hj : ∀ j : Nat, j ≠ i → σ'[j]? = σ[j]?) : Slots K (env.set i none) σ' H (updF Fs i []) := by
  refine ⟨by simp [h.len, hl], fun k d e => ?_, fun k n => ?_⟩
  · by_cases hk : k = i
    · subst hk
      by_cases hl : k < env.length
      · rw [List.getElem?_set_self hl] at e
        cases e
      · rw [List.getElem?_eq_none (by simp; omega)] at e
        cases e
    · rw [List.getElem?_set_ne (Ne.symm hk)] at e
      rw [updF_ne hk, hj k hk]
      exact h.rep k d e
  · by_cases hk : k = i
    · subst hk
      exact updF_same
    · rw [updF_ne hk]
      exact h.non k fun d e => n d (by rw [List.getElem?_set_ne (Ne.symm hk)]; exact e)
theorem owns_upd {O : List Nat} {Fs : Nat → List Addr} {i : Nat} (h : Owns O Fs) (hi : i ∉ O) : Owns O (updF Fs i []) ∧ own O (updF Fs i []) = own O Fs := by
  have e1 : ∀ j ∈ O, updF Fs i [] j = Fs j := fun j hj => updF_ne fun z => hi (z ▸ hj)
  refine ⟨⟨fun j hj => by rw [e1 j hj]; exact h.nd j hj, fun j hj m hm a ha => ?_⟩, funext fun a => propext ⟨fun ⟨j, hj, z⟩ => ⟨j, hj, by rwa [e1 j hj] at z⟩, fun ⟨j, hj, z⟩ => ⟨j, hj, by rwa [e1 j hj]⟩⟩⟩
  rw [e1 j hj] at ha
  by_cases e : m = i
  · subst e; rw [updF_same]; exact fun z => nomatch z
  · rw [updF_ne e]; exact h.dj j hj m hm a ha
def isFl : PyData → Bool
  | .list es => flatL es
  | _ => false
def sForClr (i k : Nat) : Lo → Out := fun env => match slotL k env with
  | some ds => if ds.all isFl && decide (i < env.length) && decide (i ≠ k) then .nx ((env.set k (some (.list (ds.map fun _ => .list [])))).set i none) else .bad
  | none => .bad
def cl (j : Nat) (ds : List PyData) : List PyData := (ds.take j).map (fun _ => PyData.list []) ++ ds.drop j
theorem set_selfL {env : Lo} {k : Nat} {z : Option PyData} (h : env[k]? = some z) : env.set k z = env := by
  apply List.ext_getElem?
  intro n
  by_cases hn : n = k
  · subst hn
    rw [List.getElem?_set_self (List.getElem?_eq_some_iff.mp h).1, h]
  · rw [List.getElem?_set_ne (Ne.symm hn)]
theorem cl_get {ds : List PyData} {j : Nat} (h : j < ds.length) : (cl j ds)[j]? = some ds[j] := by
  unfold cl
  rw [List.getElem?_append_right (by simp; omega)]
  simp [Nat.min_eq_left (Nat.le_of_lt h), h]
theorem cl_set {ds : List PyData} {j : Nat} (h : j < ds.length) : (cl j ds).set j (.list []) = cl (j + 1) ds := by
  unfold cl
  rw [List.set_append_right _ _ (by simp; omega)]
  have e : j - ((ds.take j).map fun _ => PyData.list []).length = 0 := by simp; omega
  rw [e, ← List.getElem_cons_drop (h := h), List.set_cons_zero, List.take_add_one, List.getElem?_eq_getElem h, List.map_append]
  simp
section
variable {X : Cx} {C : Cc} {pos : Pos} {O : List Nat}
theorem vs_forClr (i k : Nat) {x y : Str} {tp yp p1 p2 p3 epos : Pos} (hp : PassesOwn (model X.prog X.w) X.A X.env X.xe) (hc : X.calm = true) (hN : X.N.Nodup) (hO : k ∈ O := by decide) (hiO : i ∉ O := by decide) (hi : X.N[i]? = some x := by rfl) (hk : X.N[k]? = some y := by rfl)
    (hx : Loc X.env.scope x := by first | exact Or.inl rfl | exact Or.inr rfl) (hf : X.fn x = true ∨ X.env.scope.names.lookup x = some .local := by first | exact .inl rfl | exact .inr rfl | assumption)
    (hvx : Vis X.env.scope x := by first | exact Or.inl rfl | exact Or.inr (Or.inl rfl) | exact Or.inr (Or.inr rfl)) (hdx : (x == ("__debug__" : Str)) = false := by decide) (hcx : (x == ("__classdict__" : Str)) = false := by decide)
    (hv : Vis X.env.scope y := by first | exact Or.inl rfl | exact Or.inr (Or.inl rfl) | exact Or.inr (Or.inr rfl)) (hd : (y == ("__debug__" : Str)) = false := by decide) (hcd : (y == ("__classdict__" : Str)) = false := by decide)
    (hbase : attributeBase (.Name x p1) "clear" X.env (eval (.Name x p1) X.env) = eval (.Name x p1) X.env := by rfl)
    (hline : (p2.endLine == p3.line) = true := by rfl) (hs2 : swapsWith (.Call (.Attribute (.Name x p1) "clear" p2) [] [] p3) none epos.line X.env = pure false := by rfl)
    (hs : ∀ z, foldedSetIterable (.Name y yp) X.env z = pure z := by intro _; rfl) :
    VS X C O O (.For (.Name x tp) (.Name y yp) [.Expr (.Call (.Attribute (.Name x p1) "clear" p2) [] [] p3) epos] [] pos) (sForClr i k) := by
  refine PSimp (ps_for hp hc (pi_list (pv k hk hv hd hcd)) (pg_name hN hi hx hf) (pss_one (ps_expr (pe_bm0 PySem.F.plainAttrs_list PySem.F.slot_list_clear PySem.F.type_list_clear mt_clear (pv i hi hvx hdx hcx) hbase hline) hs2)) hs) fun D σ H ⟨env, Fs, hs, ho, h⟩ => ?_
  unfold sForClr at h
  split at h
  · rename_i ds e0
    have e0 := slotL_of e0
    split at h
    · rename_i hcnd
      rw [Bool.and_eq_true, Bool.and_eq_true] at hcnd
      obtain ⟨⟨hfl, hli⟩, hik⟩ := hcnd
      have hli := of_decide_eq_true hli
      have hik : i ≠ k := of_decide_eq_true hik
      obtain ⟨v, hv, r⟩ := hs.rep k _ e0
      obtain ⟨a, xs, G, rfl, ha, rG, eF⟩ := r
      have hlk : k < env.length := (List.getElem?_eq_some_iff.mp e0).1
      refine ⟨.ref a, hv, a, rfl, ⟨xs, SqL.of ha⟩, ?_⟩
      refine ⟨fun j m σ1 H1 => m = ds.length - j ∧ j ≤ ds.length ∧ σ1[k]? = some (some (.ref a)) ∧ σ1.length = σ.length ∧ ∃ Fs1, Slots X.K ((env.set k (some (.list (cl j ds)))).set i none) σ1 H1 Fs1 ∧ Owns O Fs1 ∧ Fr (own O Fs) H (own O Fs1) H1, ⟨ds.length, rfl, Nat.zero_le _, hv, rfl, ?_⟩, ?_⟩
      · refine ⟨updF Fs i [], ?_, (owns_upd ho hiO).1, by rw [(owns_upd ho hiO).2]; exact fr_same (Same.refl H)⟩
        have e : env.set k (some (.list (cl 0 ds))) = env := by
          have : cl 0 ds = ds := by simp [cl]
          rw [this]
          exact set_selfL e0
        rw [show env.set k (some (.list (cl 0 ds))) = env from e]
        exact hs.loose rfl fun _ _ => rfl
      · rintro j m σ1 H1 ⟨rfl, hj, hv1, hl1, Fs1, sl1, ow1, fr1⟩
        have e1 : ((env.set k (some (.list (cl j ds)))).set i none)[k]? = some (some (.list (cl j ds))) := by
          rw [List.getElem?_set_ne hik, List.getElem?_set_self hlk]
        obtain ⟨v1, q1, r1⟩ := sl1.rep k _ e1
        rw [hv1] at q1
        cases q1
        obtain ⟨a1, xs1, G1, ea, ha1, rG1, eF1⟩ := r1
        cases ea
        have hlen : xs1.length = ds.length := by rw [rG1.length]; simp [cl]; omega
        by_cases hjl : j < ds.length
        · have hg := cl_get hjl
          have hfj : isFl ds[j] = true := (List.all_eq_true.mp hfl) _ (List.getElem_mem hjl)
          unfold isFl at hfj
          split at hfj
          · rename_i es ees
            rw [ees] at hg
            have ndG : (a :: G1).Nodup := by rw [← eF1]; exact ow1.nd k hO
            obtain ⟨b, ys, G2, G3, z1, z2, z3, eG, z4⟩ := repl_inner hfj rG1 hg (List.nodup_cons.mp ndG).2
            refine .inr ⟨⟨xs1, .ref b, SqL.of ha1, z1⟩, fun σ2 H2 => (σ2[k]? = some (some (.ref a)) ∧ σ2.length = σ.length ∧ ∃ Fs1, Slots X.K ((env.set k (some (.list (cl (j + 1) ds)))).set i none) σ2 H2 Fs1 ∧ Owns O Fs1 ∧ Fr (own O Fs) H (own O Fs1) H2), fun σ2 H2 n => ⟨ds.length - (j + 1), by omega, rfl, hjl, n⟩, fun x0 H2 hy => ?_⟩
            obtain ⟨rfl, hy⟩ := hy
            have hx0 := hy xs1 (SqL.of ha1)
            rw [z1] at hx0
            cases hx0
            have hab : b ≠ a := fun z => by
              have := (List.nodup_cons.mp ndG).1
              rw [eG, z] at this
              exact this (by simp)
            have bF : b ∈ Fs1 k := by rw [eF1, eG]; simp
            have rk : Rep X.K (upd H2 b (.lst [])) (.list ((cl j ds).set j (.list []))) (.ref a) (a :: G1) := ⟨a, xs1, G1, rfl, by rw [upd_ne (Ne.symm hab)]; exact ha1, z4 [] [] ⟨rfl, rfl⟩, rfl⟩
            obtain ⟨m1, m2, m3⟩ := mutd (O := O) (d' := .list ((cl j ds).set j (.list []))) (F' := a :: G1) (ch := fun c => c = b) sl1 (Same.refl H2) ow1 hO (by simpa using hlk) hv1 (fun c z => by rw [z]; exact bF) upd_keep (upd_dom ⟨_, z2⟩) rk ndG (fun c hc => .inl (by rw [eF1]; exact hc))
            rw [cl_set hjl] at m1
            have li : i < σ1.length := by
              rw [hl1, ← hs.len]; exact hli
            refine ⟨.ref b, List.getElem?_set_self li, tyV_list (SqL.of z2), b, ys, rfl, rfl, z2, ?_⟩
            refine ⟨by rw [List.getElem?_set_ne hik]; exact hv1, by simpa using hl1, updF (updF Fs1 k (a :: G1)) i [], ?_, (owns_upd m2 hiO).1, ?_⟩
            · have m4 := m1.loose (i := i) (σ' := σ1.set i (some (.ref b))) (by simp) (fun j hj => List.getElem?_set_ne (Ne.symm hj))
              have ee : (((env.set k (some (.list (cl j ds)))).set i none).set k (some (.list (cl (j + 1) ds)))).set i none = (env.set k (some (.list (cl (j + 1) ds)))).set i none := by
                rw [List.set_comm _ _ hik, List.set_set, List.set_set]
              rw [ee] at m4
              exact m4
            · rw [(owns_upd m2 hiO).2]
              exact fr1.trans m3
          · cases hfj
        · have : j = ds.length := by omega
          subst this
          have hcl : cl ds.length ds = ds.map fun _ => .list [] := by simp [cl]
          rw [hcl] at sl1
          exact .inl ⟨⟨xs1, SqL.of ha1, by omega⟩, h _ _ _ sl1 ow1 fr1⟩
    · exact h.elim
  · exact h.elim
end
end PV

set_option Elab.async false
set_option linter.all false
set_option maxRecDepth 100000
namespace PV
open PySem PySem.Spec L2
open PyProof.Rows hiding St
/-! ### for x, y in d.items(): e[x] = y -/
theorem updC {H : Hp} {a b : Addr} {x y : HO} (h : a ≠ b) : upd (upd H a x) b y = upd (upd H b y) a x := funext fun c => by
  by_cases h1 : c = a
  · subst h1
    rw [upd_ne h, upd_same, upd_same]
  · by_cases h2 : c = b
    · subst h2
      rw [upd_same, upd_ne h1, upd_same]
    · rw [upd_ne h2, upd_ne h1, upd_ne h1, upd_ne h2]
def updE (fvs kvs : List (PyData × PyData)) : List (PyData × PyData) := kvs.foldl (fun f p => match p.1 with
  | .int n => putE f n p.2
  | _ => f) fvs
theorem putE_len (kvs : List (PyData × PyData)) (k : Int) (d : PyData) : (putE kvs k d).length ≤ kvs.length + 1 := by
  unfold putE
  split <;> simp
theorem updE_len : ∀ (kvs fvs : List (PyData × PyData)), (updE fvs kvs).length ≤ fvs.length + kvs.length
  | [], fvs => by simp [updE]
  | p :: kvs, fvs => by
    have := updE_len kvs (match p.1 with | .int n => putE fvs n p.2 | _ => fvs)
    have h2 : (match p.1 with | .int n => putE fvs n p.2 | _ => fvs).length ≤ fvs.length + 1 := by
      split
      · exact putE_len _ _ _
      · omega
    have e : updE fvs (p :: kvs) = updE (match p.1 with | .int n => putE fvs n p.2 | _ => fvs) kvs := rfl
    rw [e]
    simp only [List.length_cons]
    omega
theorem dictK_updE : ∀ {kvs : List (PyData × PyData)} {ks : List (Key × V)} {fvs : List (PyData × PyData)} {fks : List (Key × V)}, dictK fvs = some fks → dictK kvs = some ks → dictK (updE fvs kvs) = some (mergeK fks ks)
  | [], ks, fvs, fks, h, q => by
    simp [dictK] at q
    subst q
    exact h
  | p :: r, ks, fvs, fks, h, q => by
    obtain ⟨j, d, v, ks', rfl, h1, h2, rfl⟩ := dictK_cons q
    show dictK (updE (putE fvs j d) r) = some (mergeK (putK fks (Sum.inl j) v) ks')
    exact dictK_updE (dictK_put h h1) h2
theorem dictK_take (m : Nat) : ∀ {kvs : List (PyData × PyData)} {ks : List (Key × V)}, dictK kvs = some ks → dictK (kvs.take m) = some (ks.take m) := by
  induction m with
  | zero => intro kvs ks h; simp [dictK]
  | succ m ih =>
    intro kvs ks h
    cases kvs with
    | nil => simp [dictK] at h; subst h; simp [dictK]
    | cons p r =>
      obtain ⟨j, d, v, ks', rfl, h1, h2, rfl⟩ := dictK_cons h
      exact dictK_mk h1 (ih h2)
theorem dictK_at : ∀ {kvs : List (PyData × PyData)} {ks : List (Key × V)} {m : Nat} {k : Key} {v : V}, dictK kvs = some ks → ks[m]? = some (k, v) → ∃ n d, kvs[m]? = some (.int n, d) ∧ k = Sum.inl n ∧ atomV d = some v
  | [], ks, m, k, v, h, e => by simp [dictK] at h; subst h; simp at e
  | p :: r, ks, 0, k, v, h, e => by
    obtain ⟨j, d, v', ks', rfl, h1, h2, rfl⟩ := dictK_cons h
    simp at e
    obtain ⟨rfl, rfl⟩ := e
    exact ⟨j, d, rfl, rfl, h1⟩
  | p :: r, ks, m + 1, k, v, h, e => by
    obtain ⟨j, d, v', ks', rfl, h1, h2, rfl⟩ := dictK_cons h
    obtain ⟨n, d', a, b, c⟩ := dictK_at (kvs := r) (ks := ks') (m := m) h2 (by simpa using e)
    exact ⟨n, d', by simpa using a, b, c⟩
theorem updE_snoc {fvs kvs : List (PyData × PyData)} {m : Nat} {n : Int} {d : PyData} (h : kvs[m]? = some (.int n, d)) : updE fvs (kvs.take (m + 1)) = putE (updE fvs (kvs.take m)) n d := by
  have e : kvs.take (m + 1) = kvs.take m ++ [(.int n, d)] := by
    rw [List.take_add_one, h]; rfl
  rw [e]
  simp [updE]
def sForUpd (i1 i2 k j : Nat) : Lo → Out := fun env => match slotD j env, slotD k env with
  | some kvs, some fvs => if decide (i1 < env.length) && decide (i2 < env.length) && decide (i1 ≠ i2) && decide (i1 ≠ k) && decide (i2 ≠ k) && decide (j ≠ k) && decide (fvs.length + kvs.length < 100000) then .nx (((env.set k (some (.dict (updE fvs kvs)))).set i1 none).set i2 none) else .bad
  | _, _ => .bad
section
variable {X : Cx} {C : Cc} {pos : Pos} {O : List Nat}
theorem vs_forUpd (i1 i2 k j : Nat) {x1 x2 y z : Str} {kk : Nat} {px1 px2 tp yp ap cp zp q1 q2 sp asp : Pos} (gd : Gd X) (hp : PassesOwn (model X.prog X.w) X.A X.env X.xe) (hO : k ∈ O := by decide) (hi1O : i1 ∉ O := by decide) (hi2O : i2 ∉ O := by decide)
    (hi1 : X.N[i1]? = some x1 := by rfl) (hi2 : X.N[i2]? = some x2 := by rfl) (hj : X.N[j]? = some y := by rfl) (hk : X.N[k]? = some z := by rfl)
    (hx1 : Loc X.env.scope x1 := by first | exact Or.inl rfl | exact Or.inr rfl) (hf1 : X.fn x1 = true ∨ X.env.scope.names.lookup x1 = some .local := by first | exact .inl rfl | exact .inr rfl | assumption)
    (hx2 : Loc X.env.scope x2 := by first | exact Or.inl rfl | exact Or.inr rfl) (hf2 : X.fn x2 = true ∨ X.env.scope.names.lookup x2 = some .local := by first | exact .inl rfl | exact .inr rfl | assumption)
    (hv1 : Vis X.env.scope x1 := by first | exact Or.inl rfl | exact Or.inr (Or.inl rfl) | exact Or.inr (Or.inr rfl)) (hd1 : (x1 == ("__debug__" : Str)) = false := by decide) (hc1 : (x1 == ("__classdict__" : Str)) = false := by decide)
    (hv2 : Vis X.env.scope x2 := by first | exact Or.inl rfl | exact Or.inr (Or.inl rfl) | exact Or.inr (Or.inr rfl)) (hd2 : (x2 == ("__debug__" : Str)) = false := by decide) (hc2 : (x2 == ("__classdict__" : Str)) = false := by decide)
    (hvy : Vis X.env.scope y := by first | exact Or.inl rfl | exact Or.inr (Or.inl rfl) | exact Or.inr (Or.inr rfl)) (hdy : (y == ("__debug__" : Str)) = false := by decide) (hcy : (y == ("__classdict__" : Str)) = false := by decide)
    (hvz : Vis X.env.scope z := by first | exact Or.inl rfl | exact Or.inr (Or.inl rfl) | exact Or.inr (Or.inr rfl)) (hdz : (z == ("__debug__" : Str)) = false := by decide) (hcz : (z == ("__classdict__" : Str)) = false := by decide)
    (hbase : attributeBase (.Name y yp) "items" X.env (eval (.Name y yp) X.env) = eval (.Name y yp) X.env := by rfl)
    (hline : (ap.endLine == cp.line) = true := by rfl)
    (hsw : swapsWith (.Name x2 q2) (some (.Subscript (.Name z zp) (.Name x1 q1) sp)) asp.line X.env = pure false := by rfl)
    (hs : ∀ u, foldedSetIterable (.Call (.Attribute (.Name y yp) "items" ap) [] [] cp) X.env u = pure u := by intro _; rfl) :
    VS X C O O (.For (.Tuple [.Name x1 px1, .Name x2 px2] kk tp) (.Call (.Attribute (.Name y yp) "items" ap) [] [] cp) [.Assign [.Subscript (.Name z zp) (.Name x1 q1) sp] (.Name x2 q2) asp] [] pos) (sForUpd i1 i2 k j) := by
  refine PSimp (ps_lock (ps_for hp gd.calm (pi_items (pv j hj hvy hdy hcy) hbase hline) (pg_tup gd.calm (pgs_cons (pg_name gd.nd hi1 hx1 hf1) (pgs_cons (pg_name gd.nd hi2 hx2 hf2) pgs_nil)))
    (pss_one (ps_dput (by have := gd.hu; omega) (pv k hk hvz hdz hcz) (pv i1 hi1 hv1 hd1 hc1) (pv i2 hi2 hv2 hd2 hc2) hsw)) hs)) fun D σ H ⟨env, Fs, hs, ho, h⟩ => ?_
  unfold sForUpd at h
  split at h
  · rename_i kvs fvs ej ek
    split at h
    · rename_i hcnd
      simp only [Bool.and_eq_true, decide_eq_true_eq] at hcnd
      obtain ⟨⟨⟨⟨⟨⟨hl1, hl2⟩, h12⟩, h1k⟩, h2k⟩, hjk⟩, hlen⟩ := hcnd
      obtain ⟨ej, ks, hks⟩ := slotD_of ej
      obtain ⟨ek, fks, hfks⟩ := slotD_of ek
      obtain ⟨vj, hvj, rj⟩ := hs.rep j _ ej
      obtain ⟨d, rfl, hd, eFj⟩ := rep_dict hks rj
      obtain ⟨vk, hvk, rk⟩ := hs.rep k _ ek
      obtain ⟨f0, rfl, hf0, eFk⟩ := rep_dict hfks rk
      have hfd : f0 ≠ d := fun e => ho.dj k hO j hjk f0 (by rw [eFk]; simp) (by rw [eFj, e]; simp)
      have hlk : k < env.length := (List.getElem?_eq_some_iff.mp ek).1
      refine ⟨d, .dK ks, hd, trivial, fun od => ?_⟩
      refine ⟨.ref d, hvj, d, od, ks, rfl, upd_same, ?_⟩
      refine ⟨fun m n σ1 H1 => n = ks.length - m ∧ m ≤ ks.length ∧ H1 d = some (.frz od (.dK ks)) ∧ σ1[k]? = some (some (.ref f0)) ∧ σ1.length = σ.length ∧ ∃ Fs1, Slots X.K (((env.set k (some (.dict (updE fvs (kvs.take m))))).set i1 none).set i2 none) σ1 (upd H1 d (.dK ks)) Fs1 ∧ Owns O Fs1 ∧ Fr (own O Fs) H (own O Fs1) (upd H1 d (.dK ks)), ⟨ks.length, rfl, Nat.zero_le _, upd_same, hvk, rfl, ?_⟩, ?_⟩
      · have eH : upd (upd H d (.frz od (.dK ks))) d (.dK ks) = H := by
          rw [upd_upd]
          funext c
          by_cases hc : c = d
          · subst hc; rw [upd_same, hd]
          · rw [upd_ne hc]
        rw [eH]
        have o1 := owns_upd ho hi1O
        have o2 := owns_upd o1.1 hi2O
        refine ⟨updF (updF Fs i1 []) i2 [], ?_, o2.1, by rw [o2.2, o1.2]; exact fr_same (Same.refl H)⟩
        have e : env.set k (some (.dict (updE fvs (kvs.take 0)))) = env := set_selfL ek
        rw [e]
        exact (hs.loose (σ' := σ) rfl fun _ _ => rfl).loose rfl fun _ _ => rfl
      · rintro m n σ1 H1 ⟨rfl, hm, hHd, hv1', hln1, Fs1, sl1, ow1, fr1⟩
        have hkl : kvs.length = ks.length := dictK_len hks
        by_cases hml : m < ks.length
        · refine .inr ⟨⟨hHd, hml⟩, fun σ2 H2 => (m + 1 ≤ ks.length ∧ H2 d = some (.frz od (.dK ks)) ∧ σ2[k]? = some (some (.ref f0)) ∧ σ2.length = σ.length ∧ ∃ Fs1, Slots X.K (((env.set k (some (.dict (updE fvs (kvs.take (m + 1)))))).set i1 none).set i2 none) σ2 (upd H2 d (.dK ks)) Fs1 ∧ Owns O Fs1 ∧ Fr (own O Fs) H (own O Fs1) (upd H2 d (.dK ks))), fun σ2 H2 z => ⟨ks.length - (m + 1), by omega, rfl, z⟩, ?_⟩
          rintro x0 H2 ⟨T, kx, v, hkm, rfl, hT, rfl⟩
          obtain ⟨nn, dd, hkd, rfl, hat⟩ := dictK_at hks hkm
          have hTd : T ≠ d := fun e => by rw [e, hHd] at hT; cases hT
          have hTk : upd H1 d (.dK ks) T = none := by rw [upd_ne hTd]; exact hT
          have hfk : dictK (updE fvs (kvs.take m)) = some (mergeK fks (ks.take m)) := dictK_updE hfks (dictK_take m hks)
          have e1 : (((env.set k (some (.dict (updE fvs (kvs.take m))))).set i1 none).set i2 none)[k]? = some (some (.dict (updE fvs (kvs.take m)))) := by
            rw [List.getElem?_set_ne h2k, List.getElem?_set_ne h1k, List.getElem?_set_self hlk]
          obtain ⟨v1, z1, r1⟩ := sl1.rep k _ e1
          rw [hv1'] at z1
          cases z1
          obtain ⟨f1, ef, hf1', eF1⟩ := rep_dict hfk r1
          cases ef
          have hTf : T ≠ f0 := fun e => by rw [e, hf1'] at hTk; cases hTk
          have hf2' : upd H1 T (.tup [kV (Sum.inl nn), v]) f0 = some (.dK (mergeK fks (ks.take m))) := by
            rw [upd_ne (Ne.symm hTf)]
            rw [upd_ne hfd] at hf1'
            exact hf1'
          refine ⟨T, [kV (Sum.inl nn), v], rfl, .inl (.inl upd_same), rfl, kV (Sum.inl nn), [v], rfl, v, [], rfl, rfl, ?_⟩
          have li2 : i2 < (σ1.set i1 (some (kV (Sum.inl nn)))).length := by simp; rw [hln1, ← hs.len]; exact hl2
          have li1 : i1 < σ1.length := by rw [hln1, ← hs.len]; exact hl1
          have lm : (mergeK fks (ks.take m)).length < sizeLine := by
            rw [← dictK_len hfk]
            have := updE_len (kvs.take m) fvs
            have : (kvs.take m).length ≤ kvs.length := by simp; omega
            rw [sizeLine_eq]; omega
          refine ⟨v, List.getElem?_set_self li2, .ref f0, by rw [List.getElem?_set_ne h2k, List.getElem?_set_ne h1k]; exact hv1', kV (Sum.inl nn), by rw [List.getElem?_set_ne (Ne.symm h12), List.getElem?_set_self li1], f0, _, rfl, DPut.k (k := Sum.inl nn) hf2' lm, ?_⟩
          have hH2 : upd (upd (upd H1 T (.tup [kV (Sum.inl nn), v])) f0 (.dK (putK (mergeK fks (ks.take m)) (Sum.inl nn) v))) d (.dK ks) = upd (upd (upd H1 d (.dK ks)) T (.tup [kV (Sum.inl nn), v])) f0 (.dK (putK (mergeK fks (ks.take m)) (Sum.inl nn) v)) := by
            rw [updC hfd, updC hTd]
          refine ⟨hml, by rw [upd_ne (Ne.symm hfd), upd_ne (Ne.symm hTd)]; exact hHd, by rw [List.getElem?_set_ne h2k, List.getElem?_set_ne h1k]; exact hv1', by simpa using hln1, ?_⟩
          rw [hH2]
          have sT : Same (upd H1 d (.dK ks)) (upd (upd H1 d (.dK ks)) T (.tup [kV (Sum.inl nn), v])) := same_upd hTk
          have hf3 : upd (upd H1 d (.dK ks)) T (.tup [kV (Sum.inl nn), v]) f0 = some (.dK (mergeK fks (ks.take m))) := sT _ _ hf1'
          have r' : Rep X.K (upd (upd (upd H1 d (.dK ks)) T (.tup [kV (Sum.inl nn), v])) f0 (.dK (putK (mergeK fks (ks.take m)) (Sum.inl nn) v))) (.dict (putE (updE fvs (kvs.take m)) nn dd)) (.ref f0) [f0] := .inl ⟨f0, _, rfl, dictK_put hfk hat, upd_same, rfl⟩
          obtain ⟨m1, m2, m3⟩ := mutd (O := O) (d' := .dict (putE (updE fvs (kvs.take m)) nn dd)) (F' := [f0]) (ch := fun b => b = f0) sl1 sT ow1 hO (by simpa using hlk) hv1' (fun b z => by rw [z, eF1]; exact List.mem_cons_self) upd_keep (upd_dom ⟨_, hf3⟩) r' (by simp) (fun b hb => .inl (by rw [eF1]; exact hb))
          rw [← updE_snoc hkd] at m1
          have o1 := owns_upd m2 hi1O
          have o2 := owns_upd o1.1 hi2O
          refine ⟨updF (updF (updF Fs1 k [f0]) i1 []) i2 [], ?_, o2.1, by rw [o2.2, o1.2]; exact fr1.trans m3⟩
          have m4 := (m1.loose (i := i1) (σ' := σ1.set i1 (some (kV (Sum.inl nn)))) (by simp) (fun j hj => List.getElem?_set_ne (Ne.symm hj))).loose (i := i2) (σ' := (σ1.set i1 (some (kV (Sum.inl nn)))).set i2 (some v)) (by simp) (fun j hj => List.getElem?_set_ne (Ne.symm hj))
          have ee : ((((((env.set k (some (.dict (updE fvs (kvs.take m))))).set i1 none).set i2 none).set k (some (.dict (updE fvs (kvs.take (m + 1)))))).set i1 none).set i2 none) = (((env.set k (some (.dict (updE fvs (kvs.take (m + 1)))))).set i1 none).set i2 none) := by
            rw [List.set_comm _ _ h2k, List.set_comm _ _ h1k, List.set_set, List.set_comm _ _ (Ne.symm h12), List.set_set, List.set_set]
          rw [ee] at m4
          exact m4
        · have : m = ks.length := by omega
          subst this
          have et : kvs.take ks.length = kvs := by rw [← hkl]; simp
          rw [et] at sl1
          exact .inl ⟨⟨hHd, Nat.le_refl _⟩, hHd, h _ _ _ sl1 ow1 fr1⟩
    · exact h.elim
  · exact h.elim
end
end PV

set_option Elab.async false
set_option linter.all false
set_option maxRecDepth 100000
namespace PV
open PySem PySem.Spec L2
open PyProof.Rows hiding St
/-! ### sorted(d), d a dict -/
def gSortedK : List PyData → Option PyData
  | [.dict kvs] => if (dictK kvs).isSome && decide (kvs.length < 64) then some (.list (sortD (kvs.map (·.1)))) else none
  | _ => none
theorem dictK_keys : ∀ {kvs : List (PyData × PyData)} {ks : List (Key × V)}, dictK kvs = some ks → ∃ ns : List Int, kvs.map (·.1) = ns.map .int ∧ ks.map (·.1) = ns.map Sum.inl
  | [], ks, h => by simp [dictK] at h; subst h; exact ⟨[], rfl, rfl⟩
  | p :: r, ks, h => by
    obtain ⟨j, d, v', ks', rfl, h1, h2, rfl⟩ := dictK_cons h
    obtain ⟨ns, a, b⟩ := dictK_keys h2
    exact ⟨j :: ns, by simp [a], by simp [b]⟩
/-! ### dict(xs), xs a list of pairs -/
def pairsOf : List PyData → Option (List (PyData × PyData))
  | [] => some []
  | .tuple [k, v] :: r => (pairsOf r).map ((k, v) :: ·)
  | _ => none
def gDictP : List PyData → Option PyData
  | [.list ds] => match pairsOf ds with
    | some kvs => if (dictK kvs).isSome then some (.dict (updE [] kvs)) else none
    | none => none
  | _ => none
theorem pairs_repD {K : PySem.W.Frag} {H : Hp} : ∀ {ds : List PyData} {kvs : List (PyData × PyData)} {ks : List (Key × V)} {xs : List V} {F : List Addr}, pairsOf ds = some kvs → dictK kvs = some ks → RepL K H ds xs F → ∃ ps : List Addr, xs = ps.map V.ref ∧ Paired (fun p (kv : Key × V) => SqT K H p [kV kv.1, kv.2]) ps ks
  | [], kvs, ks, xs, F, h, q, r => by
    simp [pairsOf] at h
    subst h
    simp [dictK] at q
    subst q
    exact ⟨[], r.1, .nil⟩
  | d :: ds, kvs, ks, xs, F, h, q, r => by
    unfold pairsOf at h
    split at h
    · rename_i e; cases e
    · rename_i k v r' e
      cases e
      simp only [Option.map_eq_some_iff] at h
      obtain ⟨kvs', h1, rfl⟩ := h
      obtain ⟨j, d, v', ks', e, h2, h3, rfl⟩ := dictK_cons q
      cases e
      obtain ⟨x, ys, F1, F2, rfl, r1, r2, rfl⟩ := r
      obtain ⟨a, us, rfl, ft, r3⟩ := r1
      obtain ⟨x1, x2, G1, G2, rfl, ⟨rfl, _⟩, r4, _⟩ := repl_two r3
      have ev : x2 = v' := (rep_atom r4 h2)
      subst ev
      obtain ⟨ps, rfl, pp⟩ := pairs_repD h1 h3 r2
      exact ⟨a :: ps, rfl, .cons ft.sq pp⟩
    · cases h
/-! ### the unlike ones of some ints -/
def ddp : List Int → List Int
  | [] => []
  | x :: xs => if x ∈ xs then ddp xs else x :: ddp xs
theorem mem_ddp {k : Int} : ∀ {l : List Int}, k ∈ ddp l ↔ k ∈ l
  | [] => Iff.rfl
  | x :: xs => by
    unfold ddp
    split
    · rename_i h
      rw [mem_ddp, List.mem_cons]
      exact ⟨.inr, fun z => z.elim (fun e => e ▸ h) id⟩
    · rw [List.mem_cons, List.mem_cons, mem_ddp]
theorem nd_ddp : ∀ l : List Int, (ddp l).Nodup
  | [] => List.nodup_nil
  | x :: xs => by
    unfold ddp
    split
    · exact nd_ddp xs
    · rename_i h
      exact List.nodup_cons.mpr ⟨fun z => h (mem_ddp.mp z), nd_ddp xs⟩
theorem nd_same_len {l m : List Int} (h1 : l.Nodup) (h2 : m.Nodup) (h : ∀ k, k ∈ l ↔ k ∈ m) : l.length = m.length :=
  Nat.le_antisymm (h1.length_le_of_subset fun k hk => (h k).mp hk) (h2.length_le_of_subset fun k hk => (h k).mpr hk)
theorem intsAre_vals : ∀ {ns : List Int} {us : List Value}, Vals (ns.map V.int) us → PyProof.Rows.IntsAre us ns
  | [], _, .nil => .nil
  | n :: ns, _, .cons r t => by
    obtain ⟨k, rfl⟩ := r
    exact .cons n k (intsAre_vals t)
theorem vals_intsAre : ∀ {us : List Value} {ns : List Int}, PyProof.Rows.IntsAre us ns → Vals (ns.map V.int) us
  | _, _, .nil => .nil
  | _, _, .cons n k t => .cons ⟨k, rfl⟩ (vals_intsAre t)
def tLenSetT (K : PySem.W.Frag) (ta : TE) : TE := fun σ H Q => ta σ H fun x H1 => ∃ (l : Addr) (ns : List Int), x = .ref l ∧ SqT K H1 l (ns.map V.int) ∧ ns.length ≤ 1000 ∧ Q (.int ((ddp ns).length : Nat)) H1
def tSortSetT (K : PySem.W.Frag) (ta : TE) : TE := fun σ H Q => ta σ H fun x H1 => ∃ (l : Addr) (ns : List Int), x = .ref l ∧ SqT K H1 l (ns.map V.int) ∧ ns.length < 64 ∧ ∀ (ys : List Int) (p : Addr), ys.Pairwise (· < ·) → (∀ k, k ∈ ys ↔ k ∈ ns) → H1 p = none → Q (.ref p) (upd H1 p (.lst (ys.map V.int)))
section
variable {X : Cx} {C : Cc} {a : Expr} {ta : TE} {A : List Nat} {f : Lo → Res PyData} {fs : Lo → Res (List PyData)}
theorem pe_lenSetT {p p2 q pos : Pos} (hc : X.calm = true) (hg : Gl X "len") (hm : X.mg "len" = none) (hg2 : Gl X "set") (hm2 : X.mg "set" = none) (ha : PE X a ta)
    (na : starEach [a] X.env = (false, eval a X.env) :: starEach [] X.env := by rfl) : PE X (.Call (.Name "len" p) [.Call (.Name "set" p2) [a] [] q] [] pos) (tLenSetT X.K ta) := by
  refine ⟨fun pins s σ H Q I h => ?_⟩
  refine Call_ (ld_blt I hg hm boot_len ?_)
  refine PyProof.Rows.callWith_builtin1 (PyProof.Rows.args_cons ?_ rfl) rfl rfl
  refine Call_ (ld_blt I hg2 hm2 boot_set ?_)
  refine PyProof.Rows.callWith_type1 (PyProof.Rows.args_cons (thn (ha.run pins s σ H _ I h) fun v s1 ⟨x, H1, I1, r1, q1⟩ => PyProof.Rows.args_nil ?_) na) na rfl
  obtain ⟨l, ns, rfl, hq, hl, q1⟩ := q1
  cases r1
  obtain ⟨its, r, pl, hz⟩ := I1.tuple hq
  refine call_set_tupI ns (I1.ok.hd hc) (show s1.heap.IsTuple l its.toArray from pl) (by simpa using intsAre_vals r) (by unfold scanBound; omega) fun h' tk c hS hcn hk => ?_
  refine PyProof.Rows.args_nil ?_
  obtain ⟨o, es, ep, t, ho, hex, hd, _, nd, hmem, _, hf, hn, _⟩ := hS
  have I2 : Inv X pins σ H1 { s1 with heap := h', toks := tk } := I1.kept hk
  have hlen : es.size = (ddp ns).length := by
    have := nd_same_len nd (nd_ddp ns) fun k => by rw [← hmem k, mem_ddp, decide_eq_true_eq]
    simpa using this
  exact call_len_set ho hex hd hf (by rw [hn] <;> omega) ⟨.int (ddp ns).length, H1, I2.tok _, ⟨_, by rw [hlen]⟩, q1⟩
theorem pe_sortSetT {p p2 q pos : Pos} (hc : X.calm = true) (hg : Gl X "sorted") (hm : X.mg "sorted" = none) (hg2 : Gl X "set") (hm2 : X.mg "set" = none) (ha : PE X a ta)
    (na : starEach [a] X.env = (false, eval a X.env) :: starEach [] X.env := by rfl) : PE X (.Call (.Name "sorted" p) [.Call (.Name "set" p2) [a] [] q] [] pos) (tSortSetT X.K ta) := by
  refine ⟨fun pins s σ H Q I h => ?_⟩
  refine Call_ (ld_blt I hg hm PyProof.Rows.boot_sorted ?_)
  refine PyProof.Rows.callWith_builtin1 (PyProof.Rows.args_cons ?_ rfl) rfl rfl
  refine Call_ (ld_blt I hg2 hm2 boot_set ?_)
  refine PyProof.Rows.callWith_type1 (PyProof.Rows.args_cons (thn (ha.run pins s σ H _ I h) fun v s1 ⟨x, H1, I1, r1, q1⟩ => PyProof.Rows.args_nil ?_) na) na rfl
  obtain ⟨l, ns, rfl, hq, hl, q1⟩ := q1
  cases r1
  obtain ⟨its, r, pl, hz⟩ := I1.tuple hq
  refine call_set_tupI ns (I1.ok.hd hc) (show s1.heap.IsTuple l its.toArray from pl) (by simpa using intsAre_vals r) (by unfold scanBound; omega) fun h' tk c hS hcn hk => ?_
  refine PyProof.Rows.args_nil ?_
  have I2 : Inv X pins σ H1 { s1 with heap := h', toks := tk } := I1.kept hk
  refine sorted_set (s := { s1 with heap := h', toks := tk }) hS (I1.ok.hd hc) (by omega) fun s' p out c' ms k g o hp hgt hint pw hmem hlen => ?_
  have hn : H1 p = none := I2.hok.fresh hp
  have hv : Vals (ms.map V.int) out.toList := vals_intsAre hint
  have hfew : (ms.map V.int).length ≤ sizeLine := by rw [List.length_map, hlen, sizeLine_eq]; omega
  have J : Inv X pins σ (upd H1 p (.lst (ms.map V.int))) { ({ s1 with heap := h', toks := tk } : Shared) with heap := s'.heap, gens := s'.gens, drawn := s'.drawn, toks := s'.toks } :=
    I2.call (ch := []) (Un.laid k hp hn) (I2.hok.laid k hp ⟨hfew, out.toList, c', hv, by simpa using hgt⟩) (by rw [g]; exact I2.bare) (fun _ z => nomatch z)
  have e : s' = { ({ s1 with heap := h', toks := tk } : Shared) with heap := s'.heap, gens := s'.gens, drawn := s'.drawn, toks := s'.toks } := by
    cases s'
    cases s1
    cases o
    rfl
  rw [e]
  exact ⟨.ref p, _, J, rfl, q1 ms p pw (fun k => by rw [hmem k, decide_eq_true_eq]) hn⟩
theorem ca_sortedK (hc : X.calm = true) : CaOk X (CallR X (.builtin "sorted")) gSortedK := fun ds d e => by
  unfold gSortedK at e
  split at e
  · rename_i kvs
    split at e
    · rename_i hcd
      cases e
      rw [Bool.and_eq_true, decide_eq_true_eq] at hcd
      obtain ⟨ks, hks⟩ := Option.isSome_iff_exists.mp hcd.1
      obtain ⟨ns, e1, e2⟩ := dictK_keys hks
      refine ⟨_, call_sortedDI hc, fun xs F H Q r k => ?_⟩
      obtain ⟨x, rfl, r1⟩ := repl_one r
      obtain ⟨a, rfl, ha, rfl⟩ := rep_dict hks r1
      have hnl : ns.length < 64 := by
        have := congrArg List.length e1
        simp at this; omega
      refine ⟨a, ks, ns, rfl, .inl ha, e2, hnl, fun ys p perm srt np => ?_⟩
      obtain ⟨l', h1, h2, h3⟩ := sortD_map .int (fun i j => rfl) ns
      have e : ys = l' := (perm.trans h2.symm).eq_of_pairwise (fun x y _ _ h1 h2 => Int.le_antisymm h1 h2) srt h3
      subst e
      rw [e1, h1] at k
      exact k _ _ [p] ⟨p, _, [], rfl, upd_same, (scr_rep ys).mono (same_upd np), rfl⟩ (same_upd np) (fun c hc => by
          have : c = p := by simpa using hc
          subst this
          exact .inl ⟨np, .inl ⟨_, upd_same⟩⟩) fun _ _ => by simp
    · cases e
  · cases e
theorem ca_dictP (hc : X.calm = true) : CaOk X (CallR X (.type "dict")) gDictP := fun ds d e => by
  unfold gDictP at e
  split at e
  · rename_i ds
    split at e
    · rename_i kvs hp
      split at e
      · rename_i hk
        cases e
        obtain ⟨ks, hks⟩ := Option.isSome_iff_exists.mp hk
        refine ⟨_, call_dictP hc, fun xs F H Q r k => ?_⟩
        obtain ⟨x, rfl, r1⟩ := repl_one r
        obtain ⟨a, us, G, rfl, s, r2, rfl⟩ := r1
        obtain ⟨ps, rfl, pp⟩ := pairs_repD hp hks r2
        refine ⟨a, ps, ks, rfl, SqL.of s, pp, fun p np => ?_⟩
        exact k _ _ [p] (.inl ⟨p, _, rfl, dictK_updE (fvs := []) (fks := []) rfl hks, upd_same, rfl⟩) (same_upd np) (fun c hc => by
          have : c = p := by simpa using hc
          subst this
          exact .inl ⟨np, .inr ⟨_, upd_same⟩⟩) fun _ _ => by simp
      · cases e
    · cases e
  · cases e
theorem ve_sortedK {p pos : Pos} (gd : Gd X) (hg : Gl X "sorted") (hm : X.mg "sorted" = none) (ha : VA X C A [a] fs) (he : starEach [a] X.env = (false, eval a X.env) :: starEach [] X.env := by rfl) : VE X C A (.Call (.Name "sorted" p) [a] [] pos) (eCall gSortedK fs) := ve_callB (ca_sortedK gd.calm) hg hm (by decide +kernel) ha (he := he)
theorem ve_dictP {p pos : Pos} (gd : Gd X) (hg : Gl X "dict") (hm : X.mg "dict" = none) (ha : VA X C A [a] fs) (he : starEach [a] X.env = (false, eval a X.env) :: starEach [] X.env := by rfl) : VE X C A (.Call (.Name "dict" p) [a] [] pos) (eCall gDictP fs) := ve_callTy (ca_dictP gd.calm) hg hm (by decide +kernel) ha (he := he)
/-- the ints of a tuple -/
def intsT : PyData → Option (List Int)
  | .tuple ds => if ds.all isI then some (ds.map fun d => match d with | .int n => n | _ => 0) else none
  | _ => none
theorem intsT_of {d : PyData} {ns : List Int} (h : intsT d = some ns) : d = .tuple (ns.map .int) := by
  unfold intsT at h
  split at h
  · split at h
    · rename_i ds hc
      cases h
      obtain ⟨ns, rfl⟩ := all_ints hc
      simp
    · cases h
  · cases h
def eLenSet (f : Lo → Res PyData) : Lo → Res PyData := fun env => (f env).bind fun d => match intsT d with
  | some ns => if ns.length ≤ 1000 then .ok (.int (ddp ns).length) else .bad
  | none => .bad
def eSortSet (f : Lo → Res PyData) : Lo → Res PyData := fun env => (f env).bind fun d => match intsT d with
  | some ns => if ns.length < 64 then .ok (.list (sortD ((ddp ns).map .int))) else .bad
  | none => .bad
theorem ve_lenSet {p p2 q pos : Pos} (gd : Gd X) (hg : Gl X "len") (hm : X.mg "len" = none) (hg2 : Gl X "set") (hm2 : X.mg "set" = none) (ha : VE X C A a f)
    (na : starEach [a] X.env = (false, eval a X.env) :: starEach [] X.env := by rfl) : VE X C [] (.Call (.Name "len" p) [.Call (.Name "set" p2) [a] [] q] [] pos) (eLenSet f) :=
  (pe_lenSetT gd.calm hg hm hg2 hm2 ha na).imp fun σ H Q ⟨env, Fs, hs, h⟩ => by
  refine ⟨env, Fs, hs, post_mono (post_bind h) (fun d _ h1 v H1 F g1 => ?_) fun _ _ h => h⟩
  split at h1
  · rename_i ns e
    split at h1
    · rename_i hl
      rw [intsT_of e] at g1
      obtain ⟨l, xs, rfl, ft, r⟩ := g1.rep
      obtain ⟨rfl, _⟩ := ints_rep r
      exact ⟨l, ns, rfl, ft.sq, hl, h1 _ H1 [] (.flat g1.same ⟨rfl, rfl⟩)⟩
    · exact h1.elim
  · exact h1.elim
theorem ve_sortSet {p p2 q pos : Pos} (gd : Gd X) (hg : Gl X "sorted") (hm : X.mg "sorted" = none) (hg2 : Gl X "set") (hm2 : X.mg "set" = none) (ha : VE X C A a f)
    (na : starEach [a] X.env = (false, eval a X.env) :: starEach [] X.env := by rfl) : VE X C [] (.Call (.Name "sorted" p) [.Call (.Name "set" p2) [a] [] q] [] pos) (eSortSet f) :=
  (pe_sortSetT gd.calm hg hm hg2 hm2 ha na).imp fun σ H Q ⟨env, Fs, hs, h⟩ => by
  refine ⟨env, Fs, hs, post_mono (post_bind h) (fun d _ h1 v H1 F g1 => ?_) fun _ _ h => h⟩
  split at h1
  · rename_i ns e
    split at h1
    · rename_i hl
      rw [intsT_of e] at g1
      obtain ⟨l, xs, rfl, ft, r⟩ := g1.rep
      obtain ⟨rfl, _⟩ := ints_rep r
      refine ⟨l, ns, rfl, ft.sq, hl, fun ys p pw hm np => ?_⟩
      obtain ⟨l', q1, q2, q3⟩ := sortD_map .int (fun i j => rfl) (ddp ns)
      have ndy : ys.Nodup := pw.imp fun h e => by omega
      have perm : ys.Perm (ddp ns) := (List.perm_ext_iff_of_nodup ndy (nd_ddp ns)).mpr fun k => by rw [hm k, mem_ddp]
      have e : ys = l' := (perm.trans q2.symm).eq_of_pairwise (fun x y _ _ h1 h2 => Int.le_antisymm h1 h2) (pw.imp fun h => Int.le_of_lt h) q3
      subst e
      have h1 : ∀ v H' F, Got X.K [] H Fs (.list (sortD ((ddp ns).map .int))) v H' F → Q v H' := h1
      rw [q1] at h1
      exact h1 (.ref p) _ [p] (got_lst (G := []) (scr_rep ys) g1.same (fun _ z => (nomatch z)) (fun _ _ => List.nodup_nil) np)
    · exact h1.elim
  · exact h1.elim
end
end PV

set_option Elab.async false
set_option linter.all false
set_option maxRecDepth 100000
namespace PV
open PySem PySem.Spec L2
open PyProof.Rows hiding St
/-! ### a list that nobody looks into: frozen -/
def frzOf (K : PySem.W.Frag) (t : TE) : TE := fun σ H Q => t σ H fun v H' => ∃ a xs, v = .ref a ∧ H' a = some (.lst xs) ∧ ∀ od, Q v (upd H' a (.frz od (.lst xs)))
theorem pe_frz {X : Cx} {e : Expr} {t : TE} (h : PE X e t) : PE X e (frzOf X.K t) := by
  refine ⟨fun pins s σ H Q I hw => ?_⟩
  refine thn (h.run pins s σ H _ I hw) fun v s1 ⟨x, H1, I1, r, q⟩ => ?_
  obtain ⟨a, xs, rfl, ha, q⟩ := q
  obtain ⟨od, I2⟩ := I1.lock ha trivial
  exact ⟨.ref a, _, I2, r, q od⟩
def eFrz (f : Lo → Res PyData) : Lo → Res PyData := fun env => (f env).bind fun d => match d with
  | .list _ => .ok olD
  | _ => .bad
theorem ve_frz {X : Cx} {C : Cc} {e : Expr} {f : Lo → Res PyData} (h : VE X C [] e f) : VE X C [] e (eFrz f) := (pe_frz h).imp fun σ H Q ⟨env, Fs, hs, h⟩ => by
  refine ⟨env, Fs, hs, post_mono (post_bind h) (fun d _ h1 v H1 F g1 => ?_) fun _ _ h => h⟩
  split at h1
  · rename_i ds
    have g := g1
    obtain ⟨a, xs, G, rfl, ha, _, rfl⟩ := g1.rep
    refine ⟨a, xs, rfl, ha, fun od => ?_⟩
    have hn : H a = none := by
      rcases g.src a List.mem_cons_self with ⟨n, _⟩ | z
      · exact n
      · simp at z
    have s : Same H (upd H1 a (.frz od (.lst xs))) := fun b o e => by
      rw [upd_ne (ne_of_none e hn)]
      exact g.same b o e
    exact h1 _ _ [] (.flat s (.inr (.inr ⟨⟨a, rfl, .inr (.inr ⟨rfl, od, xs, upd_same⟩)⟩, rfl⟩)))
  · exact h1.elim
end PV

set_option Elab.async false
set_option linter.all false
set_option maxRecDepth 100000
namespace L2
open PySem PySem.Spec PyProof.Rows
/-- sorted(t), t a tuple of fewer than 64 ints -/
theorem call_sortedTI {X : Cx} : CallR X (.builtin "sorted") (fun xs H Q => ∃ (a : Addr) (ks : List Int), xs = [.ref a] ∧ SqT X.K H a (ks.map V.int) ∧ ks.length < 64 ∧
    ∀ (ys : List Int) (p : Addr), ys.Perm ks → ys.Pairwise (· ≤ ·) → H p = none → Q (.ref p) (upd H p (.lst (ys.map V.int)))) := by
  intro pins s σ H xs us Q I r q
  obtain ⟨a, ks, ex, hd, h64, q⟩ := q
  subst ex
  obtain ⟨u, eu, rx⟩ := vals1 r
  subst eu
  cases rx
  obtain ⟨its, rv, ⟨o, ho, hc, n, hdt⟩, hz⟩ := I.tuple hd
  have hl : its.length = ks.length := by rw [← rv.length, List.length_map]
  have hS : IntsAre its ks := PV.intsAre_vals rv
  refine Calls.call_function_entry PyProof.Rows.kind_sorted PyProof.Rows.plain_sorted PyProof.Rows.entry_sorted (PyProof.Rows.args_sorted1 _) ?_
  unfold Builtin.«sorted»
  refine wpAny_bind (m := checkCount "sorted" 1 1 _) (wpAny_pure ?_)
  refine wpAny_bind (wpAny_collect_seq a (.inr rfl) ho hc hdt (fun h' hk => ?_) (by simp only [List.size_toArray]; rw [hl, sizeLine_eq]; omega))
  rw [show its.toArray.toList = its from by simp]
  have I1 : Inv X pins σ H { s with heap := h' } := I.kept (t' := s.toks) hk
  refine wpAny_bind (wpAny_newList ?_ (by rw [hl, sizeLine_eq]; omega))
  have hoL : (h'.push (seqObj "list" its.toArray 0)).get? h'.objs.size = some (seqObj "list" its.toArray 0) := Heap.get?_push_size _ rfl
  show wpAny _ _ _ _ _ { s with heap := h'.push (seqObj "list" its.toArray 0) }
  refine wpAny_bind (wpAny_holding (wpAny_call_entry PyProof.Rows.slot_list_sort ⟨_, hoL, rfl⟩ PyProof.Rows.entry_list_sort
    (PyProof.Rows.list_sort_tree (s := { s with heap := h'.push (seqObj "list" its.toArray 0) }) hoL hS (by rw [hl]; exact h64) fun out ys g1 g2 g3 => ⟨_, rfl, ?_⟩) (PyProof.Rows.args_list_sort _)))
  obtain ⟨e', he'⟩ := PyProof.Rows.sortedHeap_at (vs := its) (out := out) hoL
  have hlen : (ys.map V.int).length ≤ sizeLine := by
    rw [List.length_map, g2.length_eq]
    exact Nat.le_trans (Nat.le_of_lt h64) (by decide)
  refine wpAny_pure ⟨_, rfl, .ref h'.objs.size, upd H h'.objs.size (.lst (ys.map V.int)), I1.laid (t' := s.toks) (fun b u e => ?_) (Nat.le_refl _)
    (show ObjOk X.prog X.w _ _ _ (.lst (ys.map V.int)) from ⟨hlen, out.toList, e', vals_of_ints g1, by rw [Array.toArray_toList]; exact he'⟩), rfl, q ys _ g2 g3 (I1.hok.fresh (Nat.le_refl _))⟩
  have hb : b < h'.objs.size := Heap.lt_size e
  rw [PyProof.Rows.sortedHeap_old (Nat.ne_of_lt hb) (by rw [size_push']; exact Nat.lt_succ_of_lt hb)]
  exact Heap.get?_push_of_some _ e
end L2
namespace PV
open PySem PySem.Spec L2
open PyProof.Rows hiding St
def gSortedT : List PyData → Option PyData
  | [.tuple ds] => if ds.all isI && decide (ds.length < 64) then some (.list (sortD ds)) else none
  | _ => none
section
variable {X : Cx} {C : Cc} {a : Expr} {A : List Nat} {fs : Lo → Res (List PyData)}
theorem ca_sortedT : CaOk X (CallR X (.builtin "sorted")) gSortedT := fun ds d e => by
  unfold gSortedT at e
  split at e
  · rename_i ds
    split at e
    · rename_i hc
      cases e
      rw [Bool.and_eq_true, decide_eq_true_eq] at hc
      obtain ⟨ns, rfl⟩ := all_ints hc.1
      refine ⟨_, call_sortedTI, fun xs F H Q r k => ?_⟩
      obtain ⟨x, rfl, r1⟩ := repl_one r
      obtain ⟨a, us, rfl, ft, r2⟩ := r1
      obtain ⟨rfl, rfl⟩ := ints_rep r2
      refine ⟨a, ns, rfl, ft.sq, by simpa using hc.2, fun ys p perm srt np => ?_⟩
      obtain ⟨l', h1, h2, h3⟩ := sortD_map .int (fun i j => rfl) ns
      have e : ys = l' := (perm.trans h2.symm).eq_of_pairwise (fun x y _ _ h1 h2 => Int.le_antisymm h1 h2) srt h3
      subst e
      rw [h1] at k
      exact k _ _ [p] ⟨p, _, [], rfl, upd_same, (scr_rep ys).mono (same_upd np), rfl⟩ (same_upd np) (fun c hc => by
          have : c = p := by simpa using hc
          subst this
          exact .inl ⟨np, .inl ⟨_, upd_same⟩⟩) fun _ _ => by simp
    · cases e
  · cases e
theorem ve_sortedT {p pos : Pos} (hg : Gl X "sorted") (hm : X.mg "sorted" = none) (ha : VA X C A [a] fs) (he : starEach [a] X.env = (false, eval a X.env) :: starEach [] X.env := by rfl) : VE X C A (.Call (.Name "sorted" p) [a] [] pos) (eCall gSortedT fs) := ve_callB ca_sortedT hg hm (by decide +kernel) ha (he := he)
end
end PV

set_option Elab.async false
set_option linter.all false
set_option maxRecDepth 100000
namespace PV
open PySem PySem.Spec L2
open PyProof.Rows hiding St
/-! ### texts -/
def splitD (x y : PyData) : Option PyData := match x, y with
  | .str a, .str b => if b.length ≠ 0 ∧ a.length ≤ 1000000 then some (.list ((Txt.split a b).map .str)) else none
  | _, _ => none
def strsOf : List PyData → Option (List Str)
  | [] => some []
  | .str z :: r => (strsOf r).map (z :: ·)
  | _ => none
def joinD (x y : PyData) : Option PyData := match x, y with
  | .str a, .list ds => match strsOf ds with
    | some ys => if (ys.map (·.length)).sum + ys.length * a.length ≤ 1000000 then some (.str (Txt.join a ys)) else none
    | none => none
  | _, _ => none
def endsD (x y : PyData) : Option PyData := match x, y with
  | .str a, .str b => some (.bool (Txt.endswith a b))
  | _, _ => none
/-- a method of a text, with one argument -/
def eM1 (g : PyData → PyData → Option PyData) (fo fe : Lo → Res PyData) : Lo → Res PyData := fun env => (fo env).bind fun x => if isStr x then (fe env).bind fun y => .of (g x y) else .bad
theorem strs_rep {K : PySem.W.Frag} {H : Hp} : ∀ {ds : List PyData} {ys : List Str} {xs : List V} {F : List Addr}, strsOf ds = some ys → RepL K H ds xs F → xs = ys.map V.str
  | [], ys, xs, F, h, r => by
    simp [strsOf] at h
    subst h
    exact r.1
  | d :: ds, ys, xs, F, h, r => by
    unfold strsOf at h
    split at h
    · rename_i e; cases e
    · rename_i z r' e
      cases e
      simp only [Option.map_eq_some_iff] at h
      obtain ⟨ys', h1, rfl⟩ := h
      obtain ⟨x, vs, F1, F2, rfl, r1, r2, rfl⟩ := r
      obtain ⟨rfl, _⟩ := r1
      rw [strs_rep h1 r2]; rfl
    · cases h
theorem repl_strs {K : PySem.W.Frag} {H : Hp} : ∀ ys : List Str, RepL K H (ys.map PyData.str) (ys.map V.str) []
  | [] => ⟨rfl, rfl⟩
  | y :: ys => ⟨_, _, [], [], rfl, ⟨rfl, rfl⟩, repl_strs ys, rfl⟩
section
variable {X : Cx} {C : Cc} {o e : Expr} {A B O O' : List Nat} {fo fe : Lo → Res PyData} {pos : Pos}
theorem m1_reads {g : PyData → PyData → Option PyData} {r : V → List V → Hp → VK → Prop} {σ : St} {H : Hp} {Q : VK} {env : Lo} {Fs : Nat → List Addr} (hs : Slots X.K env σ H Fs)
    (z : ∀ a d2 d, g (.str a) d2 = some d → ∀ x F H Q, Rep X.K H d2 x F → (∀ v H' G, Same H H' → Rep X.K H' d v G → (∀ c ∈ G, H c = none ∧ Mu H' c) → G.Nodup → Q v H') → r (.str a) [x] H Q)
    (h : (eM1 g fo fe env).post (fun d => ∀ v H' F, Got X.K [] H Fs d v H' F → Q v H') fun c x => ∀ H' dx, Same H H' → ExAt X.K H' c x dx → C.W (.ref (C.ec c)) dx σ H') : tM1 r (tv X.K C A fo) (tv X.K C B fe) σ H Q := by
  refine ⟨env, Fs, hs, post_mono (post_bind h) (fun d1 _ h1 v H1 F1 g1 => ?_) fun _ _ h => h⟩
  split at h1
  · rename_i hi
    obtain ⟨a, rfl⟩ := isStr_of hi
    obtain ⟨rfl, _⟩ := g1.rep
    refine ⟨⟨a, rfl⟩, env, Fs, hs.mono g1.same, post_mono (post_bind h1) (fun d2 _ h2 w H2 F2 g2 => ?_) fun _ _ h H' dx s x => h H' dx (g1.same.trans s) x⟩
    obtain ⟨d, hd, h3⟩ := of_post h2
    refine z a d2 d hd w F2 H2 Q g2.rep fun u H3 G s3 r3 src nd => h3 u H3 G ⟨r3, (g1.same.trans g2.same).trans s3, fun c hc => .inl ⟨(g1.same.trans g2.same).free (src c hc).1, (src c hc).2⟩, fun _ _ => nd⟩
  · exact h1.elim
theorem ve_split {apos : Pos} (ho : VE X C A o fo) (he : VE X C B e fe) (hs : starEach [e] X.env = [(false, eval e X.env)] := by rfl) (hbase : attributeBase o "split" X.env (eval o X.env) = eval o X.env := by rfl) (hline : (apos.endLine == pos.line) = true := by rfl) :
    VE X C [] (.Call (.Attribute o "split" apos) [e] [] pos) (eM1 splitD fo fe) := (pe_split ho he hs hbase hline).imp fun σ H Q ⟨env, Fs, hs, h⟩ => m1_reads hs (fun a d2 d hd x F H Q r k => by
  unfold splitD at hd
  split at hd
  · rename_i a' b e1
    cases e1
    split at hd
    · rename_i hc
      cases hd
      obtain ⟨rfl, _⟩ := r
      have := sizeLine_eq
      refine ⟨a, b, rfl, rfl, by simpa using hc.1, by omega, fun p np => k _ _ [p] (same_upd np) ⟨p, _, [], rfl, upd_same, repl_strs _, rfl⟩ (fun c hc => ?_) (by simp)⟩
      have : c = p := by simpa using hc
      subst this
      exact ⟨np, .inl ⟨_, upd_same⟩⟩
    · cases hd
  · cases hd) h
theorem ve_join {apos : Pos} (ho : VE X C A o fo) (he : VE X C B e fe) (hs : starEach [e] X.env = [(false, eval e X.env)] := by rfl) (hbase : attributeBase o "join" X.env (eval o X.env) = eval o X.env := by rfl) (hline : (apos.endLine == pos.line) = true := by rfl) :
    VE X C [] (.Call (.Attribute o "join" apos) [e] [] pos) (eM1 joinD fo fe) := (pe_join ho he hs hbase hline).imp fun σ H Q ⟨env, Fs, hs, h⟩ => m1_reads hs (fun a d2 d hd x F H Q r k => by
  unfold joinD at hd
  split at hd
  · rename_i a' ds e1
    cases e1
    split at hd
    · rename_i ys hy
      split at hd
      · rename_i hc
        cases hd
        obtain ⟨p, xs, G, rfl, hp, r, _⟩ := r
        have e2 := strs_rep hy r
        subst e2
        exact ⟨a, p, ys, rfl, rfl, .inl (SqL.of hp), by omega, k _ H [] (Same.refl H) ⟨rfl, rfl⟩ (fun _ z => nomatch z) List.nodup_nil⟩
      · cases hd
    · cases hd
  · cases hd) h
theorem ve_ends {apos : Pos} (ho : VE X C A o fo) (he : VE X C B e fe) (hs : starEach [e] X.env = [(false, eval e X.env)] := by rfl) (hbase : attributeBase o "endswith" X.env (eval o X.env) = eval o X.env := by rfl) (hline : (apos.endLine == pos.line) = true := by rfl) :
    VE X C [] (.Call (.Attribute o "endswith" apos) [e] [] pos) (eM1 endsD fo fe) := (pe_m1 PySem.F.slot_str_endswith PySem.F.type_str_endswith mt_endswith ho he hs hbase hline).imp fun σ H Q ⟨env, Fs, hs, h⟩ => m1_reads hs (fun a d2 d hd x F H Q r k => by
  unfold endsD at hd
  split at hd
  · rename_i a' b e1
    cases e1
    cases hd
    obtain ⟨rfl, _⟩ := r
    exact ⟨a, b, rfl, rfl, k _ H [] (Same.refl H) rep_bool (fun _ z => nomatch z) List.nodup_nil⟩
  · cases hd) h
/-! a text in a text -/
def hasS (j i : Str) : Bool := !(Builtin.Str.occurrences j i 0 j.length 1).isEmpty
def dInS (x y : PyData) : Option PyData := match x, y with
  | .str i, .str j => some (.bool (hasS j i))
  | _, _ => none
def dNotInS (x y : PyData) : Option PyData := match x, y with
  | .str i, .str j => some (.bool (!hasS j i))
  | _, _ => none
theorem ok_inS : OpOk X (compareOp .In) dInS := fun d1 d2 d e => by
  unfold dInS at e
  split at e
  · cases e
    refine ⟨_, op_in_str, fun x y F1 F2 H Q h1 h2 k => ?_⟩
    obtain ⟨rfl, rfl⟩ := h1
    obtain ⟨rfl, rfl⟩ := h2
    exact ⟨_, _, rfl, rfl, fin_bool k⟩
  · cases e
theorem ok_notInS : OpOk X (compareOp .NotIn) dNotInS := fun d1 d2 d e => by
  unfold dNotInS at e
  split at e
  · cases e
    refine ⟨_, op_notin_str, fun x y F1 F2 H Q h1 h2 k => ?_⟩
    obtain ⟨rfl, rfl⟩ := h1
    obtain ⟨rfl, rfl⟩ := h2
    exact ⟨_, _, rfl, rfl, fin_bool k⟩
  · cases e
theorem bo_inS : boolG dInS := fun d1 d2 d h => by
  unfold dInS at h
  split at h
  · cases h; exact ⟨_, rfl⟩
  · cases h
theorem bo_notInS : boolG dNotInS := fun d1 d2 d h => by
  unfold dNotInS at h
  split at h
  · cases h; exact ⟨_, rfl⟩
  · cases h
/-! ### what is not reached -/
def sBad : Lo → Out := fun _ => .bad
theorem vs_never {st : Stmt} : VS X C O O' st sBad := ⟨fun _ _ _ _ _ _ ⟨_, _, _, _, h⟩ => h.elim⟩
def sTryN (gb : Lo → Out) : Lo → Out := fun env => match gb env with
  | .ex _ _ _ => .bad
  | o => o
theorem vs_tryN {t : Nat} {x : Str} {np pos' : Pos} {body suite : List Stmt} {b₀ : Stmt} {gb : Lo → Out} (tk : Takes X C.W) (hm : X.mg x = some (.ref (C.ec t)))
    (hb : ∀ (W : WX) (pn : List (Addr × Obj)) (xe : Value → Shared → Prop), Takes (X.tr pn xe) W → PassesOwn (model X.prog X.w) X.A X.env xe → VB (X.tr pn xe) ⟨C.ec, W⟩ O O' body gb)
    (hs : X.stack = X.env :: X.outer := by rfl) (hf : X.env.frame = some X.env.locals := by rfl) (hg : Gl X x := by rfl) (hdb : (x == ("__debug__" : Str)) = false := by decide) :
    VS X C O O' (.Try body [.ExceptHandler (some (.Name x np)) none (b₀ :: suite) pos'] [] [] pos) (sTryN gb) := by
  refine PSimp (ps_try_only (tb := fun W => PV.ts X.K ⟨C.ec, W⟩ O O' gb) (ts := fun _ _ _ => tNever) (Wout := C.W) hs hf ⟨hg, hdb, .inl hm⟩ tk (fun W pn xe tk' pw => hb W pn xe tk' pw) fun _ _ _ _ _ _ _ => pss_never) fun D σ H ⟨env, Fs, hsl, ho, h⟩ => ?_
  refine ⟨env, Fs, hsl, ho, ?_⟩
  unfold sTryN at h
  cases e : gb env with
  | nx e' => rw [e] at h; exact h
  | rt d => rw [e] at h; exact h
  | ct e' => rw [e] at h; exact h
  | bad => rw [e] at h; exact h
  | ex e' c x => rw [e] at h; exact h.elim
end
end PV

set_option Elab.async false
set_option linter.all false
set_option maxRecDepth 100000
namespace L2
open PySem PySem.Spec PyProof.Rows
/-- an own class of exceptions, its __init__ is ValueError's -/
structure FeC (K : PySem.W.Frag) (B : Addr) : Prop where
  rd : PySem.W.readsIn K B (.type "type") = true
  ga : PySem.W.specialIn K (.ref B) "__getattribute__" = some (some (.builtin "type.__getattribute__"))
  fc : PySem.W.findCls K (.ref B) (.type "type") "__init__" = some (.val (.builtin "ValueError.__init__"))
theorem pe_feinit {X : Cx} {e : Expr} {es : List Expr} {ta : TA} {x : Str} {B : Addr} {p1 p2 pos : Pos} {pl : Sem Bool} (hg : Gl X x) (hm : X.mg x = some (.ref B)) (fe : FeC X.K B) (ha : PA X (e :: es) ta)
    (hc : eval (.Call (.Attribute (.Name x p1) "__init__" p2) (e :: es) [] pos) X.env = (do
      let ov ← eval (.Name x p1) X.env
      standAt p2.atName
      let (f, first) ← holding [ov] (getMethod ov "__init__" pl)
      callWith pos f first (backTo pos (starEach (e :: es) X.env)) (backToKw pos (keywordEach [] X.env))) := by rfl) (hdb : (x == ("__debug__" : Str)) = false := by decide)
    (he : starEach (e :: es) X.env = (false, eval e X.env) :: starEach es X.env := by rfl) (hpl : (backTo pos (starEach es X.env)).any (·.1) = false := by rfl) :
    PE X (.Call (.Attribute (.Name x p1) "__init__" p2) (e :: es) [] pos) (tVeI X.K ta) := by
  refine ⟨fun pins s σ H Q I h => ?_⟩
  refine PySem.W.methodCall_KW (ld_glob I hg hm ?_ hdb) hc
  refine PySem.W.method_cls I.kIn fe.ga (PySem.W.cls_value I.kIn fe.rd fe.fc (by decide) ?_)
  show wpAny _ _ (callWith pos (Value.builtin "ValueError.__init__") [] (backTo pos (starEach (e :: es) X.env)) []) _ _ _
  refine PyProof.Rows.callWith_method1 (thn (ha.run pos pins _ σ H _ (I.tok _) h) fun us s1 ⟨vs, H1, I1, r1, a, C, ws, ev, hl, T, ea, q⟩ => ?_) he hpl
  subst ev
  cases r1 with
  | @cons _ u0 _ ur ra rw' =>
    obtain rfl : u0 = Value.ref a := ra
    have hlen : ur.length ≤ sizeLine := by
      rw [← Paired.length rw', sizeLine_eq]
      omega
    exact oinit_ok T I1 ea hlen fun s' J => ⟨.non, H1, J, rfl, q⟩
end L2
namespace PV
open PySem PySem.Spec L2
open PyProof.Rows hiding St
/-- the class's record -/
def oexIn (K : PySem.W.Frag) (C : Addr) : Bool := match K.lookup C with
  | some ⟨.type "type", _, .cls cd, sl⟩ => (match cd.mro, sl.toList with
    | .ref C' :: bm, [_, _, _, _, some (.builtin n), _] => C' == C && n == "ValueError.__new__" && !cd.hasDel && cd.hasDict && PySem.HandSPX.refsVE bm
    | _, _ => false)
  | _ => false
theorem oex_of {K : PySem.W.Frag} {C : Addr} (q : oexIn K C = true) (sa : PySem.W.findIn K (.ref C) "__setattr__" = some (some (.builtin "object.__setattr__"))) (exC : PySem.W.subIn K (.ref C) (.type "BaseException") = some true)
    (tyC : PySem.W.typeIn K (.ref C) = some (.type "type")) (kC : PySem.W.keepIn K (.ref C) = true) : OexC K C := by
  refine ⟨?_, sa, exC, tyC, kC⟩
  unfold oexIn at q
  split at q
  · rename_i dd cd sl ho
    split at q
    · rename_i C' bm k0 k1 k2 k3 n k5 hm hs
      simp only [Bool.and_eq_true, beq_iff_eq, Bool.not_eq_true'] at q
      obtain ⟨⟨⟨⟨rfl, rfl⟩, hdel⟩, hdict⟩, hv⟩ := q
      obtain ⟨nm, bs, mro, ns, qn, hd, sn, sub, ab, col, del⟩ := cd
      dsimp only at hm hdel hdict
      subst hm hdel hdict
      have hsl : sl = #[k0, k1, k2, k3, some (.builtin "ValueError.__new__"), k5] := by
        obtain ⟨l⟩ := sl
        simp only at hs
        rw [hs]
      subst hsl
      exact ⟨nm, qn, ns, bs, bm, sn, sub, ab, col, dd, k0, k1, k2, k3, k5, ho, hv⟩
    · cases q
  · cases q
/-- BadFair.__init__(self, at) -/
def spInit (K : PySem.W.Frag) (C : Addr) : Sp := fun vs H Q E => ∃ a y, vs = [.ref a, y] ∧ H a = some (exo a C none) ∧ ∀ dx, H dx = none → dx ≠ a → Q .non (upd (upd H dx (exd dx [("at", y)])) a (exo a C (some dx)))
/-- what is known of the class that is raised with its place -/
structure BfC (P : Program) (w : World) (K : PySem.W.Frag) (mg : Str → Option Value) (base : Heap) (x : Str) (C : Addr) : Prop where
  gC : mg x = some (.ref C)
  ox : OexC K C
  na : PySem.W.findIn K (.ref C) "at" = some none
  it : ∃ (fI : Addr) (fd : FuncData), PySem.W.findIn K (.ref C) "__init__" = some (some (.ref fI)) ∧ PySem.W.typeIn K (.ref fI) = some (.type "function") ∧ FnOk P w K mg base (L2.CX P w) 1 fI fd ["self", "at"] (spInit K C) ∧ Binds K fd ["self", "at"] []
theorem pass_no {X : Cx} : Passes (L2.CX X.prog X.w) X (fun _ _ _ => False) := fun _ _ _ _ _ _ _ ⟨_, _, _, _, _, _, _, _, _, _, _, _, hW⟩ => hW.elim
def sRaiseAt (f : Lo → Res PyData) : Lo → Out := fun env => (f env).out env fun x => if flat x then .ex env 0 x else .bad
theorem vs_raiseAt {X : Cx} {C : Cc} {O O' A : List Nat} {x : Str} {e : Expr} {f : Lo → Res PyData} {m : Nat} {p pos pos2 : Pos} (hc : X.calm = true) (tk : Takes X C.W) (B : BfC X.prog X.w X.K X.mg X.base x (C.ec 0)) (hr : Room m X.A) (hm : 2 ≤ m) (h : VE X C A e f) (hg : Gl X x := by rfl) (hdb : (x == ("__debug__" : Str)) = false := by decide)
    (he : starEach [e] X.env = (false, eval e X.env) :: starEach [] X.env := by rfl) : VS X C O O' (.Raise (some (.Call (.Name x p) [e] [] pos)) none pos2) (sRaiseAt f) := by
  obtain ⟨fI, fd, iC, tI, F1, hb⟩ := B.it
  have ha : VA X C (A ++ []) [e] (eCons f eNil) := va_cons h va_nil he
  refine PSimp (ps_raise hc tk (pmk_oex B.ox iC tI F1 (hr.mono hm) hb .nil pass_no hg B.gC ha hdb he)) fun D σ H ⟨env, Fs, hs, ho, h⟩ => ?_
  unfold sRaiseAt at h
  have h' : ((f env).bind fun d => (eNil env).bind fun ds => Res.ok (d :: ds)).post (fun ds => ∀ vs H' F, GotL X.K (A ++ []) H Fs ds vs H' F → vs.length ≤ 1000 ∧ ∀ a, H' a = none → spInit X.K (C.ec 0) (.ref a :: (vs ++ [])) (upd H' a (exo a (C.ec 0) none))
      (fun v H2 => v = .non ∧ ∃ (d : Addr) (fs : List (Str × V)), H2 a = some (exo a (C.ec 0) (some d)) ∧ H2 d = some (exd d fs) ∧ H' d = none ∧ C.W (.ref (C.ec 0)) (some d) σ (upd (del H2 a) d (.xd fs))) (fun _ _ _ => False))
      fun c x => ∀ H' dx, Same H H' → ExAt X.K H' c x dx → C.W (.ref (C.ec c)) dx σ H' := by
    cases ef : f env with
    | bad => rw [ef] at h; exact h.elim
    | exc c x => rw [ef] at h; exact fun H' dx s ex => h σ H' Fs dx (hs.mono s) (fr_none s) ex
    | ok d =>
      rw [ef] at h
      have h : postS X.K C O O' H Fs D (if flat d then .ex env 0 d else .bad) := h
      by_cases hf : flat d = true
      · rw [if_pos hf] at h
        intro vs H' F g
        obtain ⟨y, rfl, r⟩ := repl_one g.rep
        obtain rfl := Rep.flat d y F hf r
        refine ⟨by simp, fun a na => ⟨a, y, rfl, upd_same, fun dx ndx nda => ⟨rfl, dx, [("at", y)], upd_same, by rw [upd_ne nda, upd_same], by rwa [upd_ne nda] at ndx, ?_⟩⟩⟩
        have n1 : H' dx = none := by rwa [upd_ne nda] at ndx
        have s1 : Same H' (upd (del (upd (upd (upd H' a (exo a (C.ec 0) none)) dx (exd dx [("at", y)])) a (exo a (C.ec 0) (some dx))) a) dx (.xd [("at", y)])) := fun b o q => by
          have b1 : b ≠ a := ne_of_none q na
          have b2 : b ≠ dx := ne_of_none q n1
          rw [upd_ne b2, del_ne b1, upd_ne b1, upd_ne b2, upd_ne b1]
          exact q
        have s2 := g.same.trans s1
        refine h σ _ Fs (some dx) (hs.mono s2) (fr_none s2) ?_
        unfold ExAt
        rw [if_pos rfl]
        exact ⟨hf, dx, y, rfl, upd_same, r.mono s1⟩
      · rw [if_neg hf] at h
        exact h.elim
  exact ⟨env, Fs, hs, h'⟩
/-! ### e.at -/
def fldAt : PyData → Option PyData
  | .dict [(.bool true, .int _), (.bool false, .int _), (.none, x)] => some x
  | _ => none
def eAt (c : Nat) (a d : Addr) (f : Lo → Res PyData) : Lo → Res PyData := fun env => if c = 0 then (f env).bind fun v => if isHd c a d v then .of (fldAt v) else .bad else .bad
theorem ve_at {X : Cx} {C : Cc} {e : Expr} {pos : Pos} {A : List Nat} {f : Lo → Res PyData} {a d : Addr} {oe : Obj} {pn : List (Addr × Obj)} {ts : List Nat} {c : Nat} (R : ExcR X.K C.ec ts c) (hz : Zc (.ref (C.ec c)) (dxOf c d) oe) (hf : ∃ vs, oe.data = .fields vs)
    (hno : PySem.W.findIn X.K (.ref (C.ec 0)) "at" = some none) (he : VE (X.suite a ((a, oe) :: pn)) C A e f) (hb : attributeBase e "at" X.env (eval e X.env) = eval e X.env := by rfl) :
    VE (X.suite a ((a, oe) :: pn)) C [] (.Attribute e "at" pos) (eAt c a d f) := .by fun σ H Q ⟨env, Fs, hs, h⟩ => by
  by_cases h0 : c = 0
  · subst h0
    have T : XfC X.K (C.ec 0) := ⟨R.cc.hg, R.cc.hk, R.cc.hs, R.cc.hd⟩
    simp only [eAt, if_true] at h
    refine ⟨_, pe_xf T hno hz hf he hb, env, Fs, hs, post_mono (post_bind h) (fun v _ h1 w H1 F g1 => ?_) fun _ _ h => h⟩
    split at h1
    · rename_i hc
      obtain ⟨rfl, _⟩ := isHd_rep hc g1.rep
      obtain ⟨x, hx, h2⟩ := of_post h1
      unfold fldAt at hx
      split at hx
      · rename_i z1 z2 x'
        cases hx
        rcases g1.rep with ⟨_, ks, _, h3, _⟩ | ⟨_, ns, _, h3, _⟩ | ⟨⟨a', e, h3⟩, _⟩
        · cases h3
        · cases h3
        · have hh := hc
          simp only [isHd, Bool.and_eq_true, decide_eq_true_eq] at hh
          rcases h3 with h3 | ⟨d', x', w, h3, h4, h5⟩ | ⟨h3, _⟩
          · cases h3
          · simp only [excA, List.cons.injEq, Prod.mk.injEq, PyData.int.injEq] at h3
            obtain ⟨⟨_, e1⟩, ⟨_, e2⟩, ⟨⟨_, rfl⟩, _⟩⟩ := h3
            have e3 : d' = d := by have := e2.symm.trans hh.2; exact Int.ofNat_inj.mp this
            subst e3
            have rx : Rep X.K H1 x w [] := by
              rcases h5 with ⟨rfl, rfl⟩ | ⟨s, n, T, rfl, rfl, ft⟩
              · exact ⟨rfl, rfl⟩
              · exact ⟨T, _, rfl, ft, ⟨_, _, [], [], rfl, ⟨rfl, rfl⟩, ⟨_, _, [], [], rfl, ⟨rfl, rfl⟩, ⟨rfl, rfl⟩, rfl⟩, rfl⟩⟩
            exact ⟨rfl, rfl, d', [("at", w)], w, rfl, h4, rfl, h2 w H1 [] (.flat g1.same rx)⟩
          · simp [olP] at h3
      · cases hx
    · exact h1.elim
  · simp only [eAt, if_neg h0] at h
    exact h.elim
end PV

set_option Elab.async false
set_option linter.all false
set_option maxRecDepth 100000
namespace PV
open PySem PySem.Spec L2
open PyProof.Rows hiding St
theorem bfi_reads {K : PySem.W.Frag} {C a : Addr} {y : V} {Q : VK} {H : Hp} {σ : L2.St} (e0 : σ[0]? = some (some (.ref a))) (e1 : σ[1]? = some (some y)) (ox : OexC K C) (na : PySem.W.findIn K (.ref C) "at" = some none) (ha : H a = some (exo a C none))
    (q : ∀ dx, H dx = none → dx ≠ a → Q .non (upd (upd H dx (exd dx [("at", y)])) a (exo a C (some dx)))) :
    tSeq (tDrop (tVeI K (tCons (tVar 0) (tCons (tC (.str "no fair")) tNil)))) (tOst K "at" (tVar 0) (tVar 1)) { nx := fun _ H' => Q .non H', rt := Q } σ H :=
  ⟨_, e0, a, C, _, rfl, by decide, ox, ha, y, e1, _, e0, a, C, rfl, ox, na, .inl ⟨ha, q⟩⟩
end PV

set_option Elab.async false
set_option linter.all false
set_option maxRecDepth 100000

noncomputable section
namespace GS
open PySem PySem.Spec L2 PV
open PyProof.Rows hiding St
abbrev FUEL : Nat := 1000
def g_fits : Lo → Out := (sSeq (sRet (eAnd (eOp dIn (eVar 2) (eOp dIx (eOp dIx (eVar 0) (eC (.int 0))) (eVar 1))) (eOp dIn (eVar 1) (eOp dIx (eOp dIx (eOp dIx (eVar 0) (eC (.int 1))) (eVar 2)) (eC (.int 1)))))) .nx)
def m_fits : List PyData → Res PyData := mkFn 3 3 g_fits
def g_choices : Lo → Out := (sSeq (sRet (eComp (iSeq (eOp dIx (eOp dIx (eVar 0) (eC (.int 0))) (eVar 1))) (tName 2) [2] (eT (eFn m_fits (eCons (eVar 0) (eCons (eVar 1) (eCons (eVar 2) eNil))))) (eFlat (eVar 2)))) .nx)
def m_choices : List PyData → Res PyData := mkFn 2 3 g_choices
def g_law_cell : Lo → Out := (sSeq (sIf (eT (eOp dLt (eVar 1) (eCall gLen (eCons (eVar 0) eNil)))) (sSeq (sRet (eFlat (eOp dIx (eVar 0) (eVar 1)))) .nx) .nx) (sSeq (sRet (eC (.int 0))) .nx))
def m_law_cell : List PyData → Res PyData := mkFn 2 2 g_law_cell
def g_law_mix : Lo → Out := (sSeq (sRet (eOp dMod (eOp dMod (eOp dMul (eVar 0) (eC (.int 48271))) (eVar 1)) (eVar 2))) .nx)
def m_law_mix : List PyData → Res PyData := mkFn 3 3 g_law_mix
def g_law_large : Lo → Out := (sSeq (sRet (eOp dEq (eFn m_law_mix (eCons (eOp dAdd (eFn m_law_cell (eCons (eVar 0) (eCons (eC (.int 0)) eNil))) (eOp dMul (eC (.int 7)) (eCall gLen (eCons (eVar 0) eNil)))) (eCons (eC (.int 9871)) (eCons (eC (.int 8)) eNil)))) (eC (.int 3)))) .nx)
def m_law_large : List PyData → Res PyData := mkFn 1 1 g_law_large
def g_law_some : Lo → Out := (sSeq (sSet 3 (eComp (iRange (eCons (eVar 1) eNil)) (tName 5) [5] tTrue (eFlat (eTup (eCons (eFn m_law_mix (eCons (eOp dAdd (eVar 0) (eOp dMul (eOp dMul (eC (.int 29)) (eVar 5)) (eVar 5))) (eCons (eC (.int 9931)) (eCons (eC (.int 997)) eNil)))) (eCons (eVar 5) eNil)))))) (sSeq (sSet 4 (eComp (iSeq (eCall gSorted (eCons (eVar 3) eNil))) (tName 6) [6] tTrue (eFlat (eOp dIx (eVar 6) (eC (.int 1)))))) (sSeq (sIf (eT (eVar 2)) (sSeq (sRet (eFlat (eCall gTuple (eCons (eVar 4) eNil)))) .nx) .nx) (sSeq (sRet (eFlat (eCall gTuple (eCons (eSl (eVar 4) oNone (oSome (eFn m_law_mix (eCons (eVar 0) (eCons (eC (.int 9941)) (eCons (eOp dAdd (eVar 1) (eC (.int 1))) eNil)))))) eNil)))) .nx))))
def m_law_some : List PyData → Res PyData := mkFn 3 7 g_law_some
def g_law_fair : Lo → Out := (sSeq (sSet 2 (eFn m_law_cell (eCons (eVar 0) (eCons (eVar 1) eNil)))) (sSeq (sSet 3 (eOp dAdd (eC (.int 1)) (eFn m_law_mix (eCons (eVar 2) (eCons (eC (.int 9973)) (eCons (eC (.int 4)) eNil)))))) (sSeq (sSet 4 (eOp dAdd (eC (.int 1)) (eFn m_law_mix (eCons (eVar 2) (eCons (eC (.int 9967)) (eCons (eC (.int 5)) eNil)))))) (sSeq (sIf (eT (eFn m_law_large (eCons (eVar 0) eNil))) (sSeq (sSet 3 (eOp dAdd (eC (.int 1)) (eFn m_law_mix (eCons (eVar 2) (eCons (eC (.int 9973)) (eCons (eC (.int 5)) eNil)))))) (sSeq (sSet 4 (eOp dAdd (eC (.int 1)) (eFn m_law_mix (eCons (eVar 2) (eCons (eC (.int 9967)) (eCons (eC (.int 3)) eNil)))))) .nx)) .nx) (sSeq (sIf (eT (eOp dGt (eCall gLen (eCons (eVar 0) eNil)) (eC (.int 63)))) (sSeq (sSet 3 (eOp dAdd (eC (.int 1)) (eFn m_law_mix (eCons (eVar 2) (eCons (eC (.int 9973)) (eCons (eC (.int 5)) eNil)))))) (sSeq (sSet 4 (eOp dAdd (eC (.int 1)) (eFn m_law_mix (eCons (eVar 2) (eCons (eC (.int 9967)) (eCons (eC (.int 3)) eNil)))))) .nx)) .nx) (sSeq (sSet 5 (eOp dEq (eFn m_law_mix (eCons (eVar 2) (eCons (eC (.int 9949)) (eCons (eC (.int 2)) eNil)))) (eC (.int 0)))) (sSeq (sSet 6 (eLst eNil)) (sSeq (sFor (iRange (eCons (eVar 3) eNil)) (tName 7) (sSeq (sApp 6 (eFn m_law_some (eCons (eOp dAdd (eFn m_law_cell (eCons (eVar 0) (eCons (eOp dAdd (eOp dAdd (eVar 1) (eC (.int 1))) (eVar 7)) eNil))) (eOp dMul (eOp dMul (eC (.int 17)) (eVar 7)) (eVar 7))) (eCons (eVar 4) (eCons (eVar 5) eNil))))) .nx)) (sSeq (sSet 8 (eLst eNil)) (sSeq (sFor (iRange (eCons (eVar 4) eNil)) (tName 7) (sSeq (sSet 9 (eOp dAdd (eFn m_law_cell (eCons (eVar 0) (eCons (eOp dAdd (eOp dAdd (eVar 1) (eC (.int 6))) (eVar 7)) eNil))) (eOp dMul (eOp dMul (eC (.int 13)) (eVar 7)) (eVar 7)))) (sSeq (sSet 10 (eOp dAdd (eOp dAdd (eFn m_law_mix (eCons (eVar 9) (eCons (eC (.int 9923)) (eCons (eC (.int 3)) eNil)))) (eCall gInt (eCons (eVar 5) eNil))) (eOp dMul (eC (.int 2)) (eCall gInt (eCons (eOp dEq (eFn m_law_mix (eCons (eVar 9) (eCons (eC (.int 9907)) (eCons (eC (.int 5)) eNil)))) (eC (.int 1))) eNil))))) (sSeq (sApp 8 (eFlat (eTup (eCons (eVar 10) (eCons (eFn m_law_some (eCons (eVar 9) (eCons (eVar 3) (eCons (eVar 5) eNil)))) eNil))))) .nx)))) (sSeq (sRet (eTup (eCons (eCall gTuple (eCons (eVar 6) eNil)) (eCons (eCall gTuple (eCons (eVar 8) eNil)) eNil)))) .nx)))))))))))
def m_law_fair : List PyData → Res PyData := mkFn 2 11 g_law_fair
def g_law_fits : Lo → Out := (sSeq (sSet 2 (eLst eNil)) (sSeq (sFor (iSeq (eOp dIx (eOp dIx (eVar 0) (eC (.int 0))) (eVar 1))) (tName 3) (sSeq (sIf (eT (eOp dIn (eVar 1) (eOp dIx (eOp dIx (eOp dIx (eVar 0) (eC (.int 1))) (eVar 3)) (eC (.int 1))))) (sSeq (sApp 2 (eFlat (eVar 3))) .nx) .nx) .nx)) (sSeq (sRet (eVar 2)) .nx)))
def m_law_fits : List PyData → Res PyData := mkFn 2 4 g_law_fits
def g_law_k02 : Lo → Out := (sSeq (sSet 1 (eFn m_law_fair (eCons (eVar 0) (eCons (eC (.int 2)) eNil)))) (sSeq (sSet 2 (eOp dMod (eFn m_law_cell (eCons (eVar 0) (eCons (eC (.int 0)) eNil))) (eCall gLen (eCons (eOp dIx (eVar 1) (eC (.int 0))) eNil)))) (sSeq (sSet 3 (eOp dMod (eFn m_law_cell (eCons (eVar 0) (eCons (eC (.int 1)) eNil))) (eCall gLen (eCons (eOp dIx (eVar 1) (eC (.int 1))) eNil)))) (sSeq (sSet 4 (eFn m_fits (eCons (eVar 1) (eCons (eVar 2) (eCons (eVar 3) eNil))))) (sSeq (sSet 5 (eFn m_choices (eCons (eVar 1) (eCons (eVar 2) eNil)))) (sSeq (sSet 6 (eOp dIn (eVar 3) (eOp dIx (eOp dIx (eVar 1) (eC (.int 0))) (eVar 2)))) (sSeq (sSet 6 (eAnd (eVar 6) (eOp dIn (eVar 2) (eOp dIx (eOp dIx (eOp dIx (eVar 1) (eC (.int 1))) (eVar 3)) (eC (.int 1)))))) (sSeq (sIf (tOrB (tNotB (eT (eIsi isBool (eVar 4)))) (eT (eOp dNe (eVar 4) (eVar 6)))) (sSeq (sRet (eC (.bool false))) .nx) .nx) (sSeq (sRet (eAnd (eIsi isList (eVar 5)) (eOp dEq (eVar 5) (eFn m_law_fits (eCons (eVar 1) (eCons (eVar 2) eNil)))))) .nx)))))))))
def m_law_k02 : List PyData → Res PyData := mkFn 1 7 g_law_k02
def g_is_within : Lo → Out := (sSeq (sRet (eAnd (eIsi isInt (eVar 0)) (eAnd (eNot (eIsi isBool (eVar 0))) (eChain dLe dLe (eVar 1) (eVar 0) (eVar 2))))) .nx)
def m_is_within : List PyData → Res PyData := mkFn 3 3 g_is_within
def g_place_of : Lo → Out := (sSeq (sSet 3 (eFn m_choices (eCons (eVar 0) (eCons (eVar 1) eNil)))) (sSeq (sIf (eT (eOp dIs (eVar 2) (eC .none))) (sSeq (sRet (eCall gLen (eCons (eVar 3) eNil))) .nx) .nx) (sSeq (sRet (eMeth dIndex (eVar 3) (eVar 2))) .nx)))
def m_place_of : List PyData → Res PyData := mkFn 3 4 g_place_of
def g_likes : Lo → Out := (sSeq (sRet (eOp dLt (eFn m_place_of (eCons (eVar 0) (eCons (eVar 1) (eCons (eVar 2) eNil)))) (eFn m_place_of (eCons (eVar 0) (eCons (eVar 1) (eCons (eVar 3) eNil)))))) .nx)
def m_likes : List PyData → Res PyData := mkFn 4 4 g_likes
def g_guests_in : Lo → Out := (sSeq (sRet (eComp (iEnumD (eVar 0)) (tPair 2 3) [2, 3] (eT (eOp dEq (eVar 3) (eVar 1))) (eFlat (eVar 2)))) .nx)
def m_guests_in : List PyData → Res PyData := mkFn 2 4 g_guests_in
def g_is_free : Lo → Out := (sSeq (sRet (eOp dLt (eCall gLen (eCons (eFn m_guests_in (eCons (eVar 1) (eCons (eVar 2) eNil))) eNil)) (eOp dIx (eOp dIx (eOp dIx (eVar 0) (eC (.int 1))) (eVar 2)) (eC (.int 0))))) .nx)
def m_is_free : List PyData → Res PyData := mkFn 3 3 g_is_free
def g_is_lodging : Lo → Out := (sSeq (sIf (tOrB (tNotB (eT (eIsi isTup (eVar 1)))) (eT (eOp dNe (eCall gLen (eCons (eVar 1) eNil)) (eCall gLen (eCons (eOp dIx (eVar 0) (eC (.int 0))) eNil))))) (sSeq (sRet (eC (.bool false))) .nx) .nx) (sSeq (sForC (iEnumD (eVar 1)) (tPair 2 3) (sSeq (sIf (eT (eOp dIs (eVar 3) (eC .none))) (sSeq .ct .nx) .nx) (sSeq (sIf (tOrB (tNotB (eT (eFn m_is_within (eCons (eVar 3) (eCons (eC (.int 0)) (eCons (eOp dSub (eCall gLen (eCons (eOp dIx (eVar 0) (eC (.int 1))) eNil)) (eC (.int 1))) eNil)))))) (tNotB (eT (eFn m_fits (eCons (eVar 0) (eCons (eVar 2) (eCons (eVar 3) eNil))))))) (sSeq (sRet (eC (.bool false))) .nx) .nx) .nx))) (sSeq (sFor (iEnumD (eOp dIx (eVar 0) (eC (.int 1)))) (tPair 4 3) (sSeq (sIf (eT (eOp dGt (eCall gLen (eCons (eFn m_guests_in (eCons (eVar 1) (eCons (eVar 4) eNil))) eNil)) (eOp dIx (eVar 3) (eC (.int 0))))) (sSeq (sRet (eC (.bool false))) .nx) .nx) .nx)) (sSeq (sRet (eC (.bool true))) .nx))))
def m_is_lodging : List PyData → Res PyData := mkFn 2 5 g_is_lodging
def g_checked_lodging : Lo → Out := (sSeq (sIf (tNotB (eT (eFn m_is_lodging (eCons (eVar 0) (eCons (eVar 1) eNil))))) (sSeq (sRaise 1) .nx) .nx) (sSeq (sRet (eFlat (eVar 1))) .nx))
def m_checked_lodging : List PyData → Res PyData := mkFn 2 2 g_checked_lodging
def g_house_would : Lo → Out := (sSeq (sIf (eT (eFn m_is_free (eCons (eVar 0) (eCons (eVar 1) (eCons (eVar 2) eNil))))) (sSeq (sRet (eC (.bool true))) .nx) .nx) (sSeq (sSet 4 (eOp dIx (eOp dIx (eOp dIx (eVar 0) (eC (.int 1))) (eVar 2)) (eC (.int 1)))) (sSeq (sFor (iSeq (eFn m_guests_in (eCons (eVar 1) (eCons (eVar 2) eNil)))) (tName 5) (sSeq (sIf (eT (eOp dLt (eMeth dIndex (eVar 4) (eVar 3)) (eMeth dIndex (eVar 4) (eVar 5)))) (sSeq (sRet (eC (.bool true))) .nx) .nx) .nx)) (sSeq (sRet (eC (.bool false))) .nx))))
def m_house_would : List PyData → Res PyData := mkFn 4 6 g_house_would
def g_spoilers : Lo → Out := (sSeq (sExpr (eFn m_checked_lodging (eCons (eVar 0) (eCons (eVar 1) eNil)))) (sSeq (sSet 2 (eLst eNil)) (sSeq (sFor (iEnumD (eVar 1)) (tPair 3 4) (sSeq (sFor (iSeq (eFn m_choices (eCons (eVar 0) (eCons (eVar 3) eNil)))) (tName 5) (sSeq (sIf (tAndB (eT (eFn m_likes (eCons (eVar 0) (eCons (eVar 3) (eCons (eVar 5) (eCons (eVar 4) eNil)))))) (eT (eFn m_house_would (eCons (eVar 0) (eCons (eVar 1) (eCons (eVar 5) (eCons (eVar 3) eNil))))))) (sSeq (sApp 2 (eFlat (eTup (eCons (eVar 3) (eCons (eVar 5) eNil))))) .nx) .nx) .nx)) .nx)) (sSeq (sRet (eCall gSorted (eCons (eVar 2) eNil))) .nx))))
def m_spoilers : List PyData → Res PyData := mkFn 2 6 g_spoilers
def g_is_steady : Lo → Out := (sSeq (sRet (eOp dEq (eFn m_spoilers (eCons (eVar 0) (eCons (eVar 1) eNil))) (eLst eNil))) .nx)
def m_is_steady : List PyData → Res PyData := mkFn 2 2 g_is_steady
def g_wanted : Lo → Out := (sSeq (sRet (eComp (iSeq (eFn m_choices (eCons (eVar 0) (eCons (eVar 2) eNil)))) (tName 3) [3] (eT (eFn m_likes (eCons (eVar 0) (eCons (eVar 2) (eCons (eVar 3) (eCons (eOp dIx (eVar 1) (eVar 2)) eNil)))))) (eFlat (eVar 3)))) .nx)
def m_wanted : List PyData → Res PyData := mkFn 3 4 g_wanted
def g_moved : Lo → Out := (sSeq (sSet 3 (eCall gListF (eCons (eVar 0) eNil))) (sSeq (sFor (iZipD (eVar 1) (eVar 2)) (tPair 4 5) (sSeq (sPut 3 (eVar 5) (eVar 4)) .nx)) (sSeq (sRet (eCall gTuple (eCons (eVar 3) eNil))) .nx)))
def m_moved : List PyData → Res PyData := mkFn 3 6 g_moved
def g_into_free : Lo → Out := (sSeq (sFor (iRange (eCons (eCall gLen (eCons (eVar 1) eNil)) eNil)) (tName 2) (sSeq (sFor (iSeq (eFn m_wanted (eCons (eVar 0) (eCons (eVar 1) (eCons (eVar 2) eNil))))) (tName 3) (sSeq (sIf (eT (eFn m_is_free (eCons (eVar 0) (eCons (eVar 1) (eCons (eVar 3) eNil))))) (sSeq (sRet (eFn m_moved (eCons (eVar 1) (eCons (eLst (eCons (eVar 2) eNil)) (eCons (eLst (eCons (eVar 3) eNil)) eNil))))) .nx) .nx) .nx)) .nx)) (sSeq (sRet (eC .none)) .nx))
def m_into_free : List PyData → Res PyData := mkFn 2 4 g_into_free
def g_way_back : Lo → Out := (sSeq (sSet 2 (eLst eNil)) (sSeq (sWhile FUEL (eT (eOp dIsN (eVar 1) (eC .none))) (sSeq (sApp 2 (eFlat (eVar 1))) (sSeq (sSet 1 (eOp dIx (eVar 0) (eVar 1))) .nx))) (sSeq (sRev 2) (sSeq (sRet (eVar 2)) .nx))))
def m_way_back : List PyData → Res PyData := mkFn 2 3 g_way_back
def g_ring_from : Lo → Out := (sSeq (sSet 3 (eDict1 (eVar 2) (eC .none))) (sSeq (sSet 4 (eLst (eCons (eFlat (eVar 2)) eNil))) (sSeq (sWhile FUEL (eT (eVar 4)) (sSeq (sPop 5 4) (sSeq (sFor (iSeq (eFn m_wanted (eCons (eVar 0) (eCons (eVar 1) (eCons (eVar 5) eNil))))) (tName 6) (sSeq (sFor (iSeq (eFn m_guests_in (eCons (eVar 1) (eCons (eVar 6) eNil)))) (tName 7) (sSeq (sIf (eT (eOp dEq (eVar 7) (eVar 2))) (sSeq (sRet (eFn m_way_back (eCons (eVar 3) (eCons (eVar 5) eNil)))) .nx) .nx) (sSeq (sIf (eT (eOp dNotInK (eVar 7) (eVar 3))) (sSeq (sDPutD 3 (eVar 5) (eVar 7)) (sSeq (sApp 4 (eFlat (eVar 7))) .nx)) .nx) .nx))) .nx)) .nx))) (sSeq (sRet (eC .none)) .nx))))
def m_ring_from : List PyData → Res PyData := mkFn 3 8 g_ring_from
def g_better : Lo → Out := (sSeq (sExpr (eFn m_checked_lodging (eCons (eVar 0) (eCons (eVar 1) eNil)))) (sSeq (sSet 2 (eFn m_into_free (eCons (eVar 0) (eCons (eVar 1) eNil)))) (sSeq (sIf (eT (eOp dIsN (eVar 2) (eC .none))) (sSeq (sRet (eVar 2)) .nx) .nx) (sSeq (sFor (iRange (eCons (eCall gLen (eCons (eVar 1) eNil)) eNil)) (tName 3) (sSeq (sSet 4 (eFn m_ring_from (eCons (eVar 0) (eCons (eVar 1) (eCons (eVar 3) eNil))))) (sSeq (sIf (eT (eOp dIsN (eVar 4) (eC .none))) (sSeq (sSet 5 (eOp dAdd (eSl (eVar 4) (oSome (eC (.int 1))) oNone) (eSl (eVar 4) oNone (oSome (eC (.int 1)))))) (sSeq (sRet (eFn m_moved (eCons (eVar 1) (eCons (eVar 4) (eCons (eComp (iSeq (eVar 5)) (tName 6) [6] tTrue (eFlat (eOp dIx (eVar 1) (eVar 6)))) eNil))))) .nx)) .nx) .nx))) (sSeq (sRet (eC .none)) .nx)))))
def m_better : List PyData → Res PyData := mkFn 2 7 g_better
def g_bettered : Lo → Out := (sSeq (sSet 2 (eFn m_better (eCons (eVar 0) (eCons (eVar 1) eNil)))) (sSeq (sWhile FUEL (eT (eOp dIsN (eVar 2) (eC .none))) (sSeq (sSet 1 (eVar 2)) (sSeq (sSet 2 (eFn m_better (eCons (eVar 0) (eCons (eVar 1) eNil)))) .nx))) (sSeq (sRet (eFlat (eVar 1))) .nx)))
def m_bettered : List PyData → Res PyData := mkFn 2 3 g_bettered
def g_law_whole : Lo → Out := (sSeq (sRet (eAnd (eIsi isInt (eVar 0)) (eNot (eIsi isBool (eVar 0))))) .nx)
def m_law_whole : List PyData → Res PyData := mkFn 1 1 g_law_whole
def g_law_rank : Lo → Out := (sSeq (sSet 3 (eFn m_law_fits (eCons (eVar 0) (eCons (eVar 1) eNil)))) (sSeq (sIf (eT (eOp dIn (eVar 2) (eVar 3))) (sSeq (sRet (eMeth dIndex (eVar 3) (eVar 2))) .nx) .nx) (sSeq (sRet (eCall gLen (eCons (eVar 3) eNil))) .nx)))
def m_law_rank : List PyData → Res PyData := mkFn 3 4 g_law_rank
def g_law_lodging : Lo → Out := (sSeq (sSet 3 (eLst eNil)) (sSeq (sFor (iRange (eCons (eCall gLen (eCons (eOp dIx (eVar 0) (eC (.int 0))) eNil)) eNil)) (tName 4) (sSeq (sSet 5 (eComp (iSeq (eFn m_law_fits (eCons (eVar 0) (eCons (eVar 4) eNil)))) (tName 7) [7] (eT (eOp dLt (eMeth dCount (eVar 3) (eVar 7)) (eOp dIx (eOp dIx (eOp dIx (eVar 0) (eC (.int 1))) (eVar 7)) (eC (.int 0))))) (eFlat (eVar 7)))) (sSeq (sSet 6 (eFn m_law_mix (eCons (eOp dAdd (eFn m_law_cell (eCons (eVar 1) (eCons (eOp dAdd (eVar 2) (eVar 4)) eNil))) (eOp dMul (eOp dMul (eC (.int 7)) (eVar 4)) (eVar 4))) (eCons (eC (.int 9907)) (eCons (eOp dAdd (eCall gLen (eCons (eVar 5) eNil)) (eC (.int 1))) eNil))))) (sSeq (sApp 3 (eFlat (eOp dIx (eOp dAdd (eVar 5) (eLst (eCons (eC .none) eNil))) (eVar 6)))) .nx)))) (sSeq (sRet (eCall gTuple (eCons (eVar 3) eNil))) .nx)))
def m_law_lodging : List PyData → Res PyData := mkFn 3 8 g_law_lodging
def g_law_spoilers : Lo → Out := (sSeq (sSet 2 (eLst eNil)) (sSeq (sFor (iRange (eCons (eCall gLen (eCons (eOp dIx (eVar 0) (eC (.int 0))) eNil)) eNil)) (tName 3) (sSeq (sFor (iSeq (eFn m_law_fits (eCons (eVar 0) (eCons (eVar 3) eNil)))) (tName 4) (sSeq (sAsgT (tPair 5 6) (eOp dIx (eOp dIx (eVar 0) (eC (.int 1))) (eVar 4))) (sSeq (sSet 7 (eComp (iRange (eCons (eCall gLen (eCons (eVar 1) eNil)) eNil)) (tName 9) [9] (eT (eOp dEq (eOp dIx (eVar 1) (eVar 9)) (eVar 4))) (eFlat (eVar 9)))) (sSeq (sSet 8 (eComp (iSeq (eVar 7)) (tName 9) [9] (eT (eOp dGt (eMeth dIndex (eVar 6) (eVar 9)) (eMeth dIndex (eVar 6) (eVar 3)))) (eFlat (eVar 9)))) (sSeq (sIf (eT (eOp dLt (eFn m_law_rank (eCons (eVar 0) (eCons (eVar 3) (eCons (eVar 4) eNil)))) (eFn m_law_rank (eCons (eVar 0) (eCons (eVar 3) (eCons (eOp dIx (eVar 1) (eVar 3)) eNil)))))) (sSeq (sIf (tOrB (eT (eOp dLt (eCall gLen (eCons (eVar 7) eNil)) (eVar 5))) (eT (eVar 8))) (sSeq (sApp 2 (eFlat (eTup (eCons (eVar 3) (eCons (eVar 4) eNil))))) .nx) .nx) .nx) .nx) .nx))))) .nx)) (sSeq (sRet (eCall gSorted (eCons (eVar 2) eNil))) .nx)))
def m_law_spoilers : List PyData → Res PyData := mkFn 2 10 g_law_spoilers
def g_law_is_lodging : Lo → Out := (sSeq (sIf (tOrB (tNotB (eT (eIsi isTup (eVar 1)))) (eT (eOp dNe (eCall gLen (eCons (eVar 1) eNil)) (eCall gLen (eCons (eOp dIx (eVar 0) (eC (.int 0))) eNil))))) (sSeq (sRet (eC (.bool false))) .nx) .nx) (sSeq (sFor (iEnumD (eVar 1)) (tPair 2 3) (sSeq (sIf (tAndB (eT (eOp dIsN (eVar 3) (eC .none))) (tOrB (tNotB (eT (eFn m_law_whole (eCons (eVar 3) eNil)))) (eT (eOp dNotIn (eVar 3) (eFn m_law_fits (eCons (eVar 0) (eCons (eVar 2) eNil))))))) (sSeq (sRet (eC (.bool false))) .nx) .nx) .nx)) (sSeq (sRet (eOp dEq (eComp (iRange (eCons (eCall gLen (eCons (eOp dIx (eVar 0) (eC (.int 1))) eNil)) eNil)) (tName 3) [3] (eT (eOp dGt (eMeth dCount (eVar 1) (eVar 3)) (eOp dIx (eOp dIx (eOp dIx (eVar 0) (eC (.int 1))) (eVar 3)) (eC (.int 0))))) (eFlat (eVar 3))) (eLst eNil))) .nx)))
def m_law_is_lodging : List PyData → Res PyData := mkFn 2 4 g_law_is_lodging
def g_law_told : Lo → Out := (sSeq (sTryAs 3 [1] 5 (sSeq (sIf (eT (eOp dEq (eVar 2) (eC (.int 0)))) (sSeq (sExpr (eFn m_checked_lodging (eCons (eVar 0) (eCons (eVar 1) eNil)))) .nx) (sSeq (sIf (eT (eOp dEq (eVar 2) (eC (.int 1)))) (sSeq (sExpr (eFn m_spoilers (eCons (eVar 0) (eCons (eVar 1) eNil)))) .nx) (sSeq (sIf (eT (eOp dEq (eVar 2) (eC (.int 2)))) (sSeq (sExpr (eFn m_is_steady (eCons (eVar 0) (eCons (eVar 1) eNil)))) .nx) (sSeq (sIf (eT (eOp dEq (eVar 2) (eC (.int 3)))) (sSeq (sExpr (eFn m_better (eCons (eVar 0) (eCons (eVar 1) eNil)))) .nx) (sSeq (sExpr (eFn m_bettered (eCons (eVar 0) (eCons (eVar 1) eNil)))) .nx)) .nx)) .nx)) .nx)) .nx) (fun a d c z => (sSeq (sRet (eLst (eCons (eIsE c a d (under c 1) (eVar 3)) (eCons (eIsE c a d true (eVar 3)) eNil)))) .nx))) (sSeq (sRet (eLst eNil)) .nx))
def m_law_told : List PyData → Res PyData := mkFn 3 4 g_law_told
def g_law_spoilt : Lo → Out := (sSeq (sSet 3 (eOp dMod (eFn m_law_cell (eCons (eVar 2) (eCons (eC (.int 1)) eNil))) (eCall gLen (eCons (eVar 1) eNil)))) (sSeq (sSet 4 (eOp dIx (eLst (eCons (eCall gLen (eCons (eOp dIx (eVar 0) (eC (.int 1))) eNil)) (eCons (eNeg (eC (.int 1))) (eCons (eC (.bool true)) (eCons (eC (.str "0")) (eCons (eTup (eCons (eC (.int 0)) eNil)) (eCons (eC (.bool false)) (eCons (eOp dAdd (eC (.int 99)) (eOp dMod (eFn m_law_cell (eCons (eVar 2) (eCons (eC (.int 2)) eNil))) (eOp dPow (eC (.int 10)) (eC (.int 20))))) eNil)))))))) (eOp dMod (eFn m_law_cell (eCons (eVar 2) (eCons (eC (.int 2)) eNil))) (eC (.int 7))))) (sSeq (sSet 5 (eLst (eCons (eCall gListF (eCons (eVar 1) eNil)) (eCons (eFlatF (eOp dAdd (eVar 1) (eTup (eCons (eC .none) eNil)))) (eCons (eFlatF (eSl (eVar 1) (oSome (eC (.int 1))) oNone)) (eCons (eC .none) (eCons (eC (.str "00")) (eCons (eFlatF (eOp dAdd (eOp dAdd (eSl (eVar 1) oNone (oSome (eVar 3))) (eTup (eCons (eVar 4) eNil))) (eSl (eVar 1) (oSome (eOp dAdd (eVar 3) (eC (.int 1)))) oNone))) eNil)))))))) (sSeq (sSet 6 (eComp (iRange (eCons (eCall gLen (eCons (eOp dIx (eVar 0) (eC (.int 1))) eNil)) eNil)) (tName 7) [7] (eT (eOp dNotIn (eVar 7) (eFn m_law_fits (eCons (eVar 0) (eCons (eVar 3) eNil))))) (eFlat (eVar 7)))) (sSeq (sIf (eT (eVar 6)) (sSeq (sApp 5 (eFlat (eOp dAdd (eOp dAdd (eSl (eVar 1) oNone (oSome (eVar 3))) (eTup (eCons (eOp dIx (eVar 6) (eC (.int 0))) eNil))) (eSl (eVar 1) (oSome (eOp dAdd (eVar 3) (eC (.int 1)))) oNone)))) .nx) .nx) (sSeq (sRet (eOp dIx (eVar 5) (eOp dMod (eFn m_law_cell (eCons (eVar 2) (eCons (eC (.int 3)) eNil))) (eCall gLen (eCons (eVar 5) eNil))))) .nx))))))
def m_law_spoilt : List PyData → Res PyData := mkFn 3 8 g_law_spoilt
def g_law_k03 : Lo → Out := (sSeq (sSet 1 (eFn m_law_fair (eCons (eVar 0) (eCons (eC (.int 5)) eNil)))) (sSeq (sSet 2 (eFn m_law_lodging (eCons (eVar 1) (eCons (eVar 0) (eCons (eC (.int 1)) eNil))))) (sSeq (sIf (eT (eOp dEq (eOp dMod (eFn m_law_cell (eCons (eVar 0) (eCons (eC (.int 0)) eNil))) (eC (.int 3))) (eC (.int 0)))) (sSeq (sSet 3 (eFn m_law_spoilt (eCons (eVar 1) (eCons (eVar 2) (eCons (eVar 0) eNil))))) (sSeq (sRet (eOp dEq (eComp (iRange (eCons (eC (.int 5)) eNil)) (tName 8) [8] (eT (eOp dNe (eFn m_law_told (eCons (eVar 1) (eCons (eVar 3) (eCons (eVar 8) eNil)))) (eLst (eCons (eC (.bool true)) (eCons (eC (.bool true)) eNil))))) (eFlat (eVar 8))) (eLst eNil))) .nx)) .nx) (sSeq (sIf (eT (eOp dEq (eOp dMod (eFn m_law_cell (eCons (eVar 0) (eCons (eC (.int 0)) eNil))) (eC (.int 3))) (eC (.int 1)))) (sSeq (sSet 4 (eCall gTuple (eCons (eComp (iRange (eCons (eCall gLen (eCons (eOp dIx (eVar 1) (eC (.int 0))) eNil)) eNil)) (tName 9) [9] tTrue (eFlat (eOp dIx (eOp dAdd (eFn m_law_fits (eCons (eVar 1) (eCons (eVar 9) eNil))) (eLst (eCons (eC .none) eNil))) (eC (.int 0))))) eNil))) (sSeq (sIf (tNotB (eT (eFn m_law_is_lodging (eCons (eVar 1) (eCons (eVar 4) eNil))))) (sSeq (sRet (eOp dEq (eFn m_law_told (eCons (eVar 1) (eCons (eVar 4) (eCons (eC (.int 0)) eNil)))) (eLst (eCons (eC (.bool true)) (eCons (eC (.bool true)) eNil))))) .nx) .nx) (sSeq (sSet 2 (eVar 4)) .nx))) .nx) (sSeq (sSet 5 (eFn m_spoilers (eCons (eVar 1) (eCons (eVar 2) eNil)))) (sSeq (sSet 6 (eFn m_is_steady (eCons (eVar 1) (eCons (eVar 2) eNil)))) (sSeq (sSet 7 (eFn m_law_spoilers (eCons (eVar 1) (eCons (eVar 2) eNil)))) (sSeq (sIf (tOrB (eT (eOp dNe (eFn m_checked_lodging (eCons (eVar 1) (eCons (eVar 2) eNil))) (eVar 2))) (tOrB (tNotB (eT (eIsi isList (eVar 5)))) (eT (eOp dNe (eVar 5) (eVar 7))))) (sSeq (sRet (eC (.bool false))) .nx) .nx) (sSeq (sRet (eAnd (eIsi isBool (eVar 6)) (eOp dEq (eVar 6) (eOp dEq (eVar 7) (eLst eNil))))) .nx)))))))))
def m_law_k03 : List PyData → Res PyData := mkFn 1 10 g_law_k03
def g_no_worse : Lo → Out := (sSeq (sFor (iRange (eCons (eCall gLen (eCons (eOp dIx (eVar 0) (eC (.int 0))) eNil)) eNil)) (tName 3) (sSeq (sIf (eT (eOp dGt (eFn m_place_of (eCons (eVar 0) (eCons (eVar 3) (eCons (eOp dIx (eVar 1) (eVar 3)) eNil)))) (eFn m_place_of (eCons (eVar 0) (eCons (eVar 3) (eCons (eOp dIx (eVar 2) (eVar 3)) eNil)))))) (sSeq (sRet (eC (.bool false))) .nx) .nx) .nx)) (sSeq (sRet (eC (.bool true))) .nx))
def m_no_worse : List PyData → Res PyData := mkFn 3 4 g_no_worse
def g_law_k04 : Lo → Out := (sSeq (sSet 1 (eFn m_law_fair (eCons (eVar 0) (eCons (eC (.int 8)) eNil)))) (sSeq (sSet 2 (eFn m_law_lodging (eCons (eVar 1) (eCons (eVar 0) (eCons (eC (.int 0)) eNil))))) (sSeq (sSet 3 (eFn m_law_lodging (eCons (eVar 1) (eCons (eVar 0) (eCons (eC (.int 3)) eNil))))) (sSeq (sSet 4 (eFn m_no_worse (eCons (eVar 1) (eCons (eVar 2) (eCons (eVar 3) eNil))))) (sSeq (sSet 5 (eOp dEq (eComp (iRange (eCons (eCall gLen (eCons (eVar 2) eNil)) eNil)) (tName 6) [6] (eT (eOp dGt (eFn m_law_rank (eCons (eVar 1) (eCons (eVar 6) (eCons (eOp dIx (eVar 2) (eVar 6)) eNil)))) (eFn m_law_rank (eCons (eVar 1) (eCons (eVar 6) (eCons (eOp dIx (eVar 3) (eVar 6)) eNil)))))) (eFlat (eVar 6))) (eLst eNil))) (sSeq (sRet (eAnd (eIsi isBool (eVar 4)) (eAnd (eOp dEq (eVar 4) (eVar 5)) (eOp dIs (eFn m_no_worse (eCons (eVar 1) (eCons (eVar 2) (eCons (eVar 2) eNil)))) (eC (.bool true)))))) .nx))))))
def m_law_k04 : List PyData → Res PyData := mkFn 1 7 g_law_k04
def g_kept_by : Lo → Out := (sSeq (sAsgT (tPair 3 4) (eOp dIx (eOp dIx (eVar 0) (eC (.int 1))) (eVar 1))) (sSeq (sRet (eSl (eComp (iSeq (eVar 4)) (tName 5) [5] (eT (eOp dIn (eVar 5) (eVar 2))) (eFlat (eVar 5))) oNone (oSome (eVar 3)))) .nx))
def m_kept_by : List PyData → Res PyData := mkFn 3 6 g_kept_by
def g_next_guest : Lo → Out := (sSeq (sFor (iSeq (eVar 0)) (tName 3) (sSeq (sIf (tAndB (eT (eOp dIs (eOp dIx (eVar 1) (eVar 3)) (eC .none))) (eT (eOp dIx (eVar 2) (eVar 3)))) (sSeq (sRet (eFlat (eVar 3))) .nx) .nx) .nx)) (sSeq (sRet (eC .none)) .nx))
def m_next_guest : List PyData → Res PyData := mkFn 3 4 g_next_guest
def g_run : Lo → Out := (sSeq (sSet 2 (eComp (iSeq (eOp dIx (eVar 0) (eC (.int 0)))) (tName 10) [10] tTrue (eC .none))) (sSeq (sSet 3 (eComp (iRange (eCons (eCall gLen (eCons (eOp dIx (eVar 0) (eC (.int 0))) eNil)) eNil)) (tName 5) [5] tTrue (eFn m_choices (eCons (eVar 0) (eCons (eVar 5) eNil))))) (sSeq (sSet 4 (eLst eNil)) (sSeq (sSet 5 (eFn m_next_guest (eCons (eVar 1) (eCons (eVar 2) (eCons (eVar 3) eNil))))) (sSeq (sWhile FUEL (eT (eOp dIsN (eVar 5) (eC .none))) (sSeq (sPopIx 6 3 (eVar 5)) (sSeq (sApp 4 (eFlat (eTup (eCons (eVar 5) (eCons (eVar 6) eNil))))) (sSeq (sSet 7 (eOp dAdd (eFn m_guests_in (eCons (eVar 2) (eCons (eVar 6) eNil))) (eLst (eCons (eVar 5) eNil)))) (sSeq (sSet 8 (eFn m_kept_by (eCons (eVar 0) (eCons (eVar 6) (eCons (eVar 7) eNil))))) (sSeq (sFor (iSeq (eVar 7)) (tName 9) (sSeq (sPut 2 (eC .none) (eVar 9)) (sSeq (sIf (eT (eOp dIn (eVar 9) (eVar 8))) (sSeq (sPut 2 (eVar 6) (eVar 9)) .nx) .nx) .nx))) (sSeq (sSet 5 (eFn m_next_guest (eCons (eVar 1) (eCons (eVar 2) (eCons (eVar 3) eNil))))) .nx))))))) (sSeq (sRet (eTup (eCons (eVar 4) (eCons (eCall gTuple (eCons (eVar 2) eNil)) eNil)))) .nx))))))
def m_run : List PyData → Res PyData := mkFn 2 11 g_run
def g_best : Lo → Out := (sSeq (sRet (eOp dIx (eFn m_run (eCons (eVar 0) (eCons (eListRg (eCall gLen (eCons (eOp dIx (eVar 0) (eC (.int 0))) eNil))) eNil))) (eC (.int 1)))) .nx)
def m_best : List PyData → Res PyData := mkFn 1 1 g_best
def g_next_house : Lo → Out := (sSeq (sFor (iRange (eCons (eCall gLen (eCons (eOp dIx (eVar 0) (eC (.int 1))) eNil)) eNil)) (tName 3) (sSeq (sIf (tAndB (eT (eOp dIx (eVar 2) (eVar 3))) (eT (eFn m_is_free (eCons (eVar 0) (eCons (eVar 1) (eCons (eVar 3) eNil)))))) (sSeq (sRet (eFlat (eVar 3))) .nx) .nx) .nx)) (sSeq (sRet (eC .none)) .nx))
def m_next_house : List PyData → Res PyData := mkFn 3 4 g_next_house
def g_worst : Lo → Out := (sSeq (sSet 1 (eComp (iSeq (eOp dIx (eVar 0) (eC (.int 0)))) (tName 6) [6] tTrue (eC .none))) (sSeq (sSet 2 (eLst eNil)) (sSeq (sFor (iEnumD (eOp dIx (eVar 0) (eC (.int 1)))) (tPair 3 4) (sSeq (sApp 2 (eComp (iSeq (eOp dIx (eVar 4) (eC (.int 1)))) (tName 5) [5] (eT (eFn m_fits (eCons (eVar 0) (eCons (eVar 5) (eCons (eVar 3) eNil))))) (eFlat (eVar 5)))) .nx)) (sSeq (sSet 3 (eFn m_next_house (eCons (eVar 0) (eCons (eVar 1) (eCons (eVar 2) eNil))))) (sSeq (sWhile FUEL (eT (eOp dIsN (eVar 3) (eC .none))) (sSeq (sPopIx 5 2 (eVar 3)) (sSeq (sIf (eT (eFn m_likes (eCons (eVar 0) (eCons (eVar 5) (eCons (eVar 3) (eCons (eOp dIx (eVar 1) (eVar 5)) eNil)))))) (sSeq (sPut 1 (eVar 3) (eVar 5)) .nx) .nx) (sSeq (sSet 3 (eFn m_next_house (eCons (eVar 0) (eCons (eVar 1) (eCons (eVar 2) eNil))))) .nx)))) (sSeq (sRet (eCall gTuple (eCons (eVar 1) eNil))) .nx))))))
def m_worst : List PyData → Res PyData := mkFn 1 7 g_worst
def g_law_every : Lo → Out := (sSeq (sSet 1 (eLst (eCons (eTup eNil) eNil))) (sSeq (sFor (iRange (eCons (eCall gLen (eCons (eOp dIx (eVar 0) (eC (.int 0))) eNil)) eNil)) (tName 2) (sSeq (sSet 3 (eLst eNil)) (sSeq (sFor (iSeq (eVar 1)) (tName 4) (sSeq (sFor (iSeq (eOp dAdd (eLst (eCons (eC .none) eNil)) (eCall gSorted (eCons (eFn m_law_fits (eCons (eVar 0) (eCons (eVar 2) eNil))) eNil)))) (tName 5) (sSeq (sIf (tOrB (eT (eOp dIs (eVar 5) (eC .none))) (eT (eOp dLt (eMeth dCount (eVar 4) (eVar 5)) (eOp dIx (eOp dIx (eOp dIx (eVar 0) (eC (.int 1))) (eVar 5)) (eC (.int 0)))))) (sSeq (sApp 3 (eFlat (eOp dAdd (eVar 4) (eTup (eCons (eVar 5) eNil))))) .nx) .nx) .nx)) .nx)) (sSeq (sMove 1 3) .nx)))) (sSeq (sRet (eComp (iSeq (eVar 1)) (tName 4) [4] (eT (eOp dEq (eFn m_law_spoilers (eCons (eVar 0) (eCons (eVar 4) eNil))) (eLst eNil))) (eFlat (eVar 4)))) .nx)))
def m_law_every : List PyData → Res PyData := mkFn 1 6 g_law_every
def g_law_k05 : Lo → Out := (sSeq (sSet 1 (eFn m_law_fair (eCons (eVar 0) (eCons (eC (.int 0)) eNil)))) (sSeq (sSet 2 (eFn m_best (eCons (eVar 1) eNil))) (sSeq (sSet 3 (eFn m_worst (eCons (eVar 1) eNil))) (sSeq (sIf (tOrB (tNotB (eT (eFn m_law_is_lodging (eCons (eVar 1) (eCons (eVar 2) eNil))))) (tNotB (eT (eFn m_law_is_lodging (eCons (eVar 1) (eCons (eVar 3) eNil)))))) (sSeq (sRet (eC (.bool false))) .nx) .nx) (sSeq (sSet 4 (eFn m_law_every (eCons (eVar 1) eNil))) (sSeq (sIf (tOrB (eT (eOp dNotIn (eVar 2) (eVar 4))) (eT (eOp dNotIn (eVar 3) (eVar 4)))) (sSeq (sRet (eC (.bool false))) .nx) .nx) (sSeq (sFor (iSeq (eVar 4)) (tName 5) (sSeq (sFor (iEnumD (eVar 5)) (tPair 6 7) (sSeq (sSet 8 (eFn m_law_rank (eCons (eVar 1) (eCons (eVar 6) (eCons (eVar 7) eNil))))) (sSeq (sIf (tNotB (eT (eChain dLe dLe (eFn m_law_rank (eCons (eVar 1) (eCons (eVar 6) (eCons (eOp dIx (eVar 2) (eVar 6)) eNil)))) (eVar 8) (eFn m_law_rank (eCons (eVar 1) (eCons (eVar 6) (eCons (eOp dIx (eVar 3) (eVar 6)) eNil))))))) (sSeq (sRet (eC (.bool false))) .nx) .nx) .nx))) .nx)) (sSeq (sRet (eC (.bool true))) .nx))))))))
def m_law_k05 : List PyData → Res PyData := mkFn 1 9 g_law_k05
def g_look_order : Lo → Out := (sSeq (sIf (tNotB (eT (eIsi isList (eVar 1)))) (sSeq (sRaise 2) .nx) .nx) (sSeq (sFor (iSeq (eVar 1)) (tName 2) (sSeq (sIf (tNotB (eT (eFn m_is_within (eCons (eVar 2) (eCons (eC (.int 0)) (eCons (eOp dSub (eCall gLen (eCons (eOp dIx (eVar 0) (eC (.int 0))) eNil)) (eC (.int 1))) eNil)))))) (sSeq (sRaise 2) .nx) .nx) .nx)) (sSeq (sIf (eT (eOp dNe (eCall gSorted (eCons (eVar 1) eNil)) (eListRg (eCall gLen (eCons (eOp dIx (eVar 0) (eC (.int 0))) eNil))))) (sSeq (sRaise 2) .nx) .nx) .nx)))
def m_look_order : List PyData → Res PyData := mkFn 2 3 g_look_order
def g_asked : Lo → Out := (sSeq (sExpr (eFn m_look_order (eCons (eVar 0) (eCons (eVar 1) eNil)))) (sSeq (sRet (eOp dIx (eFn m_run (eCons (eVar 0) (eCons (eVar 1) eNil))) (eC (.int 0)))) .nx))
def m_asked : List PyData → Res PyData := mkFn 2 2 g_asked
def g_picked : Lo → Out := (sSeq (sExpr (eFn m_look_order (eCons (eVar 0) (eCons (eVar 1) eNil)))) (sSeq (sSet 2 (eComp (iSeq (eOp dIx (eVar 0) (eC (.int 0)))) (tName 5) [5] tTrue (eC .none))) (sSeq (sFor (iSeq (eVar 1)) (tName 3) (sSeq (sSet 4 (eComp (iSeq (eFn m_choices (eCons (eVar 0) (eCons (eVar 3) eNil)))) (tName 6) [6] (eT (eFn m_is_free (eCons (eVar 0) (eCons (eVar 2) (eCons (eVar 6) eNil))))) (eFlat (eVar 6)))) (sSeq (sIf (eT (eVar 4)) (sSeq (sPut 2 (eOp dIx (eVar 4) (eC (.int 0))) (eVar 3)) .nx) .nx) .nx))) (sSeq (sRet (eCall gTuple (eCons (eVar 2) eNil))) .nx))))
def m_picked : List PyData → Res PyData := mkFn 2 7 g_picked
def g_law_told_k06 : Lo → Out := (sSeq (sTryAs 3 [2] 5 (sSeq (sIf (eT (eOp dEq (eVar 2) (eC (.int 0)))) (sSeq (sExpr (eFn m_asked (eCons (eVar 0) (eCons (eVar 1) eNil)))) .nx) (sSeq (sExpr (eFn m_picked (eCons (eVar 0) (eCons (eVar 1) eNil)))) .nx)) .nx) (fun a d c z => (sSeq (sRet (eLst (eCons (eIsE c a d (under c 2) (eVar 3)) (eCons (eIsE c a d true (eVar 3)) eNil)))) .nx))) (sSeq (sRet (eLst eNil)) .nx))
def m_law_told_k06 : List PyData → Res PyData := mkFn 3 4 g_law_told_k06
def g_law_walk : Lo → Out := (sSeq (sSet 2 (eComp (iSeq (eOp dIx (eVar 0) (eC (.int 0)))) (tName 12) [12] tTrue (eC .none))) (sSeq (sSet 3 (eComp (iSeq (eOp dIx (eVar 0) (eC (.int 0)))) (tName 12) [12] tTrue (eC (.int 0)))) (sSeq (sSet 4 (eLst eNil)) (sSeq (sSet 5 (eCall gList (eCons (eVar 1) eNil))) (sSeq (sWhile FUEL (eT (eVar 5)) (sSeq (sSet 6 (eOp dIx (eVar 5) (eC (.int 0)))) (sSeq (sSet 7 (eFlat (eOp dIx (eFn m_law_fits (eCons (eVar 0) (eCons (eVar 6) eNil))) (eOp dIx (eVar 3) (eVar 6))))) (sSeq (sPut 3 (eOp dAdd (eOp dIx (eVar 3) (eVar 6)) (eC (.int 1))) (eVar 6)) (sSeq (sApp 4 (eFlat (eTup (eCons (eVar 6) (eCons (eVar 7) eNil))))) (sSeq (sPut 2 (eVar 7) (eVar 6)) (sSeq (sAsgT (tPair 8 9) (eOp dIx (eOp dIx (eVar 0) (eC (.int 1))) (eVar 7))) (sSeq (sSet 10 (eComp (iSeq (eVar 9)) (tName 11) [11] (eT (eOp dEq (eOp dIx (eVar 2) (eVar 11)) (eVar 7))) (eFlat (eVar 11)))) (sSeq (sFor (iSeq (eSl (eVar 10) (oSome (eVar 8)) oNone)) (tName 11) (sSeq (sPut 2 (eC .none) (eVar 11)) .nx)) (sSeq (sSet 5 (eComp (iSeq (eVar 1)) (tName 13) [13] (tAndB (eT (eOp dIs (eOp dIx (eVar 2) (eVar 13)) (eC .none))) (eT (eOp dLt (eOp dIx (eVar 3) (eVar 13)) (eCall gLen (eCons (eFn m_law_fits (eCons (eVar 0) (eCons (eVar 13) eNil))) eNil))))) (eFlat (eVar 13)))) .nx)))))))))) (sSeq (sRet (eTup (eCons (eVar 4) (eCons (eCall gTuple (eCons (eVar 2) eNil)) eNil)))) .nx))))))
def m_law_walk : List PyData → Res PyData := mkFn 2 14 g_law_walk
def g_law_start : Lo → Out := (sSeq (sRet (eComp (iSeq (eVar 1)) (tName 2) [2] (eT (eFn m_law_fits (eCons (eVar 0) (eCons (eVar 2) eNil)))) (eFlat (eVar 2)))) .nx)
def m_law_start : List PyData → Res PyData := mkFn 2 3 g_law_start
def g_law_odd : Lo → Out := (sSeq (sSet 2 (eLst (eCons (eFlat (eCall gTuple (eCons (eVar 0) eNil))) (eCons (eFlatF (eOp dAdd (eVar 0) (eLst (eCons (eC (.int 0)) eNil)))) (eCons (eFlatF (eSl (eVar 0) (oSome (eC (.int 1))) oNone)) (eCons (eC .none) (eCons (eOp dRep (eLst (eCons (eC (.int 0)) eNil)) (eOp dAdd (eCall gLen (eCons (eVar 0) eNil)) (eC (.int 1)))) (eCons (eC (.str "0")) (eCons (eFlatF (eOp dAdd (eSl (eVar 0) (oSome (eC (.int 1))) oNone) (eLst (eCons (eC (.bool true)) eNil)))) eNil))))))))) (sSeq (sRet (eOp dIx (eOp dAdd (eVar 2) (eLst (eCons (eFlatF (eOp dAdd (eSl (eVar 0) (oSome (eC (.int 1))) oNone) (eLst (eCons (eCall gLen (eCons (eVar 0) eNil)) eNil)))) (eCons (eFlatF (eOp dAdd (eSl (eVar 0) (oSome (eC (.int 1))) oNone) (eLst (eCons (eNeg (eC (.int 1))) eNil)))) (eCons (eFlatF (eOp dAdd (eSl (eVar 0) (oSome (eC (.int 1))) oNone) (eLst (eCons (eC (.str "0")) eNil)))) eNil))))) (eOp dMod (eVar 1) (eC (.int 10))))) .nx))
def m_law_odd : List PyData → Res PyData := mkFn 2 3 g_law_odd
def g_law_k06 : Lo → Out := (sSeq (sSet 1 (eFn m_law_fair (eCons (eVar 0) (eCons (eC (.int 3)) eNil)))) (sSeq (sSet 2 (eCall gLen (eCons (eOp dIx (eVar 1) (eC (.int 0))) eNil))) (sSeq (sSet 3 (eCall gList (eCons (eFn m_law_some (eCons (eFn m_law_cell (eCons (eVar 0) (eCons (eC (.int 0)) eNil))) (eCons (eVar 2) (eCons (eC (.bool true)) eNil)))) eNil))) (sSeq (sIf (eT (eOp dEq (eOp dMod (eFn m_law_cell (eCons (eVar 0) (eCons (eC (.int 1)) eNil))) (eC (.int 4))) (eC (.int 0)))) (sSeq (sSet 4 (eFn m_law_odd (eCons (eVar 3) (eCons (eFn m_law_cell (eCons (eVar 0) (eCons (eC (.int 2)) eNil))) eNil)))) (sSeq (sRet (eAnd (eOp dEq (eFn m_law_told_k06 (eCons (eVar 1) (eCons (eVar 4) (eCons (eC (.int 0)) eNil)))) (eLst (eCons (eC (.bool true)) (eCons (eC (.bool true)) eNil)))) (eOp dEq (eFn m_law_told_k06 (eCons (eVar 1) (eCons (eVar 4) (eCons (eC (.int 1)) eNil)))) (eLst (eCons (eC (.bool true)) (eCons (eC (.bool true)) eNil)))))) .nx)) .nx) (sSeq (sSet 5 (eCall gList (eCons (eVar 3) eNil))) (sSeq (sSet 6 (eFn m_asked (eCons (eVar 1) (eCons (eVar 5) eNil)))) (sSeq (sIf (tOrB (tNotB (eT (eIsi isList (eVar 6)))) (eT (eOp dNe (eVar 5) (eVar 3)))) (sSeq (sRet (eC (.bool false))) .nx) .nx) (sSeq (sIf (tNotB (eT (eFn m_law_start (eCons (eVar 1) (eCons (eVar 3) eNil))))) (sSeq (sRet (eAnd (eOp dEq (eVar 6) (eLst eNil)) (eOp dEq (eFn m_best (eCons (eVar 1) eNil)) (eOp dRep (eTup (eCons (eC .none) eNil)) (eVar 2))))) .nx) .nx) (sSeq (sAsgT (tPair 7 8) (eFn m_law_walk (eCons (eVar 1) (eCons (eFn m_law_start (eCons (eVar 1) (eCons (eVar 3) eNil))) eNil)))) (sSeq (sRet (eAnd (eOp dEq (eVar 6) (eVar 7)) (eOp dEq (eFn m_best (eCons (eVar 1) eNil)) (eVar 8)))) .nx))))))))))
def m_law_k06 : List PyData → Res PyData := mkFn 1 9 g_law_k06
def g_all_lodgings : Lo → Out := (sSeq (sSet 1 (eLst (eCons (eTup eNil) eNil))) (sSeq (sFor (iRange (eCons (eCall gLen (eCons (eOp dIx (eVar 0) (eC (.int 0))) eNil)) eNil)) (tName 2) (sSeq (sSet 3 (eLst eNil)) (sSeq (sFor (iSeq (eVar 1)) (tName 4) (sSeq (sApp 3 (eFlat (eOp dAdd (eVar 4) (eTup (eCons (eC .none) eNil))))) (sSeq (sFor (iSeq (eCall gSorted (eCons (eFn m_choices (eCons (eVar 0) (eCons (eVar 2) eNil))) eNil))) (tName 5) (sSeq (sIf (eT (eOp dLt (eCall gLen (eCons (eFn m_guests_in (eCons (eVar 4) (eCons (eVar 5) eNil))) eNil)) (eOp dIx (eOp dIx (eOp dIx (eVar 0) (eC (.int 1))) (eVar 5)) (eC (.int 0))))) (sSeq (sApp 3 (eFlat (eOp dAdd (eVar 4) (eTup (eCons (eVar 5) eNil))))) .nx) .nx) .nx)) .nx))) (sSeq (sMove 1 3) .nx)))) (sSeq (sRet (eVar 1)) .nx)))
def m_all_lodgings : List PyData → Res PyData := mkFn 1 6 g_all_lodgings
def g_all_steady : Lo → Out := (sSeq (sRet (eComp (iSeq (eFn m_all_lodgings (eCons (eVar 0) eNil))) (tName 1) [1] (eT (eFn m_is_steady (eCons (eVar 0) (eCons (eVar 1) eNil)))) (eFlat (eVar 1)))) .nx)
def m_all_steady : List PyData → Res PyData := mkFn 1 2 g_all_steady
def g_law_k07 : Lo → Out := (sSeq (sSet 1 (eFn m_law_fair (eCons (eVar 0) (eCons (eC (.int 0)) eNil)))) (sSeq (sSet 2 (eFn m_all_steady (eCons (eVar 1) eNil))) (sSeq (sIf (tOrB (tNotB (eT (eIsi isList (eVar 2)))) (tOrB (eT (eOp dNe (eVar 2) (eFn m_law_every (eCons (eVar 1) eNil)))) (tNotB (eT (eVar 2))))) (sSeq (sRet (eC (.bool false))) .nx) .nx) (sSeq (sSet 3 (eOp dIx (eVar 2) (eC (.int 0)))) (sSeq (sFor (iSeq (eVar 2)) (tName 4) (sSeq (sIf (eT (eComp (iRange (eCons (eCall gLen (eCons (eVar 3) eNil)) eNil)) (tName 8) [8] (eT (eOp dNe (eOp dIs (eOp dIx (eVar 3) (eVar 8)) (eC .none)) (eOp dIs (eOp dIx (eVar 4) (eVar 8)) (eC .none)))) (eFlat (eVar 8)))) (sSeq (sRet (eC (.bool false))) .nx) .nx) (sSeq (sFor (iRange (eCons (eCall gLen (eCons (eOp dIx (eVar 1) (eC (.int 1))) eNil)) eNil)) (tName 5) (sSeq (sSet 6 (eComp (iRange (eCons (eCall gLen (eCons (eVar 3) eNil)) eNil)) (tName 8) [8] (eT (eOp dEq (eOp dIx (eVar 3) (eVar 8)) (eVar 5))) (eFlat (eVar 8)))) (sSeq (sSet 7 (eComp (iRange (eCons (eCall gLen (eCons (eVar 3) eNil)) eNil)) (tName 8) [8] (eT (eOp dEq (eOp dIx (eVar 4) (eVar 8)) (eVar 5))) (eFlat (eVar 8)))) (sSeq (sIf (tAndB (eT (eOp dNe (eVar 6) (eVar 7))) (eT (eOp dLt (eCall gLen (eCons (eVar 7) eNil)) (eOp dIx (eOp dIx (eOp dIx (eVar 1) (eC (.int 1))) (eVar 5)) (eC (.int 0)))))) (sSeq (sRet (eC (.bool false))) .nx) .nx) .nx)))) .nx))) (sSeq (sRet (eC (.bool true))) .nx))))))
def m_law_k07 : List PyData → Res PyData := mkFn 1 9 g_law_k07
def g_higher : Lo → Out := (sSeq (sSet 3 (eLst eNil)) (sSeq (sFor (iEnumD (eVar 1)) (tPair 4 5) (sSeq (sIf (eT (eFn m_likes (eCons (eVar 0) (eCons (eVar 4) (eCons (eOp dIx (eVar 2) (eVar 4)) (eCons (eVar 5) eNil)))))) (sSeq (sSet 5 (eOp dIx (eVar 2) (eVar 4))) .nx) .nx) (sSeq (sApp 3 (eFlat (eVar 5))) .nx))) (sSeq (sRet (eCall gTuple (eCons (eVar 3) eNil))) .nx)))
def m_higher : List PyData → Res PyData := mkFn 3 6 g_higher
def g_lower : Lo → Out := (sSeq (sSet 3 (eLst eNil)) (sSeq (sFor (iEnumD (eVar 1)) (tPair 4 5) (sSeq (sIf (eT (eFn m_likes (eCons (eVar 0) (eCons (eVar 4) (eCons (eVar 5) (eCons (eOp dIx (eVar 2) (eVar 4)) eNil)))))) (sSeq (sSet 5 (eOp dIx (eVar 2) (eVar 4))) .nx) .nx) (sSeq (sApp 3 (eFlat (eVar 5))) .nx))) (sSeq (sRet (eCall gTuple (eCons (eVar 3) eNil))) .nx)))
def m_lower : List PyData → Res PyData := mkFn 3 6 g_lower
def g_law_k08 : Lo → Out := (sSeq (sSet 1 (eFn m_law_fair (eCons (eVar 0) (eCons (eC (.int 2)) eNil)))) (sSeq (sSet 2 (eFn m_law_every (eCons (eVar 1) eNil))) (sSeq (sSet 3 (eOp dIx (eVar 2) (eOp dMod (eFn m_law_cell (eCons (eVar 0) (eCons (eC (.int 0)) eNil))) (eCall gLen (eCons (eVar 2) eNil))))) (sSeq (sSet 4 (eOp dIx (eVar 2) (eOp dMod (eFn m_law_cell (eCons (eVar 0) (eCons (eC (.int 1)) eNil))) (eCall gLen (eCons (eVar 2) eNil))))) (sSeq (sSet 5 (eLst eNil)) (sSeq (sSet 6 (eLst eNil)) (sSeq (sFor (iRange (eCons (eCall gLen (eCons (eVar 3) eNil)) eNil)) (tName 7) (sSeq (sSet 8 (eLst (eCons (eOp dIx (eVar 3) (eVar 7)) (eCons (eOp dIx (eVar 4) (eVar 7)) eNil)))) (sSeq (sIf (eT (eOp dGt (eFn m_law_rank (eCons (eVar 1) (eCons (eVar 7) (eCons (eOp dIx (eVar 3) (eVar 7)) eNil)))) (eFn m_law_rank (eCons (eVar 1) (eCons (eVar 7) (eCons (eOp dIx (eVar 4) (eVar 7)) eNil)))))) (sSeq (sSet 8 (eLst (eCons (eOp dIx (eVar 4) (eVar 7)) (eCons (eOp dIx (eVar 3) (eVar 7)) eNil)))) .nx) .nx) (sSeq (sApp 5 (eFlat (eOp dIx (eVar 8) (eC (.int 0))))) (sSeq (sApp 6 (eFlat (eOp dIx (eVar 8) (eC (.int 1))))) .nx))))) (sSeq (sSet 9 (eFn m_higher (eCons (eVar 1) (eCons (eVar 3) (eCons (eVar 4) eNil))))) (sSeq (sSet 10 (eFn m_lower (eCons (eVar 1) (eCons (eVar 3) (eCons (eVar 4) eNil))))) (sSeq (sIf (tOrB (tNotB (eT (eIsi isTup (eVar 9)))) (tOrB (tNotB (eT (eIsi isTup (eVar 10)))) (tOrB (eT (eOp dNe (eVar 9) (eCall gTuple (eCons (eVar 5) eNil)))) (eT (eOp dNe (eVar 10) (eCall gTuple (eCons (eVar 6) eNil))))))) (sSeq (sRet (eC (.bool false))) .nx) .nx) (sSeq (sRet (eAnd (eOp dIn (eVar 9) (eVar 2)) (eOp dIn (eVar 10) (eVar 2)))) .nx)))))))))))
def m_law_k08 : List PyData → Res PyData := mkFn 1 11 g_law_k08
def g_middle : Lo → Out := (sSeq (sSet 2 (eFn m_all_steady (eCons (eVar 0) eNil))) (sSeq (sIf (tNotB (eT (eFn m_is_within (eCons (eVar 1) (eCons (eC (.int 0)) (eCons (eOp dSub (eCall gLen (eCons (eVar 2) eNil)) (eC (.int 1))) eNil)))))) (sSeq (sRet (eC .none)) .nx) .nx) (sSeq (sSet 3 (eLst eNil)) (sSeq (sFor (iRange (eCons (eCall gLen (eCons (eOp dIx (eVar 0) (eC (.int 0))) eNil)) eNil)) (tName 4) (sSeq (sSet 5 (eCall gSorted (eCons (eComp (iSeq (eVar 2)) (tName 7) [7] tTrue (eFn m_place_of (eCons (eVar 0) (eCons (eVar 4) (eCons (eOp dIx (eVar 7) (eVar 4)) eNil))))) eNil))) (sSeq (sSet 6 (eOp dAdd (eFn m_choices (eCons (eVar 0) (eCons (eVar 4) eNil))) (eLst (eCons (eC .none) eNil)))) (sSeq (sApp 3 (eFlat (eOp dIx (eVar 6) (eOp dIx (eVar 5) (eVar 1))))) .nx)))) (sSeq (sRet (eCall gTuple (eCons (eVar 3) eNil))) .nx)))))
def m_middle : List PyData → Res PyData := mkFn 2 8 g_middle
def g_law_k09 : Lo → Out := (sSeq (sSet 1 (eFn m_law_fair (eCons (eVar 0) (eCons (eC (.int 1)) eNil)))) (sSeq (sSet 2 (eFn m_law_every (eCons (eVar 1) eNil))) (sSeq (sSet 3 (eOp dMod (eFn m_law_cell (eCons (eVar 0) (eCons (eC (.int 0)) eNil))) (eCall gLen (eCons (eVar 2) eNil)))) (sSeq (sSet 4 (eLst eNil)) (sSeq (sFor (iRange (eCons (eCall gLen (eCons (eOp dIx (eVar 1) (eC (.int 0))) eNil)) eNil)) (tName 5) (sSeq (sSet 6 (eCall gSorted (eCons (eComp (iSeq (eVar 2)) (tName 9) [9] tTrue (eFn m_law_rank (eCons (eVar 1) (eCons (eVar 5) (eCons (eOp dIx (eVar 9) (eVar 5)) eNil))))) eNil))) (sSeq (sApp 4 (eFlat (eOp dIx (eOp dAdd (eFn m_law_fits (eCons (eVar 1) (eCons (eVar 5) eNil))) (eLst (eCons (eC .none) eNil))) (eOp dIx (eVar 6) (eVar 3))))) .nx))) (sSeq (sSet 7 (eFn m_middle (eCons (eVar 1) (eCons (eVar 3) eNil)))) (sSeq (sIf (tOrB (tNotB (eT (eIsi isTup (eVar 7)))) (tOrB (eT (eOp dNe (eVar 7) (eCall gTuple (eCons (eVar 4) eNil)))) (eT (eOp dNotIn (eVar 7) (eVar 2))))) (sSeq (sRet (eC (.bool false))) .nx) .nx) (sSeq (sSet 8 (eOp dIx (eLst (eCons (eCall gLen (eCons (eVar 2) eNil)) (eCons (eNeg (eC (.int 1))) (eCons (eOp dAdd (eCall gLen (eCons (eVar 2) eNil)) (eOp dMod (eFn m_law_cell (eCons (eVar 0) (eCons (eC (.int 0)) eNil))) (eOp dPow (eC (.int 10)) (eC (.int 20))))) eNil)))) (eOp dMod (eFn m_law_cell (eCons (eVar 0) (eCons (eC (.int 0)) eNil))) (eC (.int 3))))) (sSeq (sIf (eT (eOp dIsN (eFn m_middle (eCons (eVar 1) (eCons (eVar 8) eNil))) (eC .none))) (sSeq (sRet (eC (.bool false))) .nx) .nx) (sSeq (sRet (eAnd (eOp dEq (eFn m_middle (eCons (eVar 1) (eCons (eC (.int 0)) eNil))) (eFn m_best (eCons (eVar 1) eNil))) (eOp dEq (eFn m_middle (eCons (eVar 1) (eCons (eOp dSub (eCall gLen (eCons (eVar 2) eNil)) (eC (.int 1))) eNil))) (eFn m_worst (eCons (eVar 1) eNil))))) .nx))))))))))
def m_law_k09 : List PyData → Res PyData := mkFn 1 10 g_law_k09
def g_law_round : Lo → Out := (sSeq (sSet 1 (eOp dAdd (eC (.int 2)) (eOp dMod (eFn m_law_cell (eCons (eVar 0) (eCons (eC (.int 3)) eNil))) (eC (.int 3))))) (sSeq (sSet 2 (eComp (iRange (eCons (eVar 1) eNil)) (tName 4) [4] tTrue (eCall gTuple (eCons (eComp (iRange (eCons (eVar 1) eNil)) (tName 6) [6] tTrue (eOp dMod (eOp dAdd (eVar 4) (eVar 6)) (eVar 1))) eNil)))) (sSeq (sSet 3 (eComp (iRange (eCons (eVar 1) eNil)) (tName 5) [5] tTrue (eTup (eCons (eC (.int 1)) (eCons (eCall gTuple (eCons (eComp (iRange (eCons (eVar 1) eNil)) (tName 6) [6] tTrue (eOp dMod (eOp dSub (eOp dSub (eOp dAdd (eVar 5) (eVar 1)) (eC (.int 1))) (eVar 6)) (eVar 1))) eNil)) eNil))))) (sSeq (sRet (eFlat (eTup (eCons (eCall gTuple (eCons (eVar 2) eNil)) (eCons (eCall gTuple (eCons (eVar 3) eNil)) eNil))))) .nx))))
def m_law_round : List PyData → Res PyData := mkFn 1 7 g_law_round
def g_law_k10 : Lo → Out := (sSeq (sSet 1 (eFn m_law_fair (eCons (eVar 0) (eCons (eC (.int 3)) eNil)))) (sSeq (sIf (eT (eOp dEq (eOp dMod (eFn m_law_cell (eCons (eVar 0) (eCons (eC (.int 2)) eNil))) (eC (.int 6))) (eC (.int 1)))) (sSeq (sSet 1 (eFn m_law_round (eCons (eVar 0) eNil))) .nx) .nx) (sSeq (sSet 2 (eOp dMod (eFn m_law_cell (eCons (eVar 0) (eCons (eC (.int 0)) eNil))) (eCall gLen (eCons (eOp dIx (eVar 1) (eC (.int 0))) eNil)))) (sSeq (sSet 3 (eFn m_law_some (eCons (eFn m_law_cell (eCons (eVar 0) (eCons (eC (.int 1)) eNil))) (eCons (eCall gLen (eCons (eOp dIx (eVar 1) (eC (.int 1))) eNil)) (eCons (eOp dEq (eOp dMod (eFn m_law_cell (eCons (eVar 0) (eCons (eC (.int 2)) eNil))) (eC (.int 2))) (eC (.int 0))) eNil))))) (sSeq (sIf (eT (eOp dEq (eOp dMod (eFn m_law_cell (eCons (eVar 0) (eCons (eC (.int 2)) eNil))) (eC (.int 3))) (eC (.int 1)))) (sSeq (sSet 3 (eSl (eOp dIx (eOp dIx (eVar 1) (eC (.int 0))) (eVar 2)) oNone (oSome (eOp dMod (eFn m_law_cell (eCons (eVar 0) (eCons (eC (.int 1)) eNil))) (eOp dAdd (eCall gLen (eCons (eOp dIx (eOp dIx (eVar 1) (eC (.int 0))) (eVar 2)) eNil)) (eC (.int 1))))))) .nx) .nx) (sSeq (sSet 4 (eOp dAdd (eOp dAdd (eSl (eOp dIx (eVar 1) (eC (.int 0))) oNone (oSome (eVar 2))) (eTup (eCons (eVar 3) eNil))) (eSl (eOp dIx (eVar 1) (eC (.int 0))) (oSome (eOp dAdd (eVar 2) (eC (.int 1)))) oNone))) (sSeq (sSet 5 (eOp dIx (eFn m_best (eCons (eVar 1) eNil)) (eVar 2))) (sSeq (sSet 6 (eOp dIx (eFn m_best (eCons (eTup (eCons (eVar 4) (eCons (eOp dIx (eVar 1) (eC (.int 1))) eNil))) eNil)) (eVar 2))) (sSeq (sRet (eOp dGe (eFn m_law_rank (eCons (eVar 1) (eCons (eVar 2) (eCons (eVar 6) eNil)))) (eFn m_law_rank (eCons (eVar 1) (eCons (eVar 2) (eCons (eVar 5) eNil)))))) .nx)))))))))
def m_law_k10 : List PyData → Res PyData := mkFn 1 7 g_law_k10
def g_law_is_better : Lo → Out := (sSeq (sSet 3 (eComp (iRange (eCons (eCall gLen (eCons (eVar 1) eNil)) eNil)) (tName 4) [4] tTrue (eTup (eCons (eFn m_law_rank (eCons (eVar 0) (eCons (eVar 4) (eCons (eOp dIx (eVar 1) (eVar 4)) eNil)))) (eCons (eFn m_law_rank (eCons (eVar 0) (eCons (eVar 4) (eCons (eOp dIx (eVar 2) (eVar 4)) eNil)))) eNil))))) (sSeq (sIf (eT (eComp (iSeq (eVar 3)) (tName 5) [5] (eT (eOp dGt (eOp dIx (eVar 5) (eC (.int 0))) (eOp dIx (eVar 5) (eC (.int 1))))) (eFlat (eVar 5)))) (sSeq (sRet (eC (.bool false))) .nx) .nx) (sSeq (sRet (eOp dNe (eComp (iSeq (eVar 3)) (tName 5) [5] (eT (eOp dLt (eOp dIx (eVar 5) (eC (.int 0))) (eOp dIx (eVar 5) (eC (.int 1))))) (eFlat (eVar 5))) (eLst eNil))) .nx)))
def m_law_is_better : List PyData → Res PyData := mkFn 3 6 g_law_is_better
def g_law_all : Lo → Out := (sSeq (sSet 1 (eLst (eCons (eTup eNil) eNil))) (sSeq (sFor (iRange (eCons (eCall gLen (eCons (eOp dIx (eVar 0) (eC (.int 0))) eNil)) eNil)) (tName 2) (sSeq (sSet 3 (eLst eNil)) (sSeq (sFor (iSeq (eVar 1)) (tName 4) (sSeq (sApp 3 (eFlat (eOp dAdd (eVar 4) (eTup (eCons (eC .none) eNil))))) (sSeq (sFor (iSeq (eFn m_law_fits (eCons (eVar 0) (eCons (eVar 2) eNil)))) (tName 5) (sSeq (sIf (eT (eOp dLt (eMeth dCount (eVar 4) (eVar 5)) (eOp dIx (eOp dIx (eOp dIx (eVar 0) (eC (.int 1))) (eVar 5)) (eC (.int 0))))) (sSeq (sApp 3 (eFlat (eOp dAdd (eVar 4) (eTup (eCons (eVar 5) eNil))))) .nx) .nx) .nx)) .nx))) (sSeq (sMove 1 3) .nx)))) (sSeq (sRet (eVar 1)) .nx)))
def m_law_all : List PyData → Res PyData := mkFn 1 6 g_law_all
def g_law_ring : Lo → Out := (sSeq (sSet 1 (eOp dAdd (eC (.int 3)) (eOp dMod (eFn m_law_cell (eCons (eVar 0) (eCons (eC (.int 9)) eNil))) (eC (.int 3))))) (sSeq (sSet 2 (eOp dAdd (eC (.int 1)) (eOp dMod (eFn m_law_cell (eCons (eVar 0) (eCons (eC (.int 10)) eNil))) (eOp dSub (eVar 1) (eC (.int 1)))))) (sSeq (sSet 3 (eComp (iRange (eCons (eVar 1) eNil)) (tName 6) [6] tTrue (eFlat (eTup (eCons (eOp dMod (eOp dAdd (eVar 6) (eVar 2)) (eVar 1)) (eCons (eVar 6) eNil)))))) (sSeq (sSet 4 (eComp (iRange (eCons (eVar 1) eNil)) (tName 7) [7] tTrue (eFlat (eOp dAdd (eOp dMul (eFn m_law_mix (eCons (eOp dAdd (eFn m_law_cell (eCons (eVar 0) (eCons (eC (.int 11)) eNil))) (eOp dMul (eOp dMul (eC (.int 13)) (eVar 7)) (eVar 7))) (eCons (eC (.int 9929)) (eCons (eC (.int 97)) eNil)))) (eC (.int 5))) (eVar 7))))) (sSeq (sSet 5 (eCall gTuple (eCons (eComp (iSeq (eCall gSorted (eCons (eVar 4) eNil))) (tName 6) [6] tTrue (eOp dMod (eVar 6) (eC (.int 5)))) eNil))) (sSeq (sRet (eFlat (eTup (eCons (eCall gTuple (eCons (eVar 3) eNil)) (eCons (eCall gTuple (eCons (eComp (iRange (eCons (eVar 1) eNil)) (tName 8) [8] tTrue (eFlat (eTup (eCons (eC (.int 1)) (eCons (eVar 5) eNil))))) eNil)) eNil))))) .nx))))))
def m_law_ring : List PyData → Res PyData := mkFn 1 9 g_law_ring
def g_law_k11 : Lo → Out := (sSeq (sSet 1 (eFn m_law_fair (eCons (eVar 0) (eCons (eC (.int 8)) eNil)))) (sSeq (sSet 2 (eFn m_law_lodging (eCons (eVar 1) (eCons (eVar 0) (eCons (eC (.int 0)) eNil))))) (sSeq (sIf (eT (eOp dEq (eOp dMod (eFn m_law_cell (eCons (eVar 0) (eCons (eC (.int 8)) eNil))) (eC (.int 5))) (eC (.int 1)))) (sSeq (sSet 1 (eFn m_law_ring (eCons (eVar 0) eNil))) (sSeq (sSet 2 (eTupRg (eCall gLen (eCons (eOp dIx (eVar 1) (eC (.int 0))) eNil)))) .nx)) .nx) (sSeq (sSet 3 (eFn m_law_lodging (eCons (eVar 1) (eCons (eVar 0) (eCons (eC (.int 4)) eNil))))) (sSeq (sSet 4 (eFn m_better (eCons (eVar 1) (eCons (eVar 2) eNil)))) (sSeq (sIf (eT (eOp dIs (eVar 4) (eC .none))) (sSeq (sIf (eT (eFn m_law_is_better (eCons (eVar 1) (eCons (eVar 3) (eCons (eVar 2) eNil))))) (sSeq (sRet (eC (.bool false))) .nx) .nx) (sSeq (sIf (eT (eOp dLe (eCall gLen (eCons (eOp dIx (eVar 1) (eC (.int 0))) eNil)) (eC (.int 4)))) (sSeq (sFor (iSeq (eFn m_law_all (eCons (eVar 1) eNil))) (tName 5) (sSeq (sIf (eT (eFn m_law_is_better (eCons (eVar 1) (eCons (eVar 5) (eCons (eVar 2) eNil))))) (sSeq (sRet (eC (.bool false))) .nx) .nx) .nx)) .nx) .nx) .nx)) (sSeq (sIf (tOrB (tNotB (eT (eFn m_law_is_lodging (eCons (eVar 1) (eCons (eVar 4) eNil))))) (tNotB (eT (eFn m_law_is_better (eCons (eVar 1) (eCons (eVar 4) (eCons (eVar 2) eNil))))))) (sSeq (sRet (eC (.bool false))) .nx) .nx) .nx)) (sSeq (sSet 6 (eFn m_bettered (eCons (eVar 1) (eCons (eVar 2) eNil)))) (sSeq (sIf (tOrB (tNotB (eT (eFn m_law_is_lodging (eCons (eVar 1) (eCons (eVar 6) eNil))))) (eT (eOp dIsN (eFn m_better (eCons (eVar 1) (eCons (eVar 6) eNil))) (eC .none)))) (sSeq (sRet (eC (.bool false))) .nx) .nx) (sSeq (sIf (eT (eOp dIs (eVar 4) (eC .none))) (sSeq (sRet (eOp dEq (eVar 6) (eVar 2))) .nx) .nx) (sSeq (sRet (eFn m_law_is_better (eCons (eVar 1) (eCons (eVar 6) (eCons (eVar 2) eNil))))) .nx))))))))))
def m_law_k11 : List PyData → Res PyData := mkFn 1 7 g_law_k11
def g_law_k12 : Lo → Out := (sSeq (sSet 1 (eFn m_law_fair (eCons (eVar 0) (eCons (eC (.int 7)) eNil)))) (sSeq (sSet 2 (eCall gList (eCons (eFn m_law_some (eCons (eFn m_law_cell (eCons (eVar 0) (eCons (eC (.int 0)) eNil))) (eCons (eCall gLen (eCons (eOp dIx (eVar 1) (eC (.int 0))) eNil)) (eCons (eC (.bool true)) eNil)))) eNil))) (sSeq (sSet 3 (eComp (iSeq (eOp dIx (eVar 1) (eC (.int 0)))) (tName 10) [10] tTrue (eC .none))) (sSeq (sFor (iSeq (eVar 2)) (tName 4) (sSeq (sSet 5 (eComp (iSeq (eFn m_law_fits (eCons (eVar 1) (eCons (eVar 4) eNil)))) (tName 12) [12] (eT (eOp dLt (eMeth dCount (eVar 3) (eVar 12)) (eOp dIx (eOp dIx (eOp dIx (eVar 1) (eC (.int 1))) (eVar 12)) (eC (.int 0))))) (eFlat (eVar 12)))) (sSeq (sPut 3 (eOp dIx (eOp dAdd (eVar 5) (eLst (eCons (eC .none) eNil))) (eC (.int 0))) (eVar 4)) .nx))) (sSeq (sSet 6 (eCall gList (eCons (eVar 2) eNil))) (sSeq (sSet 7 (eFn m_picked (eCons (eVar 1) (eCons (eVar 6) eNil)))) (sSeq (sIf (tOrB (tNotB (eT (eIsi isTup (eVar 7)))) (tOrB (eT (eOp dNe (eVar 7) (eCall gTuple (eCons (eVar 3) eNil)))) (tOrB (eT (eOp dNe (eVar 6) (eVar 2))) (eT (eOp dIsN (eFn m_better (eCons (eVar 1) (eCons (eVar 7) eNil))) (eC .none)))))) (sSeq (sRet (eC (.bool false))) .nx) .nx) (sSeq (sSet 8 (eFn m_law_lodging (eCons (eVar 1) (eCons (eVar 0) (eCons (eC (.int 1)) eNil))))) (sSeq (sSet 9 (eComp (iRange (eCons (eCall gLen (eCons (eVar 7) eNil)) eNil)) (tName 11) [11] tTrue (eTup (eCons (eFn m_law_rank (eCons (eVar 1) (eCons (eVar 11) (eCons (eOp dIx (eVar 8) (eVar 11)) eNil)))) (eCons (eFn m_law_rank (eCons (eVar 1) (eCons (eVar 11) (eCons (eOp dIx (eVar 7) (eVar 11)) eNil)))) eNil))))) (sSeq (sRet (eOr (eOp dNe (eComp (iSeq (eVar 9)) (tName 13) [13] (eT (eOp dGt (eOp dIx (eVar 13) (eC (.int 0))) (eOp dIx (eVar 13) (eC (.int 1))))) (eFlat (eVar 13))) (eLst eNil)) (eOp dEq (eComp (iSeq (eVar 9)) (tName 13) [13] (eT (eOp dLt (eOp dIx (eVar 13) (eC (.int 0))) (eOp dIx (eVar 13) (eC (.int 1))))) (eFlat (eVar 13))) (eLst eNil)))) .nx))))))))))
def m_law_k12 : List PyData → Res PyData := mkFn 1 14 g_law_k12
def g_are_unlike : Lo → Out := (sSeq (sIf (tNotB (eT (eIsi isTup (eVar 0)))) (sSeq (sRet (eC (.bool false))) .nx) .nx) (sSeq (sFor (iSeq (eVar 0)) (tName 2) (sSeq (sIf (tNotB (eT (eFn m_is_within (eCons (eVar 2) (eCons (eC (.int 0)) (eCons (eOp dSub (eVar 1) (eC (.int 1))) eNil)))))) (sSeq (sRet (eC (.bool false))) .nx) .nx) .nx)) (sSeq (sRet (eOp dEq (eLenSet (eVar 0)) (eCall gLen (eCons (eVar 0) eNil)))) .nx)))
def m_are_unlike : List PyData → Res PyData := mkFn 2 3 g_are_unlike
def g_checked_market : Lo → Out := (sSeq (sIf (tOrB (tNotB (eT (eIsi isTup (eVar 0)))) (tNotB (eT (eChain dLe dLe (eC (.int 1)) (eCall gLen (eCons (eVar 0) eNil)) (eC (.int 5)))))) (sSeq (sRaise 3) .nx) .nx) (sSeq (sFor (iSeq (eVar 0)) (tName 1) (sSeq (sIf (tOrB (tNotB (eT (eFn m_are_unlike (eCons (eVar 1) (eCons (eCall gLen (eCons (eVar 0) eNil)) eNil))))) (eT (eOp dNe (eCall gLen (eCons (eVar 1) eNil)) (eCall gLen (eCons (eVar 0) eNil))))) (sSeq (sRaise 3) .nx) .nx) .nx)) (sSeq (sRet (eFlat (eVar 0))) .nx)))
def m_checked_market : List PyData → Res PyData := mkFn 1 2 g_checked_market
def g_pointed : Lo → Out := (sSeq (sSet 2 eDict0) (sSeq (sFor (iSeq (eVar 1)) (tName 3) (sSeq (sDPutD 2 (eOp dIx (eComp (iSeq (eOp dIx (eVar 0) (eVar 3))) (tName 4) [4] (eT (eOp dIn (eVar 4) (eVar 1))) (eFlat (eVar 4))) (eC (.int 0))) (eVar 3)) .nx)) (sSeq (sRet (eVar 2)) .nx)))
def m_pointed : List PyData → Res PyData := mkFn 2 5 g_pointed
def g_ring_in : Lo → Out := (sSeq (sSet 2 (eLst eNil)) (sSeq (sWhile FUEL (eT (eOp dNotIn (eVar 1) (eVar 2))) (sSeq (sApp 2 (eFlat (eVar 1))) (sSeq (sSet 1 (eOp dIx (eVar 0) (eVar 1))) .nx))) (sSeq (sRet (eSl (eVar 2) (oSome (eMeth dIndex (eVar 2) (eVar 1))) oNone)) .nx)))
def m_ring_in : List PyData → Res PyData := mkFn 2 3 g_ring_in
def g_rounds : Lo → Out := (sSeq (sSet 1 (eListRg (eCall gLen (eCons (eVar 0) eNil)))) (sSeq (sSet 2 (eLst eNil)) (sSeq (sWhile FUEL (eT (eVar 1)) (sSeq (sSet 3 (eFn m_pointed (eCons (eVar 0) (eCons (eVar 1) eNil)))) (sSeq (sSet 4 (eFn m_ring_in (eCons (eVar 3) (eCons (eOp dIx (eVar 1) (eC (.int 0))) eNil)))) (sSeq (sApp 2 (eCall gDictP (eCons (eComp (iSeq (eVar 4)) (tName 5) [5] tTrue (eFlat (eTup (eCons (eVar 5) (eCons (eOp dIx (eVar 3) (eVar 5)) eNil))))) eNil))) (sSeq (sSet 1 (eComp (iSeq (eVar 1)) (tName 5) [5] (eT (eOp dNotIn (eVar 5) (eVar 4))) (eFlat (eVar 5)))) .nx))))) (sSeq (sRet (eVar 2)) .nx))))
def m_rounds : List PyData → Res PyData := mkFn 1 6 g_rounds
def g_deal_of : Lo → Out := (sSeq (sSet 1 eDict0) (sSeq (sFor (iSeq (eFn m_rounds (eCons (eVar 0) eNil))) (tName 2) (sSeq (sForUpd 3 4 1 2) .nx)) (sSeq (sRet (eCall gTuple (eCons (eComp (iRange (eCons (eCall gLen (eCons (eVar 0) eNil)) eNil)) (tName 3) [3] tTrue (eFlat (eOp dIx (eVar 1) (eVar 3)))) eNil))) .nx)))
def m_deal_of : List PyData → Res PyData := mkFn 1 5 g_deal_of
def g_fair_deal : Lo → Out := (sSeq (sExpr (eFn m_checked_market (eCons (eVar 0) eNil))) (sSeq (sRet (eFn m_deal_of (eCons (eVar 0) eNil))) .nx))
def m_fair_deal : List PyData → Res PyData := mkFn 1 1 g_fair_deal
def g_breakers : Lo → Out := (sSeq (sExpr (eFn m_checked_market (eCons (eVar 0) eNil))) (sSeq (sIf (tOrB (tNotB (eT (eFn m_are_unlike (eCons (eVar 1) (eCons (eCall gLen (eCons (eVar 0) eNil)) eNil))))) (eT (eOp dNe (eCall gLen (eCons (eVar 1) eNil)) (eCall gLen (eCons (eVar 0) eNil))))) (sSeq (sRaise 1) .nx) .nx) (sSeq (sFor (iSeq (eFn m_rounds (eCons (eVar 0) eNil))) (tName 2) (sSeq (sSet 3 (eCall gSortedK (eCons (eVar 2) eNil))) (sSeq (sSet 4 (eComp (iSeq (eVar 3)) (tName 5) [5] tTrue (eFlat (eOp dIx (eVar 2) (eVar 5))))) (sSeq (sIf (eT (eOp dNe (eComp (iSeq (eVar 3)) (tName 5) [5] tTrue (eFlat (eOp dIx (eVar 1) (eVar 5)))) (eVar 4))) (sSeq (sRet (eFlat (eTup (eCons (eCall gTuple (eCons (eVar 3) eNil)) (eCons (eCall gTuple (eCons (eVar 4) eNil)) eNil))))) .nx) .nx) .nx)))) (sSeq (sRet (eC .none)) .nx))))
def m_breakers : List PyData → Res PyData := mkFn 2 6 g_breakers
def g_law_market : Lo → Out := (sSeq (sSet 2 (eOp dAdd (eC (.int 1)) (eOp dMod (eFn m_law_cell (eCons (eVar 0) (eCons (eVar 1) eNil))) (eC (.int 5))))) (sSeq (sRet (eCall gTuple (eCons (eComp (iRange (eCons (eVar 2) eNil)) (tName 3) [3] tTrue (eFn m_law_some (eCons (eOp dAdd (eFn m_law_cell (eCons (eVar 0) (eCons (eOp dAdd (eOp dAdd (eVar 1) (eC (.int 1))) (eVar 3)) eNil))) (eOp dMul (eOp dMul (eC (.int 11)) (eVar 3)) (eVar 3))) (eCons (eVar 2) (eCons (eC (.bool true)) eNil))))) eNil))) .nx))
def m_law_market : List PyData → Res PyData := mkFn 2 4 g_law_market
def g_law_deal : Lo → Out := (sSeq (sSet 1 (eListRg (eCall gLen (eCons (eVar 0) eNil)))) (sSeq (sSet 2 (eCall gListF (eCons (eVar 1) eNil))) (sSeq (sWhile FUEL (eT (eVar 1)) (sSeq (sSet 3 eDict0) (sSeq (sFor (iSeq (eVar 1)) (tName 4) (sSeq (sDPutD 3 (eOp dIx (eComp (iSeq (eOp dIx (eVar 0) (eVar 4))) (tName 8) [8] (eT (eOp dIn (eVar 8) (eVar 1))) (eFlat (eVar 8))) (eC (.int 0))) (eVar 4)) .nx)) (sSeq (sSet 5 (eOp dIx (eVar 1) (eNeg (eC (.int 1))))) (sSeq (sFor (iRange (eCons (eCall gLen (eCons (eVar 1) eNil)) eNil)) (tName 6) (sSeq (sSet 5 (eFlat (eOp dIx (eVar 3) (eVar 5)))) .nx)) (sSeq (sSet 7 (eLst (eCons (eFlat (eVar 5)) eNil))) (sSeq (sWhile FUEL (eT (eOp dNe (eOp dIx (eVar 3) (eOp dIx (eVar 7) (eNeg (eC (.int 1))))) (eVar 5))) (sSeq (sApp 7 (eFlat (eOp dIx (eVar 3) (eOp dIx (eVar 7) (eNeg (eC (.int 1))))))) .nx)) (sSeq (sFor (iSeq (eVar 7)) (tName 4) (sSeq (sPut 2 (eOp dIx (eVar 3) (eVar 4)) (eVar 4)) .nx)) (sSeq (sSet 1 (eComp (iSeq (eVar 1)) (tName 4) [4] (eT (eOp dNotIn (eVar 4) (eVar 7))) (eFlat (eVar 4)))) .nx))))))))) (sSeq (sRet (eCall gTuple (eCons (eVar 2) eNil))) .nx))))
def m_law_deal : List PyData → Res PyData := mkFn 1 9 g_law_deal
def g_law_told_k13 : Lo → Out := (sSeq (sTryAs 2 [1, 3] 5 (sSeq (sIf (eT (eOp dEq (eVar 1) (eC (.int 0)))) (sSeq (sExpr (eFn m_checked_market (eCons (eVar 0) eNil))) .nx) (sSeq (sIf (eT (eOp dEq (eVar 1) (eC (.int 1)))) (sSeq (sExpr (eFn m_fair_deal (eCons (eVar 0) eNil))) .nx) (sSeq (sExpr (eFn m_breakers (eCons (eVar 0) (eCons (eTup (eCons (eC (.int 0)) eNil)) eNil)))) .nx)) .nx)) .nx) (fun a d c z => (sSeq (sRet (eLst (eCons (eIsE c a d (under c 3) (eVar 2)) (eCons (eIsE c a d true (eVar 2)) eNil)))) .nx))) (sSeq (sRet (eLst eNil)) .nx))
def m_law_told_k13 : List PyData → Res PyData := mkFn 2 3 g_law_told_k13
def g_law_spoilt_k13 : Lo → Out := (sSeq (sSet 2 (eOp dMod (eFn m_law_cell (eCons (eVar 1) (eCons (eC (.int 1)) eNil))) (eCall gLen (eCons (eVar 0) eNil)))) (sSeq (sSet 3 (eOp dIx (eVar 0) (eVar 2))) (sSeq (sSet 4 (eLst (eCons (eFlat (eSl (eVar 3) (oSome (eC (.int 1))) oNone)) (eCons (eFlat (eOp dAdd (eVar 3) (eTup (eCons (eC (.int 0)) eNil)))) (eCons (eFrz (eCall gListF (eCons (eVar 3) eNil))) (eCons (eFlat (eOp dAdd (eSl (eVar 3) (oSome (eC (.int 1))) oNone) (eTup (eCons (eCall gLen (eCons (eVar 3) eNil)) eNil)))) (eCons (eFlat (eOp dAdd (eSl (eVar 3) (oSome (eC (.int 1))) oNone) (eTup (eCons (eNeg (eC (.int 1))) eNil)))) (eCons (eC .none) (eCons (eFlat (eOp dAdd (eSl (eVar 3) (oSome (eC (.int 1))) oNone) (eTup (eCons (eC (.bool true)) eNil)))) eNil))))))))) (sSeq (sSet 4 (eOp dAdd (eVar 4) (eLst (eCons (eFlat (eOp dAdd (eSl (eVar 3) (oSome (eC (.int 1))) oNone) (eTup (eCons (eC .none) eNil)))) (eCons (eFlat (eOp dAdd (eSl (eVar 3) (oSome (eC (.int 1))) oNone) (eTup (eCons (eC (.str "0")) eNil)))) (eCons (eFlat (eOp dAdd (eSl (eVar 3) (oSome (eC (.int 1))) oNone) (eTup (eCons (eFrz (eLst (eCons (eC (.int 0)) eNil))) eNil)))) (eCons (eOp dRep (eC (.str "0")) (eCall gLen (eCons (eVar 3) eNil))) eNil))))))) (sSeq (sSet 5 (eOp dAdd (eOp dAdd (eSl (eVar 0) oNone (oSome (eVar 2))) (eTup (eCons (eOp dIx (eVar 4) (eOp dMod (eFn m_law_cell (eCons (eVar 1) (eCons (eC (.int 2)) eNil))) (eC (.int 11)))) eNil))) (eSl (eVar 0) (oSome (eOp dAdd (eVar 2) (eC (.int 1)))) oNone))) (sSeq (sSet 6 (eLst (eCons (eFlat (eVar 5)) (eCons (eFlat (eVar 5)) (eCons (eFlat (eVar 5)) (eCons (eFrz (eCall gListF (eCons (eVar 0) eNil))) (eCons (eTup eNil) (eCons (eOp dRep (eTup (eCons (eTup (eCons (eC (.int 0)) (eCons (eC (.int 1)) (eCons (eC (.int 2)) (eCons (eC (.int 3)) (eCons (eC (.int 4)) (eCons (eC (.int 5)) eNil))))))) eNil)) (eC (.int 6))) (eCons (eC .none) eNil))))))))) (sSeq (sRet (eOp dIx (eVar 6) (eOp dMod (eFn m_law_cell (eCons (eVar 1) (eCons (eC (.int 3)) eNil))) (eC (.int 7))))) .nx)))))))
def m_law_spoilt_k13 : List PyData → Res PyData := mkFn 2 7 g_law_spoilt_k13
def g_law_k13 : Lo → Out := (sSeq (sSet 1 (eFn m_law_market (eCons (eVar 0) (eCons (eC (.int 4)) eNil)))) (sSeq (sIf (eT (eOp dEq (eOp dMod (eFn m_law_cell (eCons (eVar 0) (eCons (eC (.int 0)) eNil))) (eC (.int 3))) (eC (.int 0)))) (sSeq (sSet 2 (eFn m_law_spoilt_k13 (eCons (eVar 1) (eCons (eVar 0) eNil)))) (sSeq (sRet (eOp dEq (eComp (iRange (eCons (eC (.int 3)) eNil)) (tName 5) [5] (eT (eOp dNe (eFn m_law_told_k13 (eCons (eVar 2) (eCons (eVar 5) eNil))) (eLst (eCons (eC (.bool true)) (eCons (eC (.bool true)) eNil))))) (eFlat (eVar 5))) (eLst eNil))) .nx)) .nx) (sSeq (sSet 3 (eFn m_fair_deal (eCons (eVar 1) eNil))) (sSeq (sIf (tOrB (eT (eOp dNe (eFn m_checked_market (eCons (eVar 1) eNil)) (eVar 1))) (tOrB (tNotB (eT (eIsi isTup (eVar 3)))) (eT (eOp dNe (eVar 3) (eFn m_law_deal (eCons (eVar 1) eNil)))))) (sSeq (sRet (eC (.bool false))) .nx) .nx) (sSeq (sRet (eOp dEq (eComp (iRange (eCons (eCall gLen (eCons (eVar 1) eNil)) eNil)) (tName 4) [4] (eT (eOp dGt (eMeth dIndex (eOp dIx (eVar 1) (eVar 4)) (eOp dIx (eVar 3) (eVar 4))) (eMeth dIndex (eOp dIx (eVar 1) (eVar 4)) (eVar 4)))) (eFlat (eVar 4))) (eLst eNil))) .nx)))))
def m_law_k13 : List PyData → Res PyData := mkFn 1 6 g_law_k13
def g_law_told_k14 : Lo → Out := (sSeq (sTryAs 2 [1, 3] 5 (sSeq (sExpr (eFn m_breakers (eCons (eVar 0) (eCons (eVar 1) eNil)))) .nx) (fun a d c z => (sSeq (sRet (eLst (eCons (eIsE c a d (under c 1) (eVar 2)) (eCons (eIsE c a d true (eVar 2)) eNil)))) .nx))) (sSeq (sRet (eLst eNil)) .nx))
def m_law_told_k14 : List PyData → Res PyData := mkFn 2 3 g_law_told_k14
def g_law_breaks : Lo → Out := (sSeq (sIf (tOrB (eT (eOp dNe (eCall gSortedT (eCons (eVar 2) eNil)) (eCall gSortedT (eCons (eVar 3) eNil)))) (tNotB (eT (eVar 2)))) (sSeq (sRet (eC (.bool false))) .nx) .nx) (sSeq (sSet 4 (eC (.int 0))) (sSeq (sFor (iZipD (eVar 2) (eVar 3)) (tPair 5 6) (sSeq (sSet 7 (eMeth dIndex (eOp dIx (eVar 0) (eVar 5)) (eVar 6))) (sSeq (sSet 8 (eMeth dIndex (eOp dIx (eVar 0) (eVar 5)) (eOp dIx (eVar 1) (eVar 5)))) (sSeq (sIf (eT (eOp dGt (eVar 7) (eVar 8))) (sSeq (sRet (eC (.bool false))) .nx) .nx) (sSeq (sSet 4 (eOp dAdd (eVar 4) (eCall gInt (eCons (eOp dLt (eVar 7) (eVar 8)) eNil)))) .nx))))) (sSeq (sRet (eOp dGt (eVar 4) (eC (.int 0)))) .nx))))
def m_law_breaks : List PyData → Res PyData := mkFn 4 9 g_law_breaks
def g_law_k14 : Lo → Out := (sSeq (sSet 1 (eFn m_law_market (eCons (eVar 0) (eCons (eC (.int 3)) eNil)))) (sSeq (sSet 2 (eCall gLen (eCons (eVar 1) eNil))) (sSeq (sSet 3 (eFn m_law_some (eCons (eFn m_law_cell (eCons (eVar 0) (eCons (eC (.int 0)) eNil))) (eCons (eVar 2) (eCons (eC (.bool true)) eNil))))) (sSeq (sIf (eT (eOp dEq (eOp dMod (eFn m_law_cell (eCons (eVar 0) (eCons (eC (.int 0)) eNil))) (eC (.int 4))) (eC (.int 0)))) (sSeq (sSet 3 (eFn m_law_deal (eCons (eVar 1) eNil))) .nx) .nx) (sSeq (sSet 4 (eFn m_breakers (eCons (eVar 1) (eCons (eVar 3) eNil)))) (sSeq (sIf (eT (eOp dNe (eOp dIs (eVar 4) (eC .none)) (eOp dEq (eVar 3) (eFn m_law_deal (eCons (eVar 1) eNil))))) (sSeq (sRet (eC (.bool false))) .nx) .nx) (sSeq (sSet 5 (eLst (eCons (eFlat (eSl (eVar 3) (oSome (eC (.int 1))) oNone)) (eCons (eFlat (eOp dAdd (eVar 3) (eTup (eCons (eC (.int 0)) eNil)))) (eCons (eFrz (eCall gListF (eCons (eVar 3) eNil))) (eCons (eC .none) (eCons (eFlat (eOp dAdd (eSl (eVar 3) (oSome (eC (.int 1))) oNone) (eTup (eCons (eVar 2) eNil)))) (eCons (eFlat (eOp dAdd (eSl (eVar 3) (oSome (eC (.int 1))) oNone) (eTup (eCons (eNeg (eC (.int 1))) eNil)))) (eCons (eFlat (eOp dAdd (eSl (eVar 3) (oSome (eC (.int 1))) oNone) (eTup (eCons (eC (.bool true)) eNil)))) eNil))))))))) (sSeq (sSet 5 (eOp dAdd (eVar 5) (eLst (eCons (eFlat (eOp dAdd (eSl (eVar 3) (oSome (eC (.int 1))) oNone) (eTup (eCons (eC .none) eNil)))) (eCons (eFlat (eOp dAdd (eSl (eVar 3) (oSome (eC (.int 1))) oNone) (eTup (eCons (eC (.str "0")) eNil)))) (eCons (eFlat (eOp dAdd (eSl (eVar 3) (oSome (eC (.int 1))) oNone) (eTup (eCons (eFrz (eLst (eCons (eC (.int 0)) eNil))) eNil)))) (eCons (eOp dRep (eC (.str "0")) (eVar 2)) eNil))))))) (sSeq (sIf (eT (eOp dNe (eFn m_law_told_k14 (eCons (eVar 1) (eCons (eOp dIx (eVar 5) (eOp dMod (eFn m_law_cell (eCons (eVar 0) (eCons (eC (.int 1)) eNil))) (eC (.int 11)))) eNil))) (eLst (eCons (eC (.bool true)) (eCons (eC (.bool true)) eNil))))) (sSeq (sRet (eC (.bool false))) .nx) .nx) (sSeq (sSet 6 (eFn m_law_some (eCons (eFn m_law_cell (eCons (eVar 0) (eCons (eC (.int 1)) eNil))) (eCons (eVar 2) (eCons (eC (.bool false)) eNil))))) (sSeq (sSet 7 (eOp dAdd (eSl (eVar 6) (oSome (eOp dMod (eFn m_law_cell (eCons (eVar 0) (eCons (eC (.int 2)) eNil))) (eC (.int 5)))) oNone) (eSl (eVar 6) oNone (oSome (eOp dMod (eFn m_law_cell (eCons (eVar 0) (eCons (eC (.int 2)) eNil))) (eC (.int 5))))))) (sSeq (sIf (eT (eOp dIs (eVar 4) (eC .none))) (sSeq (sRet (eAnd (eNot (eFn m_law_breaks (eCons (eVar 1) (eCons (eVar 3) (eCons (eVar 6) (eCons (eVar 7) eNil)))))) (eOp dEq (eFn m_fair_deal (eCons (eVar 1) eNil)) (eVar 3)))) .nx) .nx) (sSeq (sIf (tOrB (tNotB (eT (eIsi isTup (eVar 4)))) (tOrB (eT (eOp dNe (eCall gLen (eCons (eVar 4) eNil)) (eC (.int 2)))) (tNotB (eT (eIsi isTup (eOp dIx (eVar 4) (eC (.int 0)))))))) (sSeq (sRet (eC (.bool false))) .nx) .nx) (sSeq (sIf (eT (eOp dNe (eCall gList (eCons (eOp dIx (eVar 4) (eC (.int 0))) eNil)) (eSortSet (eOp dIx (eVar 4) (eC (.int 0)))))) (sSeq (sRet (eC (.bool false))) .nx) .nx) (sSeq (sRet (eAnd (eIsi isTup (eOp dIx (eVar 4) (eC (.int 1)))) (eFn m_law_breaks (eCons (eVar 1) (eCons (eVar 3) (eCons (eOp dIx (eVar 4) (eC (.int 0))) (eCons (eOp dIx (eVar 4) (eC (.int 1))) eNil))))))) .nx)))))))))))))))
def m_law_k14 : List PyData → Res PyData := mkFn 1 8 g_law_k14
def g_is_house : Lo → Out := (sSeq (sIf (tOrB (tNotB (eT (eIsi isTup (eVar 0)))) (eT (eOp dNe (eCall gLen (eCons (eVar 0) eNil)) (eC (.int 2))))) (sSeq (sRet (eC (.bool false))) .nx) .nx) (sSeq (sRet (eAnd (eFn m_is_within (eCons (eOp dIx (eVar 0) (eC (.int 0))) (eCons (eC (.int 0)) (eCons (eC (.int 5)) eNil)))) (eFn m_are_unlike (eCons (eOp dIx (eVar 0) (eC (.int 1))) (eCons (eVar 1) eNil))))) .nx))
def m_is_house : List PyData → Res PyData := mkFn 2 2 g_is_house
def g_is_frame : Lo → Out := (sSeq (sIf (tOrB (tNotB (eT (eIsi isTup (eVar 0)))) (eT (eOp dNe (eCall gLen (eCons (eVar 0) eNil)) (eC (.int 2))))) (sSeq (sRet (eC (.bool false))) .nx) .nx) (sSeq (sFor (iSeq (eVar 0)) (tName 1) (sSeq (sIf (tOrB (tNotB (eT (eIsi isTup (eVar 1)))) (tNotB (eT (eChain dLe dLe (eC (.int 1)) (eCall gLen (eCons (eVar 1) eNil)) (eC (.int 5)))))) (sSeq (sRet (eC (.bool false))) .nx) .nx) .nx)) (sSeq (sRet (eC (.bool true))) .nx)))
def m_is_frame : List PyData → Res PyData := mkFn 1 2 g_is_frame
def g_checked : Lo → Out := (sSeq (sIf (tNotB (eT (eFn m_is_frame (eCons (eVar 0) eNil)))) (sSeq sBad .nx) .nx) (sSeq (sAsgT (tPair 1 2) (eVar 0)) (sSeq (sFor (iEnumD (eVar 1)) (tPair 3 4) (sSeq (sIf (tNotB (eT (eFn m_are_unlike (eCons (eVar 4) (eCons (eCall gLen (eCons (eVar 2) eNil)) eNil))))) (sSeq sBad .nx) .nx) .nx)) (sSeq (sFor (iEnumD (eVar 2)) (tPair 5 6) (sSeq (sIf (tNotB (eT (eFn m_is_house (eCons (eVar 6) (eCons (eCall gLen (eCons (eVar 1) eNil)) eNil))))) (sSeq sBad .nx) .nx) .nx)) (sSeq (sRet (eFlat (eVar 0))) .nx)))))
def m_checked : List PyData → Res PyData := mkFn 1 7 g_checked
def g_line : Lo → Out := (sSeq (sRet (eOp dAdd (eM1 joinD (eC (.str " ")) (eOp dAdd (eLst (eCons (eVar 0) eNil)) (eComp (iSeq (eVar 1)) (tName 2) [2] tTrue (eCall gStr (eCons (eVar 2) eNil))))) (eC (.str "\n")))) .nx)
def m_line : List PyData → Res PyData := mkFn 2 3 g_line
def g_shown : Lo → Out := (sSeq (sSet 1 (eM1 joinD (eC (.str "")) (eComp (iSeq (eOp dIx (eVar 0) (eC (.int 0)))) (tName 2) [2] tTrue (eFn m_line (eCons (eC (.str "guest")) (eCons (eVar 2) eNil)))))) (sSeq (sRet (eOp dAdd (eVar 1) (eM1 joinD (eC (.str "")) (eComp (iSeq (eOp dIx (eVar 0) (eC (.int 1)))) (tPair 3 4) [3, 4] tTrue (eFn m_line (eCons (eC (.str "house")) (eCons (eOp dAdd (eTup (eCons (eVar 3) eNil)) (eVar 4)) eNil))))))) .nx))
def m_shown : List PyData → Res PyData := mkFn 1 5 g_shown
def g_number_read : Lo → Out := (sSeq (sIf (tOrB (eT (eOp dNe (eCall gLen (eCons (eVar 0) eNil)) (eC (.int 1)))) (eT (eOp dNotInS (eVar 0) (eC (.str "0123456789"))))) (sSeq (sRaise 4) .nx) .nx) (sSeq (sRet (eCall gInt (eCons (eVar 0) eNil))) .nx))
def m_number_read : List PyData → Res PyData := mkFn 1 1 g_number_read
def g_read : Lo → Out := (sSeq (sIf (tOrB (tNotB (eT (eIsi isStr (eVar 0)))) (tNotB (eT (eM1 endsD (eVar 0) (eC (.str "\n")))))) (sSeq (sRaise 4) .nx) .nx) (sSeq (sSet 1 (eLst eNil)) (sSeq (sSet 2 (eLst eNil)) (sSeq (sFor (iSeq (eM1 splitD (eSl (eVar 0) oNone (oSome (eNeg (eC (.int 1))))) (eC (.str "\n")))) (tName 3) (sSeq (sSet 4 (eM1 splitD (eVar 3) (eC (.str " ")))) (sSeq (sSet 5 (eCall gTuple (eCons (eComp (iSeq (eSl (eVar 4) (oSome (eC (.int 1))) oNone)) (tName 6) [6] tTrue (eFn m_number_read (eCons (eVar 6) eNil))) eNil))) (sSeq (sIf (tAndB (eT (eOp dEq (eOp dIx (eVar 4) (eC (.int 0))) (eC (.str "guest")))) (tNotB (eT (eVar 2)))) (sSeq (sApp 1 (eFlat (eVar 5))) .nx) (sSeq (sIf (tAndB (eT (eOp dEq (eOp dIx (eVar 4) (eC (.int 0))) (eC (.str "house")))) (eT (eVar 5))) (sSeq (sApp 2 (eFlat (eTup (eCons (eOp dIx (eVar 5) (eC (.int 0))) (eCons (eSl (eVar 5) (oSome (eC (.int 1))) oNone) eNil))))) .nx) (sSeq (sRaise 4) .nx)) .nx)) .nx)))) (sSeq (sTryN (sSeq (sRet (eFn m_checked (eCons (eTup (eCons (eCall gTuple (eCons (eVar 1) eNil)) (eCons (eCall gTuple (eCons (eVar 2) eNil)) eNil))) eNil))) .nx)) .nx)))))
def m_read : List PyData → Res PyData := mkFn 1 7 g_read
def g_law_shown : Lo → Out := (sSeq (sSet 1 (eC (.str ""))) (sSeq (sFor (iSeq (eOp dIx (eVar 0) (eC (.int 0)))) (tName 2) (sSeq (sSet 1 (eFlat (eOp dAdd (eOp dAdd (eVar 1) (eM1 joinD (eC (.str " ")) (eOp dAdd (eLst (eCons (eC (.str "guest")) eNil)) (eComp (iSeq (eVar 2)) (tName 5) [5] tTrue (eCall gStr (eCons (eVar 5) eNil)))))) (eC (.str "\n"))))) .nx)) (sSeq (sFor (iSeq (eOp dIx (eVar 0) (eC (.int 1)))) (tPair 3 4) (sSeq (sSet 1 (eFlat (eOp dAdd (eOp dAdd (eVar 1) (eM1 joinD (eC (.str " ")) (eOp dAdd (eLst (eCons (eC (.str "house")) (eCons (eCall gStr (eCons (eVar 3) eNil)) eNil))) (eComp (iSeq (eVar 4)) (tName 6) [6] tTrue (eCall gStr (eCons (eVar 6) eNil)))))) (eC (.str "\n"))))) .nx)) (sSeq (sRet (eVar 1)) .nx))))
def m_law_shown : List PyData → Res PyData := mkFn 1 7 g_law_shown
def g_law_k15 : Lo → Out := (sSeq (sSet 1 (eFn m_law_fair (eCons (eVar 0) (eCons (eC (.int 0)) eNil)))) (sSeq (sSet 2 (eFn m_shown (eCons (eVar 1) eNil))) (sSeq (sSet 3 (eFn m_law_shown (eCons (eVar 1) eNil))) (sSeq (sSet 4 (eFn m_read (eCons (eVar 3) eNil))) (sSeq (sRet (eAnd (eIsi isStr (eVar 2)) (eAnd (eOp dEq (eVar 2) (eVar 3)) (eAnd (eIsi isTup (eVar 4)) (eOp dEq (eVar 4) (eVar 1)))))) .nx)))))
def m_law_k15 : List PyData → Res PyData := mkFn 1 5 g_law_k15
def g_law_lists : Lo → Out := (sSeq (sSet 3 (eComp (iRange (eCons (eCall gLen (eCons (eOp dIx (eVar 0) (eC (.int 0))) eNil)) eNil)) (tName 4) [4] tTrue (eFn m_choices (eCons (eVar 0) (eCons (eVar 4) eNil))))) (sSeq (sRet (eOp dAdd (eVar 3) (eLst (eCons (eFn m_spoilers (eCons (eVar 0) (eCons (eVar 1) eNil))) (eCons (eFn m_all_steady (eCons (eVar 0) eNil)) (eCons (eFn m_asked (eCons (eVar 0) (eCons (eVar 2) eNil))) eNil)))))) .nx))
def m_law_lists : List PyData → Res PyData := mkFn 3 5 g_law_lists
def g_law_k17 : Lo → Out := (sSeq (sSet 1 (eFn m_law_fair (eCons (eVar 0) (eCons (eC (.int 4)) eNil)))) (sSeq (sSet 2 (eFn m_law_lodging (eCons (eVar 1) (eCons (eVar 0) (eCons (eC (.int 0)) eNil))))) (sSeq (sSet 3 (eListRev (eCall gLen (eCons (eOp dIx (eVar 1) (eC (.int 0))) eNil)))) (sSeq (sSet 4 (eFn m_law_lists (eCons (eVar 1) (eCons (eVar 2) (eCons (eVar 3) eNil))))) (sSeq (sSet 5 (eComp (iSeq (eVar 4)) (tName 6) [6] tTrue (eCall gListF (eCons (eVar 6) eNil)))) (sSeq (sForClr 6 4) (sSeq (sRet (eAnd (eOp dEq (eFn m_law_lists (eCons (eVar 1) (eCons (eVar 2) (eCons (eVar 3) eNil)))) (eVar 5)) (eOp dEq (eVar 3) (eListRev (eCall gLen (eCons (eOp dIx (eVar 1) (eC (.int 0))) eNil)))))) .nx)))))))
def m_law_k17 : List PyData → Res PyData := mkFn 1 7 g_law_k17
def g_checked_k18 : Lo → Out := (sSeq (sIf (tNotB (eT (eFn m_is_frame (eCons (eVar 0) eNil)))) (sSeq (sRaiseAt (eC .none)) .nx) .nx) (sSeq (sAsgT (tPair 1 2) (eVar 0)) (sSeq (sFor (iEnumD (eVar 1)) (tPair 3 4) (sSeq (sIf (tNotB (eT (eFn m_are_unlike (eCons (eVar 4) (eCons (eCall gLen (eCons (eVar 2) eNil)) eNil))))) (sSeq (sRaiseAt (eTup (eCons (eC (.str "guest")) (eCons (eVar 3) eNil)))) .nx) .nx) .nx)) (sSeq (sFor (iEnumD (eVar 2)) (tPair 5 6) (sSeq (sIf (tNotB (eT (eFn m_is_house (eCons (eVar 6) (eCons (eCall gLen (eCons (eVar 1) eNil)) eNil))))) (sSeq (sRaiseAt (eTup (eCons (eC (.str "house")) (eCons (eVar 5) eNil)))) .nx) .nx) .nx)) (sSeq (sRet (eFlat (eVar 0))) .nx)))))
def m_checked_k18 : List PyData → Res PyData := mkFn 1 7 g_checked_k18
def g_read_k18 : Lo → Out := (sSeq (sIf (tOrB (tNotB (eT (eIsi isStr (eVar 0)))) (tNotB (eT (eM1 endsD (eVar 0) (eC (.str "\n")))))) (sSeq (sRaise 4) .nx) .nx) (sSeq (sSet 1 (eLst eNil)) (sSeq (sSet 2 (eLst eNil)) (sSeq (sFor (iSeq (eM1 splitD (eSl (eVar 0) oNone (oSome (eNeg (eC (.int 1))))) (eC (.str "\n")))) (tName 3) (sSeq (sSet 4 (eM1 splitD (eVar 3) (eC (.str " ")))) (sSeq (sSet 5 (eCall gTuple (eCons (eComp (iSeq (eSl (eVar 4) (oSome (eC (.int 1))) oNone)) (tName 6) [6] tTrue (eFn m_number_read (eCons (eVar 6) eNil))) eNil))) (sSeq (sIf (tAndB (eT (eOp dEq (eOp dIx (eVar 4) (eC (.int 0))) (eC (.str "guest")))) (tNotB (eT (eVar 2)))) (sSeq (sApp 1 (eFlat (eVar 5))) .nx) (sSeq (sIf (tAndB (eT (eOp dEq (eOp dIx (eVar 4) (eC (.int 0))) (eC (.str "house")))) (eT (eVar 5))) (sSeq (sApp 2 (eFlat (eTup (eCons (eOp dIx (eVar 5) (eC (.int 0))) (eCons (eSl (eVar 5) (oSome (eC (.int 1))) oNone) eNil))))) .nx) (sSeq (sRaise 4) .nx)) .nx)) .nx)))) (sSeq (sTryN (sSeq (sRet (eFn m_checked_k18 (eCons (eTup (eCons (eCall gTuple (eCons (eVar 1) eNil)) (eCons (eCall gTuple (eCons (eVar 2) eNil)) eNil))) eNil))) .nx)) .nx)))))
def m_read_k18 : List PyData → Res PyData := mkFn 1 7 g_read_k18
def g_law_deed : Lo → Out := (sSeq (sSet 1 (eTup (eCons (eTup (eCons (eTup (eCons (eC (.int 0)) eNil)) eNil)) (eCons (eTup (eCons (eTup (eCons (eC (.int 1)) (eCons (eTup (eCons (eC (.int 0)) eNil)) eNil))) eNil)) eNil)))) (sSeq (sIf (eT (eOp dEq (eVar 0) (eC (.int 0)))) (sSeq (sRet (eFn m_checked_k18 (eCons (eC .none) eNil))) .nx) .nx) (sSeq (sIf (eT (eOp dEq (eVar 0) (eC (.int 1)))) (sSeq (sRet (eFn m_checked_lodging (eCons (eVar 1) (eCons (eTup (eCons (eC (.int 1)) eNil)) eNil)))) .nx) .nx) (sSeq (sIf (eT (eOp dEq (eVar 0) (eC (.int 2)))) (sSeq (sRet (eFn m_picked (eCons (eVar 1) (eCons (eTup (eCons (eC (.int 1)) eNil)) eNil)))) .nx) .nx) (sSeq (sIf (eT (eOp dEq (eVar 0) (eC (.int 3)))) (sSeq (sRet (eFn m_fair_deal (eCons (eTup eNil) eNil))) .nx) .nx) (sSeq (sRet (eFn m_read_k18 (eCons (eC (.str "")) eNil))) .nx))))))
def m_law_deed : List PyData → Res PyData := mkFn 1 2 g_law_deed
def g_law_kinds_of : Lo → Out := (sSeq (sSet 1 (eLst eNil)) (sSeq (sTryAs 2 [0, 1, 2, 3, 4] 5 (sSeq (sExpr (eFn m_law_deed (eCons (eVar 0) eNil))) .nx) (fun a d c z => (sSeq (sSet 1 (eLst (eCons (eIsE c a d (under c 0) (eVar 2)) (eCons (eIsE c a d (under c 1) (eVar 2)) (eCons (eIsE c a d (under c 2) (eVar 2)) (eCons (eIsE c a d (under c 3) (eVar 2)) eNil)))))) (sSeq (sSet 1 (eFlatF (eOp dAdd (eVar 1) (eLst (eCons (eIsE c a d (under c 4) (eVar 2)) eNil))))) .nx)))) (sSeq (sRet (eVar 1)) .nx)))
def m_law_kinds_of : List PyData → Res PyData := mkFn 1 3 g_law_kinds_of
def g_law_k18 : Lo → Out := (sSeq (sSet 1 (eOp dMod (eFn m_law_cell (eCons (eVar 0) (eCons (eC (.int 0)) eNil))) (eC (.int 5)))) (sSeq (sRet (eOp dEq (eFn m_law_kinds_of (eCons (eVar 1) eNil)) (eComp (iRange (eCons (eC (.int 5)) eNil)) (tName 2) [2] tTrue (eOp dEq (eVar 2) (eVar 1))))) .nx))
def m_law_k18 : List PyData → Res PyData := mkFn 1 3 g_law_k18
def g_law_told_k01 : Lo → Out := (sSeq (sSet 1 (eC (.int 0))) (sSeq (sSet 2 (eLst eNil)) (sSeq (sTryAs 3 [0] 5 (sSeq (sExpr (eFn m_checked_k18 (eCons (eVar 0) eNil))) .nx) (fun a d c z => (sSeq (sSet 2 (eLst (eCons (eIsE c a d (under c 0) (eVar 3)) (eCons (eIsE c a d true (eVar 3)) eNil)))) (sSeq (sIf (eT (eOp dIx0 (eVar 2) (eC (.int 0)))) (sSeq (sSet 1 (eAt c a d (eVar 3))) .nx) .nx) .nx)))) (sSeq (sRet (eTup (eCons (eVar 2) (eCons (eFlat (eVar 1)) eNil)))) .nx))))
def m_law_told_k01 : List PyData → Res PyData := mkFn 1 4 g_law_told_k01
def g_law_frame : Lo → Out := (sSeq (sAsgT (tPair 2 3) (eVar 0)) (sSeq (sSet 4 (eLst (eCons (eFrz (eLst (eCons (eFlat (eVar 2)) (eCons (eFlat (eVar 3)) eNil)))) (eCons (eFlat (eTup (eCons (eVar 2) eNil))) (eCons (eFlat (eTup (eCons (eFrz (eCall gListF (eCons (eVar 2) eNil))) (eCons (eVar 3) eNil)))) (eCons (eFlat (eTup (eCons (eVar 2) (eCons (eFrz (eCall gListF (eCons (eVar 3) eNil))) eNil)))) (eCons (eFlat (eTup (eCons (eTup eNil) (eCons (eVar 3) eNil)))) (eCons (eFlat (eTup (eCons (eVar 2) (eCons (eTup eNil) eNil)))) eNil)))))))) (sSeq (sRet (eOp dIx (eOp dAdd (eVar 4) (eLst (eCons (eFlat (eTup (eCons (eOp dRep (eTup (eCons (eTup eNil) eNil)) (eC (.int 6))) (eCons (eVar 3) eNil)))) (eCons (eFlat (eTup (eCons (eVar 2) (eCons (eOp dRep (eTup (eCons (eTup (eCons (eC (.int 0)) (eCons (eTup eNil) eNil))) eNil)) (eC (.int 6))) eNil)))) (eCons (eC .none) (eCons (eC (.str "fair")) eNil)))))) (eOp dMod (eVar 1) (eC (.int 10))))) .nx)))
def m_law_frame : List PyData → Res PyData := mkFn 2 5 g_law_frame
def g_law_wish : Lo → Out := (sSeq (sSet 3 (eLst (eCons (eFrz (eCall gListF (eCons (eVar 0) eNil))) (eCons (eFlat (eOp dAdd (eVar 0) (eTup (eCons (eVar 1) eNil)))) (eCons (eFlat (eOp dAdd (eVar 0) (eTup (eCons (eNeg (eC (.int 1))) eNil)))) (eCons (eFlat (eOp dAdd (eVar 0) (eTup (eCons (eC (.bool true)) eNil)))) (eCons (eFlat (eOp dAdd (eVar 0) (eTup (eCons (eC (.str "0")) eNil)))) (eCons (eTup (eCons (eC (.int 0)) (eCons (eC (.int 0)) eNil))) (eCons (eC .none) (eCons (eC (.int 0)) eNil)))))))))) (sSeq (sRet (eOp dIx (eVar 3) (eOp dMod (eVar 2) (eC (.int 8))))) .nx))
def m_law_wish : List PyData → Res PyData := mkFn 3 4 g_law_wish
def g_law_house : Lo → Out := (sSeq (sAsgT (tPair 3 4) (eVar 0)) (sSeq (sSet 5 (eLst (eCons (eFrz (eLst (eCons (eFlat (eVar 3)) (eCons (eFlat (eVar 4)) eNil)))) (eCons (eFlat (eTup (eCons (eVar 3) eNil))) (eCons (eFlat (eTup (eCons (eC (.int 6)) (eCons (eVar 4) eNil)))) (eCons (eFlat (eTup (eCons (eNeg (eC (.int 1))) (eCons (eVar 4) eNil)))) (eCons (eFlat (eTup (eCons (eC (.bool true)) (eCons (eVar 4) eNil)))) (eCons (eFlat (eTup (eCons (eC (.str "1")) (eCons (eVar 4) eNil)))) (eCons (eFlat (eTup (eCons (eVar 3) (eCons (eFrz (eCall gListF (eCons (eVar 4) eNil))) eNil)))) (eCons (eFlat (eTup (eCons (eVar 3) (eCons (eTup (eCons (eC (.int 0)) (eCons (eC (.int 0)) eNil))) eNil)))) eNil)))))))))) (sSeq (sRet (eOp dIx (eOp dAdd (eVar 5) (eLst (eCons (eFlat (eTup (eCons (eVar 3) (eCons (eOp dAdd (eVar 4) (eTup (eCons (eVar 1) eNil))) eNil)))) (eCons (eFlat (eTup (eCons (eVar 3) (eCons (eOp dAdd (eVar 4) (eTup (eCons (eNeg (eC (.int 1))) eNil))) eNil)))) (eCons (eC .none) (eCons (eFlat (eTup (eCons (eVar 3) (eCons (eVar 4) (eCons (eC (.int 0)) eNil))))) eNil)))))) (eOp dMod (eVar 2) (eC (.int 12))))) .nx)))
def m_law_house : List PyData → Res PyData := mkFn 3 6 g_law_house
def g_law_bad : Lo → Out := (sSeq (sSet 2 (eCall gListF (eCons (eOp dIx (eVar 0) (eC (.int 0))) eNil))) (sSeq (sSet 3 (eCall gListF (eCons (eOp dIx (eVar 0) (eC (.int 1))) eNil))) (sSeq (sSet 4 (eFn m_law_cell (eCons (eVar 1) (eCons (eC (.int 2)) eNil)))) (sSeq (sSet 5 (eOp dMod (eFn m_law_cell (eCons (eVar 1) (eCons (eC (.int 3)) eNil))) (eCall gLen (eCons (eVar 2) eNil)))) (sSeq (sSet 6 (eOp dMod (eFn m_law_cell (eCons (eVar 1) (eCons (eC (.int 4)) eNil))) (eCall gLen (eCons (eVar 3) eNil)))) (sSeq (sIf (eT (eOp dEq (eOp dMod (eFn m_law_cell (eCons (eVar 1) (eCons (eC (.int 1)) eNil))) (eC (.int 2))) (eC (.int 0)))) (sSeq (sPut 2 (eFn m_law_wish (eCons (eOp dIx (eVar 2) (eVar 5)) (eCons (eCall gLen (eCons (eVar 3) eNil)) (eCons (eVar 4) eNil)))) (eVar 5)) (sSeq (sIf (eT (eOp dEq (eOp dMod (eVar 4) (eC (.int 3))) (eC (.int 0)))) (sSeq (sPut 3 (eFn m_law_house (eCons (eOp dIx (eVar 3) (eVar 6)) (eCons (eCall gLen (eCons (eVar 2) eNil)) (eCons (eOp dDiv (eVar 4) (eC (.int 3))) eNil)))) (eVar 6)) .nx) .nx) (sSeq (sRet (eTup (eCons (eTup (eCons (eCall gTuple (eCons (eVar 2) eNil)) (eCons (eCall gTuple (eCons (eVar 3) eNil)) eNil))) (eCons (eTup (eCons (eC (.str "guest")) (eCons (eVar 5) eNil))) eNil)))) .nx))) .nx) (sSeq (sPut 3 (eFn m_law_house (eCons (eOp dIx (eVar 3) (eVar 6)) (eCons (eCall gLen (eCons (eVar 2) eNil)) (eCons (eVar 4) eNil)))) (eVar 6)) (sSeq (sIf (tAndB (eT (eOp dLt (eOp dAdd (eVar 6) (eC (.int 1))) (eCall gLen (eCons (eVar 3) eNil)))) (eT (eOp dEq (eOp dMod (eVar 4) (eC (.int 5))) (eC (.int 0))))) (sSeq (sPut 3 (eC .none) (eNeg (eC (.int 1)))) .nx) .nx) (sSeq (sRet (eTup (eCons (eTup (eCons (eCall gTuple (eCons (eVar 2) eNil)) (eCons (eCall gTuple (eCons (eVar 3) eNil)) eNil))) (eCons (eTup (eCons (eC (.str "house")) (eCons (eVar 6) eNil))) eNil)))) .nx)))))))))
def m_law_bad : List PyData → Res PyData := mkFn 2 7 g_law_bad
def g_law_k01 : Lo → Out := (sSeq (sSet 1 (eFn m_law_fair (eCons (eVar 0) (eCons (eC (.int 5)) eNil)))) (sSeq (sSet 2 (eOp dMod (eFn m_law_cell (eCons (eVar 0) (eCons (eC (.int 0)) eNil))) (eC (.int 4)))) (sSeq (sIf (eT (eOp dLt (eVar 2) (eC (.int 2)))) (sSeq (sRet (eAnd (eOp dEq (eFn m_checked_k18 (eCons (eVar 1) eNil)) (eVar 1)) (eOp dEq (eFn m_law_told_k01 (eCons (eVar 1) eNil)) (eTup (eCons (eLst eNil) (eCons (eC (.int 0)) eNil)))))) .nx) .nx) (sSeq (sIf (eT (eOp dEq (eVar 2) (eC (.int 2)))) (sSeq (sRet (eOp dEq (eFn m_law_told_k01 (eCons (eFn m_law_frame (eCons (eVar 1) (eCons (eFn m_law_cell (eCons (eVar 0) (eCons (eC (.int 1)) eNil))) eNil))) eNil)) (eTup (eCons (eLst (eCons (eC (.bool true)) (eCons (eC (.bool true)) eNil))) (eCons (eC .none) eNil))))) .nx) .nx) (sSeq (sAsgT (tPair 3 4) (eFn m_law_bad (eCons (eVar 1) (eCons (eVar 0) eNil)))) (sSeq (sRet (eOp dEq (eFn m_law_told_k01 (eCons (eVar 3) eNil)) (eTup (eCons (eLst (eCons (eC (.bool true)) (eCons (eC (.bool true)) eNil))) (eCons (eVar 4) eNil))))) .nx))))))
def m_law_k01 : List PyData → Res PyData := mkFn 1 5 g_law_k01
end GS
end

set_option Elab.async false
set_option linter.all false
set_option maxRecDepth 100000
namespace MA
open PySem PySem.Spec L2 PV GS
open PyProof.Rows hiding St
theorem nr {α : Sort _} {a b : α} (h : a = b) : a = b := h
def encN (n : Nat) : PyData := .int n
/-! ### the combinators, unfolded -/
section
variable {α β : Type}
@[simp] theorem bind_ok (a : α) (g : α → Res β) : (Res.ok a).bind g = g a := nr rfl
@[simp] theorem bind_bad (g : α → Res β) : (Res.bad : Res α).bind g = .bad := nr rfl
@[simp] theorem bind_exc (c x) (g : α → Res β) : (Res.exc c x : Res α).bind g = .exc c x := nr rfl
@[simp] theorem of_some (a : α) : Res.of (some a) = .ok a := nr rfl
@[simp] theorem of_none : (Res.of none : Res α) = .bad := nr rfl
@[simp] theorem out_ok (a : α) (env g) : (Res.ok a).out env g = g a := nr rfl
@[simp] theorem out_exc (c x env) (g : α → Out) : (Res.exc c x : Res α).out env g = .ex env c x := nr rfl
@[simp] theorem out_bad (env) (g : α → Out) : (Res.bad : Res α).out env g = .bad := nr rfl
@[simp] theorem seq_nx (e g) : (Out.nx e).seq g = g e := nr rfl
@[simp] theorem seq_rt (e g) : (Out.rt e).seq g = .rt e := nr rfl
@[simp] theorem seq_ct (e g) : (Out.ct e).seq g = .ct e := nr rfl
@[simp] theorem seq_ex (e c x g) : (Out.ex e c x).seq g = .ex e c x := nr rfl
@[simp] theorem seq_bad (g) : (Out.bad).seq g = .bad := nr rfl
end
variable (env : Lo)
@[simp] theorem eVar_d (i) : eVar i env = match env[i]? with | some (some d) => .ok d | _ => .bad := nr rfl
@[simp] theorem eC_d (d) : eC d env = .ok d := nr rfl
@[simp] theorem eNil_d : eNil env = .ok [] := nr rfl
@[simp] theorem eCons_d (f g) : eCons f g env = (f env).bind fun d => (g env).bind fun ds => .ok (d :: ds) := nr rfl
@[simp] theorem eTup_d (f) : eTup f env = (f env).bind fun ds => if ds.length ≤ 1000 then .ok (.tuple ds) else .bad := nr rfl
@[simp] theorem eLst_d (f) : eLst f env = (f env).bind fun ds => if ds.length ≤ 1000 then .ok (.list ds) else .bad := nr rfl
@[simp] theorem eOp_d (g fa fb) : eOp g fa fb env = (fa env).bind fun x => (fb env).bind fun y => .of (g x y) := nr rfl
@[simp] theorem eAnd_d (fa fb) : eAnd fa fb env = (fa env).bind fun x => (Res.of (truD x)).bind fun k => if k then fb env else .ok x := nr rfl
@[simp] theorem eOr_d (fa fb) : eOr fa fb env = (fa env).bind fun x => (Res.of (truD x)).bind fun k => if k then .ok x else fb env := nr rfl
@[simp] theorem eNot_d (fa) : eNot fa env = (fa env).bind fun x => (Res.of (truD x)).bind fun k => .ok (.bool (!k)) := nr rfl
@[simp] theorem eFlat_d (f) : eFlat f env = (f env).bind fun d => if flat d then .ok d else .bad := nr rfl
@[simp] theorem eNeg_d (f) : eNeg f env = (f env).bind fun x => .of (dNeg x) := nr rfl
@[simp] theorem eChain_d (g g' fa fb fc) : eChain g g' fa fb fc env = (fa env).bind fun x => (fb env).bind fun y => (Res.of (g x y)).bind fun z => match z with
  | .bool true => (fc env).bind fun w => .of (g' y w)
  | .bool false => .ok (.bool false)
  | _ => .bad := nr rfl
@[simp] theorem eT_d (f) : eT f env = (f env).bind fun x => .of (truD x) := nr rfl
@[simp] theorem tNotB_d (f) : tNotB f env = (f env).bind fun k => .ok (!k) := nr rfl
@[simp] theorem tAndB_d (f g) : tAndB f g env = (f env).bind fun k => if k then g env else .ok false := nr rfl
@[simp] theorem tOrB_d (f g) : tOrB f g env = (f env).bind fun k => if k then .ok true else g env := nr rfl
@[simp] theorem oNone_d : oNone env = .ok none := nr rfl
@[simp] theorem oSome_d (f) : oSome f env = (f env).bind fun d => match d with | .int i => .ok (some i) | _ => .bad := nr rfl
@[simp] theorem eSl_d (fa fl fh) : eSl fa fl fh env = (fa env).bind fun d => (fl env).bind fun lo => (fh env).bind fun hi => .of (dSl d lo hi) := nr rfl
@[simp] theorem eCall_d (g fs) : eCall g fs env = (fs env).bind fun ds => .of (g ds) := nr rfl
@[simp] theorem eFn_d (fn fs) : eFn fn fs env = (fs env).bind fn := nr rfl
@[simp] theorem eIsi_d (t f) : eIsi t f env = (f env).bind fun d => if nxc d then .ok (.bool (t d)) else .bad := nr rfl
@[simp] theorem eMeth_d (g fa f) : eMeth g fa f env = (fa env).bind fun s => if isSeqD s then (f env).bind fun x => .of (g s x) else .bad := nr rfl
@[simp] theorem eListRg_d (f) : eListRg f env = ((f env).bind fun d => intOf [d]).bind fun n => .ok (.list ((List.range n.toNat).map encN)) := nr rfl
@[simp] theorem sSeq_d (g1 g2) : sSeq g1 g2 env = (g1 env).seq g2 := nr rfl
@[simp] theorem sRet_d (f) : sRet f env = (f env).out env fun d => .rt d := nr rfl
@[simp] theorem sExpr_d (f) : sExpr f env = (f env).out env fun _ => .nx env := nr rfl
@[simp] theorem sIf_d (t g1 g2) : sIf t g1 g2 env = (t env).out env fun b => if b then g1 env else g2 env := nr rfl
@[simp] theorem sSet_d (i f) : sSet i f env = (f env).out env fun d => if i < env.length then .nx (env.set i (some d)) else .bad := nr rfl
@[simp] theorem sMove_d (i j) : sMove i j env = match env[j]? with | some (some d) => if i < env.length then .nx ((env.set j none).set i (some d)) else .bad | _ => .bad := nr rfl
@[simp] theorem sAsgT_d (tgt f) : sAsgT tgt f env = (f env).out env fun d => match tgt d env with | some env1 => .nx env1 | none => .bad := nr rfl
@[simp] theorem sRaise_d (c) : sRaise c env = .ex env c .none := nr rfl
@[simp] theorem sApp_d (k f) : sApp k f env = match slotL k env with
  | some ds => (f env).out env fun d => if ds.length < 100000 then .nx (env.set k (some (.list (ds ++ [d])))) else .bad
  | none => .bad := nr rfl
@[simp] theorem slotL_d (k) : slotL k env = match env[k]? with | some (some (.list ds)) => some ds | _ => none := nr rfl
@[simp] theorem sPut_d (k f fi) : sPut k f fi env = ((f env).out env fun d => match slotL k env with
  | some ds => (fi env).out env fun i => match putAt ds i d with
    | some ds' => if flatL ds && flat d then .nx (env.set k (some (.list ds'))) else .bad
    | none => .bad
  | none => .bad) := nr rfl
theorem sFor_d (src tgt body) : sFor src tgt body env = (src env).out env fun ds => loopF tgt body ds env := nr rfl
theorem sForC_d (src tgt body) : sForC src tgt body env = (src env).out env fun ds => loopC tgt body ds env := nr rfl
theorem sWhile_d (n t g) : sWhile n t g env = loopW t g n env := nr rfl
@[simp] theorem iSeq_d (f) : iSeq f env = (f env).bind seqOf := nr rfl
@[simp] theorem iRange_d (fs) : iRange fs env = ((fs env).bind intOf).bind fun n => .ok ((List.range n.toNat).map encN) := nr rfl
@[simp] theorem iEnumD_d (f) : iEnumD f env = ((f env).bind seqOf).bind fun ds => .ok (enumD ds 0) := nr rfl
@[simp] theorem eComp_d (src tgt own t el) : eComp src tgt own t el env = (src env).bind fun ds => (compD tgt t el (wipeL env own) ds).bind fun ys => if ys.length ≤ 100000 then .ok (.list ys) else .bad := nr rfl
@[simp] theorem tTrue_d : tTrue env = .ok true := nr rfl
@[simp] theorem wipeL_nil : wipeL env [] = env := nr rfl
@[simp] theorem wipeL_cons (v vs) : wipeL env (v :: vs) = (wipeL env vs).set v none := nr rfl
@[simp] theorem tName_d (i d) : tName i d env = if i < env.length then some (env.set i (some d)) else none := nr rfl
@[simp] theorem tPair_d (i j d1 d2) : tPair i j (.tuple [d1, d2]) env = if i < env.length ∧ j < env.length then some ((env.set i (some d1)).set j (some d2)) else none := nr rfl
@[simp] theorem seqOf_l (ds) : seqOf (.list ds) = .ok ds := nr rfl
@[simp] theorem seqOf_t (ds) : seqOf (.tuple ds) = .ok ds := nr rfl
@[simp] theorem isSeqD_l (ds) : isSeqD (.list ds) = true := nr rfl
@[simp] theorem isSeqD_t (ds) : isSeqD (.tuple ds) = true := nr rfl
@[simp] theorem gTuple_l (ds) : gTuple [.list ds] = some (.tuple ds) := nr rfl
@[simp] theorem gTuple_t (ds) : gTuple [.tuple ds] = some (.tuple ds) := nr rfl
@[simp] theorem gList_l (ds) : gList [.list ds] = some (.list ds) := nr rfl
@[simp] theorem gList_t (ds) : gList [.tuple ds] = some (.list ds) := nr rfl
@[simp] theorem gLen_l (ds) : gLen [.list ds] = some (.int ds.length) := nr rfl
@[simp] theorem gLen_t (ds) : gLen [.tuple ds] = some (.int ds.length) := nr rfl
@[simp] theorem gLen_s (ns) : gLen [scrD ns] = some (.int ns.length) := by simp [scrD, gLen, scrL_P]
@[simp] theorem gInt_i (i) : gInt [.int i] = some (.int i) := nr rfl
@[simp] theorem gInt_b (b) : gInt [.bool b] = some (.int (if b then 1 else 0)) := nr rfl
@[simp] theorem truD_b (b) : truD (.bool b) = some b := nr rfl
@[simp] theorem truD_n : truD .none = some false := nr rfl
@[simp] theorem truD_i (i) : truD (.int i) = some (i != 0) := nr rfl
@[simp] theorem truD_l (ds) : truD (.list ds) = some (!ds.isEmpty) := nr rfl
@[simp] theorem truD_t (ds) : truD (.tuple ds) = some (!ds.isEmpty) := nr rfl
@[simp] theorem dAdd_i (i j) : dAdd (.int i) (.int j) = some (.int (i + j)) := nr rfl
@[simp] theorem dAdd_l (xs ys) : dAdd (.list xs) (.list ys) = if xs.length + ys.length ≤ 1000 then some (.list (xs ++ ys)) else none := nr rfl
@[simp] theorem dAdd_t (xs ys) : dAdd (.tuple xs) (.tuple ys) = if xs.length + ys.length ≤ 1000 then some (.tuple (xs ++ ys)) else none := nr rfl
@[simp] theorem dSub_i (i j) : dSub (.int i) (.int j) = some (.int (i - j)) := nr rfl
@[simp] theorem dMod_i (i j) (h : 0 < j) : dMod (.int i) (.int j) = some (.int (i % j)) := by simp only [dMod, if_pos h]
@[simp] theorem dMul_l (i j) (h : small i = true) : dMul (.int i) (.int j) = some (.int (i * j)) := by simp only [dMul, h, Bool.true_or, if_true]
@[simp] theorem dMul_r (i j) (h : small j = true) : dMul (.int i) (.int j) = some (.int (i * j)) := by simp only [dMul, h, Bool.or_true, if_true]
@[simp] theorem dPow_i (i j) : dPow (.int i) (.int j) = if 0 ≤ j ∧ j ≤ 1000 ∧ i.natAbs < 2 ^ 64 then some (.int (i ^ j.toNat)) else none := nr rfl
@[simp] theorem dNeg_i (i) : dNeg (.int i) = some (.int (-i)) := nr rfl
@[simp] theorem dLt_i (i j) : dLt (.int i) (.int j) = some (.bool (decide (i < j))) := nr rfl
@[simp] theorem dLe_i (i j) : dLe (.int i) (.int j) = some (.bool (decide (i ≤ j))) := nr rfl
@[simp] theorem dGt_i (i j) : dGt (.int i) (.int j) = some (.bool (decide (j < i))) := nr rfl
@[simp] theorem dGe_i (i j) : dGe (.int i) (.int j) = some (.bool (decide (j ≤ i))) := nr rfl
@[simp] theorem dIs_bb (a b) : dIs (.bool a) (.bool b) = some (.bool (decide (a = b))) := nr rfl
@[simp] theorem nxc_n : nxc .none = true := nr rfl
@[simp] theorem nxc_b (b) : nxc (.bool b) = true := nr rfl
@[simp] theorem nxc_i (b) : nxc (.int b) = true := nr rfl
@[simp] theorem nxc_s (b) : nxc (.str b) = true := nr rfl
@[simp] theorem nxc_l (b) : nxc (.list b) = true := nr rfl
@[simp] theorem nxc_t (b) : nxc (.tuple b) = true := nr rfl
@[simp] theorem isInt_i (i) : isInt (.int i) = true := nr rfl
@[simp] theorem isInt_b (i) : isInt (.bool i) = true := nr rfl
@[simp] theorem isInt_n : isInt .none = false := nr rfl
@[simp] theorem isInt_t (i) : isInt (.tuple i) = false := nr rfl
@[simp] theorem isBool_i (i) : isBool (.int i) = false := nr rfl
@[simp] theorem isBool_b (i) : isBool (.bool i) = true := nr rfl
@[simp] theorem isBool_n : isBool .none = false := nr rfl
@[simp] theorem isTup_t (i) : isTup (.tuple i) = true := nr rfl
@[simp] theorem isTup_l (i) : isTup (.list i) = false := nr rfl
@[simp] theorem isList_l (i) : isList (.list i) = true := nr rfl
@[simp] theorem isList_t (i) : isList (.tuple i) = false := nr rfl
@[simp] theorem flat_n : flat .none = true := nr rfl
@[simp] theorem flat_i (i) : flat (.int i) = true := nr rfl
@[simp] theorem flat_b (i) : flat (.bool i) = true := nr rfl
@[simp] theorem flat_s (i) : flat (.str i) = true := nr rfl
@[simp] theorem flat_t (ds) : flat (.tuple ds) = flatL ds := by rw [flat]
@[simp] theorem flat_l (ds) : flat (.list ds) = false := by rw [flat]
@[simp] theorem flatL_nil : flatL [] = true := nr rfl
@[simp] theorem flatL_cons (d ds) : flatL (d :: ds) = (flat d && flatL ds) := by rw [flatL]
@[simp] theorem flatL_app (xs ys) : flatL (xs ++ ys) = (flatL xs && flatL ys) := by
  induction xs with
  | nil => simp
  | cons x xs ih => simp [ih, Bool.and_assoc]
theorem flatL_all (ds) : flatL ds = ds.all flat := by
  induction ds with
  | nil => rfl
  | cons x xs ih => simp [ih]
theorem flatL_of {ds : List PyData} (h : ∀ d ∈ ds, flat d = true) : flatL ds = true := by rw [flatL_all]; simpa using h
theorem enumD_map {α : Type} (f : α → PyData) : ∀ (xs : List α) (n : Nat), enumD (xs.map f) n = (xs.zipIdx n).map fun p => .tuple [.int (p.2 : Nat), f p.1]
  | [], n => rfl
  | x :: xs, n => by simp only [List.map_cons, enumD, enumD_map f xs (n + 1), List.zipIdx_cons]

/-! ### encodings -/
structure Good {α : Type} (n : Nat) (f : α → PyData) : Prop where
  lay : ∀ a, (f a).canLay0 = true
  dep : ∀ a, (f a).depth ≤ n
  eqv : ∀ a b, PyData.eqv (f a) (f b) = true ↔ a = b
theorem layAll_map {α : Type} {n : Nat} {f : α → PyData} (h : Good n f) : ∀ l : List α, PyData.canLayAll0 (l.map f) = true
  | [] => rfl
  | x :: xs => by simp [PyData.canLayAll0, h.lay x, layAll_map h xs]
theorem depAll_map {α : Type} {n : Nat} {f : α → PyData} (h : Good n f) : ∀ l : List α, PyData.depthAll (l.map f) ≤ n
  | [] => by simp [PyData.depthAll]
  | x :: xs => by have := h.dep x; have := depAll_map h xs; simp [PyData.depthAll]; omega
theorem eqvAll_map {α : Type} {n : Nat} {f : α → PyData} (h : Good n f) : ∀ l m : List α, PyData.eqvAll (l.map f) (m.map f) = true ↔ l = m
  | [], [] => by simp [PyData.eqvAll]
  | [], _ :: _ => by simp [PyData.eqvAll]
  | _ :: _, [] => by simp [PyData.eqvAll]
  | x :: xs, y :: ys => by simp [PyData.eqvAll, h.eqv, eqvAll_map h xs ys]
def encO : Option Nat → PyData
  | none => .none
  | some n => .int n
def encT {α : Type} (f : α → PyData) (l : List α) : PyData := .tuple (l.map f)
def encL {α : Type} (f : α → PyData) (l : List α) : PyData := .list (l.map f)
@[simp] theorem nxc_T {α : Type} (f : α → PyData) (l : List α) : nxc (encT f l) = true := nr rfl
@[simp] theorem nxc_L {α : Type} (f : α → PyData) (l : List α) : nxc (encL f l) = true := nr rfl
@[simp] theorem nxc_O (o : Option Nat) : nxc (encO o) = true := by cases o <;> rfl
@[simp] theorem nxc_N (n : Nat) : nxc (encN n) = true := nr rfl
def encP {α β : Type} (f : α → PyData) (g : β → PyData) (p : α × β) : PyData := .tuple [f p.1, g p.2]
theorem good_N : Good 0 encN := ⟨fun a => by simp [encN, PyData.canLay0], fun a => by simp [encN, PyData.depth], fun a b => by simp [encN, PyData.eqv]; omega⟩
theorem good_O : Good 0 encO := ⟨fun a => by cases a <;> simp [encO, PyData.canLay0], fun a => by cases a <;> simp [encO, PyData.depth], fun a b => by cases a <;> cases b <;> simp [encO, PyData.eqv]; omega⟩
theorem good_T {α : Type} {n : Nat} {f : α → PyData} (h : Good n f) : Good (n + 1) (encT f) := ⟨fun a => by simp [encT, PyData.canLay0, layAll_map h a], fun a => by have := depAll_map h a; simp [encT, PyData.depth]; omega, fun a b => by simp [encT, PyData.eqv, eqvAll_map h]⟩
theorem good_L {α : Type} {n : Nat} {f : α → PyData} (h : Good n f) : Good (n + 1) (encL f) := ⟨fun a => by simp [encL, PyData.canLay0, layAll_map h a], fun a => by have := depAll_map h a; simp [encL, PyData.depth]; omega, fun a b => by simp [encL, PyData.eqv, eqvAll_map h]⟩
theorem good_P {α β : Type} {n m : Nat} {f : α → PyData} {g : β → PyData} (h : Good n f) (k : Good m g) : Good (max n m + 1) (encP f g) := ⟨fun a => by simp [encP, PyData.canLay0, PyData.canLayAll0, h.lay, k.lay], fun a => by have := h.dep a.1; have := k.dep a.2; simp [encP, PyData.depth, PyData.depthAll]; omega, fun a b => by
  rcases a with ⟨a1, a2⟩; rcases b with ⟨b1, b2⟩; simp [encP, PyData.eqv, PyData.eqvAll, h.eqv, k.eqv]⟩
theorem shaped_of {α : Type} {n : Nat} {f : α → PyData} (h : Good n f) (hn : n ≤ 64) (a : α) : SeqAt.shaped (f a) = true := by
  have := h.dep a; simp [SeqAt.shaped, h.lay a]; omega
theorem eqv_dec {α : Type} {n : Nat} {f : α → PyData} (h : Good n f) (a b : α) [Decidable (a = b)] : PyData.eqv (f a) (f b) = decide (a = b) := by
  rw [Bool.eq_iff_iff]; simp [h.eqv]
theorem dEq_of {α : Type} {n : Nat} {f : α → PyData} (h : Good n f) (hn : n ≤ 64) (a b : α) [Decidable (a = b)] : dEq (f a) (f b) = some (.bool (decide (a = b))) := by
  simp [dEq, shaped_of h hn, eqv_dec h]
theorem dNe_of {α : Type} {n : Nat} {f : α → PyData} (h : Good n f) (hn : n ≤ 64) (a b : α) [Decidable (a = b)] : dNe (f a) (f b) = some (.bool (!decide (a = b))) := by
  simp [dNe, shaped_of h hn, eqv_dec h]
theorem good_I : Good 0 PyData.int := ⟨fun a => by simp [PyData.canLay0], fun a => by simp [PyData.depth], fun a b => by simp [PyData.eqv]⟩
theorem good_B : Good 0 PyData.bool := ⟨fun a => by simp [PyData.canLay0], fun a => by simp [PyData.depth], fun a b => by simp [PyData.eqv]⟩
@[simp] theorem dEq_i (i j) : dEq (.int i) (.int j) = some (.bool (decide (i = j))) := dEq_of good_I (by decide) i j
@[simp] theorem dEq_b (i j) : dEq (.bool i) (.bool j) = some (.bool (decide (i = j))) := dEq_of good_B (by decide) i j
@[simp] theorem dNe_b (i j) : dNe (.bool i) (.bool j) = some (.bool (!decide (i = j))) := dNe_of good_B (by decide) i j
@[simp] theorem dNe_i (i j) : dNe (.int i) (.int j) = some (.bool (!decide (i = j))) := dNe_of good_I (by decide) i j
@[simp high] theorem dLt_nat (i j : Nat) : dLt (.int (i : Nat)) (.int (j : Nat)) = some (.bool (decide (i < j))) := by
  simp only [dLt_i]; congr 2; exact decide_eq_decide.mpr (by omega)
@[simp high] theorem dLe_nat (i j : Nat) : dLe (.int (i : Nat)) (.int (j : Nat)) = some (.bool (decide (i ≤ j))) := by
  simp only [dLe_i]; congr 2; exact decide_eq_decide.mpr (by omega)
@[simp high] theorem dGt_nat (i j : Nat) : dGt (.int (i : Nat)) (.int (j : Nat)) = some (.bool (decide (j < i))) := by
  simp only [dGt_i]; congr 2; exact decide_eq_decide.mpr (by omega)
@[simp high] theorem dGe_nat (i j : Nat) : dGe (.int (i : Nat)) (.int (j : Nat)) = some (.bool (decide (j ≤ i))) := by
  simp only [dGe_i]; congr 2; exact decide_eq_decide.mpr (by omega)
@[simp high] theorem dEq_nat (i j : Nat) : dEq (.int (i : Nat)) (.int (j : Nat)) = some (.bool (decide (i = j))) := dEq_of good_N (by decide) i j
@[simp high] theorem dNe_nat (i j : Nat) : dNe (.int (i : Nat)) (.int (j : Nat)) = some (.bool (!decide (i = j))) := dNe_of good_N (by decide) i j
theorem inD_map {α : Type} {n : Nat} {f : α → PyData} (h : Good n f) (x : α) (xs : List α) [Decidable (x ∈ xs)] : inD (f x) (xs.map f) = decide (x ∈ xs) := by
  rw [inD, Bool.eq_iff_iff]; simp only [List.any_map, List.any_eq_true, Function.comp, h.eqv, decide_eq_true_eq]
  exact ⟨fun ⟨y, hy, e⟩ => e ▸ hy, fun hx => ⟨x, hx, rfl⟩⟩
theorem all_atom_map {α : Type} {f : α → PyData} (h : ∀ a, atom (f a) = true) (xs : List α) : (xs.map f).all atom = true := by simp [h]
theorem atom_O (o) : atom (encO o) = true := by cases o <;> rfl
theorem atom_N (o) : atom (encN o) = true := rfl
theorem dIn_T {α : Type} {n : Nat} {f : α → PyData} (h : Good n f) (ha : ∀ a, atom (f a) = true) (x : α) (xs : List α) [Decidable (x ∈ xs)] : dIn (f x) (encT f xs) = some (.bool (decide (x ∈ xs))) := by
  simp [dIn, encT, all_atom_map ha, ha, inD_map h]
theorem dIn_L {α : Type} {n : Nat} {f : α → PyData} (h : Good n f) (hn : n < 64) (x : α) (xs : List α) [Decidable (x ∈ xs)] : dIn (f x) (encL f xs) = some (.bool (decide (x ∈ xs))) := by
  have e := shaped_of (good_L h) (by omega) xs
  simp only [encL] at e
  simp [dIn, encL, shaped_of h (by omega) x, inD_map h, e]
theorem dNotIn_L {α : Type} {n : Nat} {f : α → PyData} (h : Good n f) (hn : n < 64) (x : α) (xs : List α) [Decidable (x ∈ xs)] : dNotIn (f x) (encL f xs) = some (.bool (!decide (x ∈ xs))) := by
  have e := shaped_of (good_L h) (by omega) xs
  simp only [encL] at e
  simp [dNotIn, encL, shaped_of h (by omega) x, inD_map h, e]

/-! ### places -/
@[simp] theorem atI_nat {α : Type} (xs : List α) (i : Nat) : atI xs (i : Int) = xs[i]? := by
  simp only [atI, ixN]
  by_cases h : i < xs.length
  · simp [h]
  · simp [h]
@[simp] theorem atI_lit {α : Type} (xs : List α) (i : Nat) : atI xs (OfNat.ofNat i : Int) = xs[i]? := atI_nat xs i
@[simp] theorem atI_zero {α : Type} (xs : List α) : atI xs 0 = xs[0]? := atI_nat xs 0
@[simp] theorem atI_one {α : Type} (xs : List α) : atI xs 1 = xs[1]? := atI_nat xs 1
@[simp] theorem atI_two {α : Type} (xs : List α) : atI xs 2 = xs[2]? := atI_nat xs 2
@[simp] theorem atI_three {α : Type} (xs : List α) : atI xs 3 = xs[3]? := atI_nat xs 3
@[simp] theorem atI_four {α : Type} (xs : List α) : atI xs 4 = xs[4]? := atI_nat xs 4
@[simp] theorem atI_five {α : Type} (xs : List α) : atI xs 5 = xs[5]? := atI_nat xs 5
@[simp] theorem atI_six {α : Type} (xs : List α) : atI xs 6 = xs[6]? := atI_nat xs 6
@[simp] theorem atI_seven {α : Type} (xs : List α) : atI xs 7 = xs[7]? := atI_nat xs 7
@[simp] theorem atI_eight {α : Type} (xs : List α) : atI xs 8 = xs[8]? := atI_nat xs 8
@[simp] theorem atI_nine {α : Type} (xs : List α) : atI xs 9 = xs[9]? := atI_nat xs 9
@[simp] theorem dIx_l (ds i) : dIx (.list ds) (.int i) = atI ds i := nr rfl
@[simp] theorem dIx_t (ds i) : dIx (.tuple ds) (.int i) = atI ds i := nr rfl
@[simp] theorem dIx_s (ns i) : dIx (scrD ns) (.int i) = (atI (ns.map PyData.int) i) := by simp [scrD, dIx, scrL_P]
theorem getm {α : Type} (f : α → PyData) (l : List α) (g : Nat) (d : α) (h : g < l.length) : (l.map f)[g]? = some (f (l.getD g d)) := by simp [h]
@[simp] theorem intOf_nat (n : Nat) (h : n ≤ 100000) : intOf [.int (n : Int)] = .ok (n : Int) := by
  simp only [intOf]; rw [if_pos ⟨by omega, by omega⟩]
theorem small_of {i : Int} (h1 : -100000000000 < i) (h2 : i < 100000000000) : small i = true := by
  simp only [small, Bool.and_eq_true, decide_eq_true_eq]
  exact ⟨by have : (-(2 ^ 64 : Int)) < -100000000000 := by decide
            omega, by have : (100000000000 : Int) < 2 ^ 64 := by decide
                      omega⟩

/-! ### loops -/
def foldE {σ α ε : Type} (step : σ → α → Except ε σ) : σ → List α → Except ε σ
  | s, [] => .ok s
  | s, x :: xs => match step s x with
    | .ok s' => foldE step s' xs
    | .error d => .error d
/-- a loop that may return -/
theorem loopF_run {σ α : Type} {tgt : PyData → Lo → Option Lo} {body : Lo → Out} (enc : α → PyData) (R : σ → Lo → Prop) (step : σ → α → Except PyData σ) :
    ∀ (xs : List α) (s : σ) (env : Lo), R s env → (∀ x ∈ xs, ∀ s env, R s env → ∃ env1, tgt (enc x) env = some env1 ∧ match step s x with
      | .ok s' => ∃ env2, body env1 = .nx env2 ∧ R s' env2
      | .error d => body env1 = .rt d) →
    match foldE step s xs with
    | .ok s' => ∃ env', loopF tgt body (xs.map enc) env = .nx env' ∧ R s' env'
    | .error d => loopF tgt body (xs.map enc) env = .rt d
  | [], s, env, h, _ => ⟨env, rfl, h⟩
  | x :: xs, s, env, h, hs => by
    obtain ⟨env1, h1, h2⟩ := hs x (List.mem_cons_self ..) s env h
    simp only [List.map_cons, loopF, h1, foldE]
    cases e : step s x with
    | ok s' =>
      rw [e] at h2; obtain ⟨env2, h3, h4⟩ := h2
      simp only [h3]
      exact loopF_run enc R step xs s' env2 h4 fun y hy => hs y (List.mem_cons_of_mem _ hy)
    | error d => rw [e] at h2; simp only [h2]
/-- a loop that goes on to its end -/
theorem loopF_go {σ α : Type} {tgt : PyData → Lo → Option Lo} {body : Lo → Out} (enc : α → PyData) (R : σ → Lo → Prop) (step : σ → α → σ) :
    ∀ (xs : List α) (s : σ) (env : Lo), R s env → (∀ x ∈ xs, ∀ s env, R s env → ∃ env1 env2, tgt (enc x) env = some env1 ∧ body env1 = .nx env2 ∧ R (step s x) env2) →
    ∃ env', loopF tgt body (xs.map enc) env = .nx env' ∧ R (xs.foldl step s) env'
  | [], s, env, h, _ => ⟨env, rfl, h⟩
  | x :: xs, s, env, h, hs => by
    obtain ⟨env1, env2, h1, h3, h4⟩ := hs x (List.mem_cons_self ..) s env h
    simp only [List.map_cons, loopF, h1, h3, List.foldl_cons]
    exact loopF_go enc R step xs (step s x) env2 h4 fun y hy => hs y (List.mem_cons_of_mem _ hy)
/-- a loop that looks whether each is right -/
theorem loopF_all {α : Type} {tgt : PyData → Lo → Option Lo} {body : Lo → Out} (enc : α → PyData) (R : Lo → Prop) (p : α → Bool) (d : PyData) :
    ∀ (xs : List α) (env : Lo), R env → (∀ x ∈ xs, ∀ env, R env → ∃ env1, tgt (enc x) env = some env1 ∧ if p x = true then ∃ env2, body env1 = .nx env2 ∧ R env2 else body env1 = .rt d) →
    if xs.all p = true then ∃ env', loopF tgt body (xs.map enc) env = .nx env' ∧ R env' else loopF tgt body (xs.map enc) env = .rt d
  | [], env, h, _ => by simpa using ⟨env, rfl, h⟩
  | x :: xs, env, h, hs => by
    obtain ⟨env1, h1, h2⟩ := hs x (List.mem_cons_self ..) env h
    simp only [List.map_cons, loopF, h1, List.all_cons]
    by_cases e : p x = true
    · rw [if_pos e] at h2; obtain ⟨env2, h3, h4⟩ := h2
      simp only [h3, e, Bool.true_and]
      exact loopF_all enc R p d xs env2 h4 fun y hy => hs y (List.mem_cons_of_mem _ hy)
    · rw [if_neg e] at h2; simp [h2, e]
/-- .. that looks for the first -/
theorem loopF_find {α : Type} {tgt : PyData → Lo → Option Lo} {body : Lo → Out} (enc : α → PyData) (R : Lo → Prop) (p : α → Bool) (ret : α → PyData) :
    ∀ (xs : List α) (env : Lo), R env → (∀ x ∈ xs, ∀ env, R env → ∃ env1, tgt (enc x) env = some env1 ∧ if p x = true then body env1 = .rt (ret x) else ∃ env2, body env1 = .nx env2 ∧ R env2) →
    match xs.find? p with
    | none => ∃ env', loopF tgt body (xs.map enc) env = .nx env' ∧ R env'
    | some x => loopF tgt body (xs.map enc) env = .rt (ret x)
  | [], env, h, _ => ⟨env, rfl, h⟩
  | x :: xs, env, h, hs => by
    obtain ⟨env1, h1, h2⟩ := hs x (List.mem_cons_self ..) env h
    simp only [List.map_cons, loopF, h1, List.find?_cons]
    by_cases e : p x = true
    · rw [if_pos e] at h2; simp only [e, h2]
    · rw [if_neg e] at h2; obtain ⟨env2, h3, h4⟩ := h2
      simp only [e, h3]
      exact loopF_find enc R p ret xs env2 h4 fun y hy => hs y (List.mem_cons_of_mem _ hy)
/-- a comprehension -/
theorem compD_run {α : Type} {tgt : PyData → Lo → Option Lo} {t : Lo → Res Bool} {el : Lo → Res PyData} {env0 : Lo} (enc : α → PyData) (p : α → Bool) (f : α → PyData) :
    ∀ (xs : List α), (∀ x ∈ xs, ∃ env1, tgt (enc x) env0 = some env1 ∧ t env1 = .ok (p x) ∧ (p x = true → el env1 = .ok (f x))) → compD tgt t el env0 (xs.map enc) = .ok ((xs.filter p).map f)
  | [], _ => rfl
  | x :: xs, h => by
    obtain ⟨env1, h1, h2, h3⟩ := h x (List.mem_cons_self ..)
    have ih := compD_run enc p f xs fun y hy => h y (List.mem_cons_of_mem _ hy)
    cases e : p x with
    | true => simp [compD, h1, h2, e, h3 e, ih]
    | false => simp [compD, h1, h2, e, ih]
theorem compD_map {α : Type} {tgt : PyData → Lo → Option Lo} {el : Lo → Res PyData} {env0 : Lo} (enc : α → PyData) (f : α → PyData)
    (xs : List α) (h : ∀ x ∈ xs, ∃ env1, tgt (enc x) env0 = some env1 ∧ el env1 = .ok (f x)) : compD tgt tTrue el env0 (xs.map enc) = .ok (xs.map f) := by
  have := compD_run (t := tTrue) enc (fun _ => true) f xs fun x hx => (by obtain ⟨e, a, b⟩ := h x hx; exact ⟨e, a, rfl, fun _ => b⟩)
  rw [this, List.filter_eq_self.mpr (by simp)]

/-! ### functions and loops, as steps of a goal g env = o -/
theorem fn_rt {n m : Nat} {g : Lo → Out} {ds : List PyData} {d : PyData} (hl : ds.length = n) (h : g (ds.map some ++ List.replicate (m - n) none) = .rt d) : mkFn n m g ds = .ok d := by
  simp only [mkFn, hl, if_true, h]
theorem fn_nx {n m : Nat} {g : Lo → Out} {ds : List PyData} {e : Lo} (hl : ds.length = n) (h : g (ds.map some ++ List.replicate (m - n) none) = .nx e) : mkFn n m g ds = .ok .none := by
  simp only [mkFn, hl, if_true, h]
theorem fn_ex {n m : Nat} {g : Lo → Out} {ds : List PyData} {e : Lo} {c x} (hl : ds.length = n) (h : g (ds.map some ++ List.replicate (m - n) none) = .ex e c x) : mkFn n m g ds = .exc c x := by
  simp only [mkFn, hl, if_true, h]
section
variable {α : Type} {src : Lo → Res (List PyData)} {tgt : PyData → Lo → Option Lo} {body rest : Lo → Out} {env : Lo} {o : Out}
theorem loopF_pre (enc : α → PyData) (R : List α → Lo → Prop) : ∀ (zs ys : List α) (env : Lo), R ys env →
    (∀ ys1 x zs1 env, ys ++ zs = ys1 ++ x :: zs1 → R ys1 env → ∃ env1 env2, tgt (enc x) env = some env1 ∧ body env1 = .nx env2 ∧ R (ys1 ++ [x]) env2) →
    ∃ env', loopF tgt body (zs.map enc) env = .nx env' ∧ R (ys ++ zs) env'
  | [], ys, env, h, _ => ⟨env, rfl, by simpa using h⟩
  | x :: zs, ys, env, h, hs => by
    obtain ⟨env1, env2, h1, h2, h3⟩ := hs ys x zs env rfl h
    obtain ⟨env', h4, h5⟩ := loopF_pre enc R zs (ys ++ [x]) env2 h3 fun ys1 y zs1 e he => hs ys1 y zs1 e (by simpa using he)
    exact ⟨env', by simp only [List.map_cons, loopF, h1, h2, h4], by simpa using h5⟩
theorem for_pre (enc : α → PyData) (xs : List α) (R : List α → Lo → Prop) (hsrc : src env = .ok (xs.map enc)) (h0 : R [] env)
    (hs : ∀ ys x zs env, xs = ys ++ x :: zs → R ys env → ∃ env1 env2, tgt (enc x) env = some env1 ∧ body env1 = .nx env2 ∧ R (ys ++ [x]) env2)
    (hk : ∀ env', R xs env' → rest env' = o) : (sFor src tgt body env).seq rest = o := by
  obtain ⟨env', h4, h5⟩ := loopF_pre (tgt := tgt) (body := body) enc R xs [] env h0 fun ys1 x zs1 e he => hs ys1 x zs1 e (by simpa using he)
  rw [sFor_d, hsrc, out_ok, h4, seq_nx]
  exact hk env' (by simpa using h5)
theorem loopF_pfind (enc : α → PyData) (p : α → Bool) (ret : α → PyData) (R : List α → Lo → Prop) : ∀ (zs ys : List α) (env : Lo), R ys env →
    (∀ ys1 x zs1 env, ys ++ zs = ys1 ++ x :: zs1 → R ys1 env → ∃ env1, tgt (enc x) env = some env1 ∧ (p x = true → body env1 = .rt (ret x)) ∧ (p x = false → ∃ env2, body env1 = .nx env2 ∧ R (ys1 ++ [x]) env2)) →
    (∀ x, zs.find? p = some x → loopF tgt body (zs.map enc) env = .rt (ret x)) ∧ (zs.find? p = none → ∃ env', loopF tgt body (zs.map enc) env = .nx env' ∧ R (ys ++ zs) env')
  | [], ys, env, h, _ => ⟨fun x h => by simp at h, fun _ => ⟨env, rfl, by simpa using h⟩⟩
  | x :: zs, ys, env, h, hs => by
    obtain ⟨env1, h1, h2, h3⟩ := hs ys x zs env rfl h
    cases e : p x with
    | true =>
      refine ⟨fun y hy => ?_, fun hy => ?_⟩
      · simp only [List.find?_cons, e, Option.some.injEq] at hy
        subst hy; simp only [List.map_cons, loopF, h1, h2 e]
      · simp [List.find?_cons, e] at hy
    | false =>
      obtain ⟨env2, h4, h5⟩ := h3 e
      have ih := loopF_pfind enc p ret R zs (ys ++ [x]) env2 h5 fun ys1 y zs1 e he => hs ys1 y zs1 e (by simpa using he)
      simp only [List.find?_cons, e, List.map_cons, loopF, h1, h4]
      simpa using ih
theorem for_find (enc : α → PyData) (xs : List α) (p : α → Bool) (ret : α → PyData) (R : List α → Lo → Prop) (hsrc : src env = .ok (xs.map enc)) (h0 : R [] env)
    (hs : ∀ ys x zs env, xs = ys ++ x :: zs → R ys env → ∃ env1, tgt (enc x) env = some env1 ∧ (p x = true → body env1 = .rt (ret x)) ∧ (p x = false → ∃ env2, body env1 = .nx env2 ∧ R (ys ++ [x]) env2))
    (hk1 : ∀ x, xs.find? p = some x → Out.rt (ret x) = o) (hk2 : xs.find? p = none → ∀ env', R xs env' → rest env' = o) : (sFor src tgt body env).seq rest = o := by
  obtain ⟨h4, h5⟩ := loopF_pfind (tgt := tgt) (body := body) enc p ret R xs [] env h0 fun ys1 x zs1 e he => hs ys1 x zs1 e (by simpa using he)
  rw [sFor_d, hsrc, out_ok]
  cases e : xs.find? p with
  | some x => rw [h4 x e, seq_rt]; exact hk1 x e
  | none => obtain ⟨env', h6, h7⟩ := h5 e; rw [h6, seq_nx]; exact hk2 e env' (by simpa using h7)
theorem loopC_pfind (enc : α → PyData) (p : α → Bool) (ret : α → PyData) (R : List α → Lo → Prop) : ∀ (zs ys : List α) (env : Lo), R ys env →
    (∀ ys1 x zs1 env, ys ++ zs = ys1 ++ x :: zs1 → R ys1 env → ∃ env1, tgt (enc x) env = some env1 ∧ (p x = true → body env1 = .rt (ret x)) ∧ (p x = false → ∃ env2, (body env1 = .nx env2 ∨ body env1 = .ct env2) ∧ R (ys1 ++ [x]) env2)) →
    (∀ x, zs.find? p = some x → loopC tgt body (zs.map enc) env = .rt (ret x)) ∧ (zs.find? p = none → ∃ env', loopC tgt body (zs.map enc) env = .nx env' ∧ R (ys ++ zs) env')
  | [], ys, env, h, _ => ⟨fun x h => by simp at h, fun _ => ⟨env, rfl, by simpa using h⟩⟩
  | x :: zs, ys, env, h, hs => by
    obtain ⟨env1, h1, h2, h3⟩ := hs ys x zs env rfl h
    cases e : p x with
    | true =>
      refine ⟨fun y hy => ?_, fun hy => ?_⟩
      · simp only [List.find?_cons, e, Option.some.injEq] at hy
        subst hy; simp only [List.map_cons, loopC, h1, h2 e]
      · simp [List.find?_cons, e] at hy
    | false =>
      obtain ⟨env2, h4, h5⟩ := h3 e
      have ih := loopC_pfind enc p ret R zs (ys ++ [x]) env2 h5 fun ys1 y zs1 e he => hs ys1 y zs1 e (by simpa using he)
      rcases h4 with h4 | h4 <;>
      · simp only [List.find?_cons, e, List.map_cons, loopC, h1, h4]
        simpa using ih
theorem forC_find (enc : α → PyData) (xs : List α) (p : α → Bool) (ret : α → PyData) (R : List α → Lo → Prop) (hsrc : src env = .ok (xs.map enc)) (h0 : R [] env)
    (hs : ∀ ys x zs env, xs = ys ++ x :: zs → R ys env → ∃ env1, tgt (enc x) env = some env1 ∧ (p x = true → body env1 = .rt (ret x)) ∧ (p x = false → ∃ env2, (body env1 = .nx env2 ∨ body env1 = .ct env2) ∧ R (ys ++ [x]) env2))
    (hk1 : ∀ x, xs.find? p = some x → Out.rt (ret x) = o) (hk2 : xs.find? p = none → ∀ env', R xs env' → rest env' = o) : (sForC src tgt body env).seq rest = o := by
  obtain ⟨h4, h5⟩ := loopC_pfind (tgt := tgt) (body := body) enc p ret R xs [] env h0 fun ys1 x zs1 e he => hs ys1 x zs1 e (by simpa using he)
  rw [sForC_d, hsrc, out_ok]
  cases e : xs.find? p with
  | some x => rw [h4 x e, seq_rt]; exact hk1 x e
  | none => obtain ⟨env', h6, h7⟩ := h5 e; rw [h6, seq_nx]; exact hk2 e env' (by simpa using h7)
end
section
variable {t : Lo → Res Bool} {body rest : Lo → Out} {env : Lo} {o : Out}
theorem loopW_run (R : Nat → Lo → Prop) (hs : ∀ n env, R n env → ∃ b, t env = .ok b ∧ (b = true → ∃ env2 n', body env = .nx env2 ∧ n' < n ∧ R n' env2) ∧ (b = false → rest env = o)) :
    ∀ (k n : Nat) (env : Lo), R n env → n < k → (loopW t body k env).seq rest = o
  | 0, n, env, _, h => by omega
  | k + 1, n, env, h, hn => by
    obtain ⟨b, h1, h2, h3⟩ := hs n env h
    cases b with
    | false => simp only [loopW, h1, out_ok, Bool.false_eq_true, if_false, seq_nx, h3 rfl]
    | true =>
      obtain ⟨env2, n', h4, h5, h6⟩ := h2 rfl
      simp only [loopW, h1, out_ok, if_true, h4]
      exact loopW_run R hs k n' env2 h6 (by omega)
theorem while_run (R : Nat → Lo → Prop) {k : Nat} (n : Nat) (h0 : R n env) (hn : n < k) (hs : ∀ n env, R n env → ∃ b, t env = .ok b ∧ (b = true → ∃ env2 n', body env = .nx env2 ∧ n' < n ∧ R n' env2) ∧ (b = false → rest env = o)) :
    (sWhile k t body env).seq rest = o := loopW_run R hs k n env h0 hn
end
section
variable {α : Type} {src : Lo → Res (List PyData)} {tgt : PyData → Lo → Option Lo} {body rest : Lo → Out} {env : Lo} (P : Out → Prop)
theorem for_preP (enc : α → PyData) (xs : List α) (R : List α → Lo → Prop) (hsrc : src env = .ok (xs.map enc)) (h0 : R [] env)
    (hs : ∀ ys x zs env, xs = ys ++ x :: zs → R ys env → ∃ env1 env2, tgt (enc x) env = some env1 ∧ body env1 = .nx env2 ∧ R (ys ++ [x]) env2)
    (hk : ∀ env', R xs env' → P (rest env')) : P ((sFor src tgt body env).seq rest) := by
  obtain ⟨env', h4, h5⟩ := loopF_pre (tgt := tgt) (body := body) enc R xs [] env h0 fun ys1 x zs1 e he => hs ys1 x zs1 e (by simpa using he)
  rw [sFor_d, hsrc, out_ok, h4, seq_nx]
  exact hk env' (by simpa using h5)
theorem for_findP (enc : α → PyData) (xs : List α) (p : α → Bool) (ret : α → PyData) (R : List α → Lo → Prop) (hsrc : src env = .ok (xs.map enc)) (h0 : R [] env)
    (hs : ∀ ys x zs env, xs = ys ++ x :: zs → R ys env → ∃ env1, tgt (enc x) env = some env1 ∧ (p x = true → body env1 = .rt (ret x)) ∧ (p x = false → ∃ env2, body env1 = .nx env2 ∧ R (ys ++ [x]) env2))
    (hk1 : ∀ x, xs.find? p = some x → P (Out.rt (ret x))) (hk2 : xs.find? p = none → ∀ env', R xs env' → P (rest env')) : P ((sFor src tgt body env).seq rest) := by
  obtain ⟨h4, h5⟩ := loopF_pfind (tgt := tgt) (body := body) enc p ret R xs [] env h0 fun ys1 x zs1 e he => hs ys1 x zs1 e (by simpa using he)
  rw [sFor_d, hsrc, out_ok]
  cases e : xs.find? p with
  | some x => rw [h4 x e, seq_rt]; exact hk1 x e
  | none => obtain ⟨env', h6, h7⟩ := h5 e; rw [h6, seq_nx]; exact hk2 e env' (by simpa using h7)
end
section
variable {t : Lo → Res Bool} {body rest : Lo → Out} {env : Lo} (P : Out → Prop)
/-- a while whose measure falls; the invariant may carry anything -/
theorem loopW_runP (R : Nat → Lo → Prop) (hs : ∀ n env, R n env → ∃ b, t env = .ok b ∧ (b = true → ∃ env2 n', body env = .nx env2 ∧ n' < n ∧ R n' env2) ∧ (b = false → P (rest env))) :
    ∀ (k n : Nat) (env : Lo), R n env → n < k → P ((loopW t body k env).seq rest)
  | 0, n, env, _, h => by omega
  | k + 1, n, env, h, hn => by
    obtain ⟨b, h1, h2, h3⟩ := hs n env h
    cases b with
    | false => simp only [loopW, h1, out_ok, Bool.false_eq_true, if_false, seq_nx]; exact h3 rfl
    | true =>
      obtain ⟨env2, n', h4, h5, h6⟩ := h2 rfl
      simp only [loopW, h1, out_ok, if_true, h4]
      exact loopW_runP R hs k n' env2 h6 (by omega)
theorem while_runP (R : Nat → Lo → Prop) {k : Nat} (n : Nat) (h0 : R n env) (hn : n < k) (hs : ∀ n env, R n env → ∃ b, t env = .ok b ∧ (b = true → ∃ env2 n', body env = .nx env2 ∧ n' < n ∧ R n' env2) ∧ (b = false → P (rest env))) :
    P ((sWhile k t body env).seq rest) := loopW_runP P R hs k n env h0 hn
end
theorem range_split {n x : Nat} {ys zs : List Nat} (e : List.range n = ys ++ x :: zs) : x = ys.length ∧ x < n := by
  have h : (List.range n)[ys.length]? = some x := by rw [e]; simp
  obtain ⟨h1, h2⟩ := List.getElem?_eq_some_iff.mp h
  simp at h1 h2; exact ⟨h2.symm, h2 ▸ h1⟩
theorem find_all {α : Type} (p : α → Bool) (xs : List α) : xs.find? p = none ↔ ∀ x ∈ xs, p x = false := by simp
end MA

set_option Elab.async false
set_option linter.all false
set_option maxRecDepth 100000
namespace MA
open PySem PySem.Spec L2 PV GS
open PyProof.Rows hiding St
/-! ### the law's own small things -/
def cell (ns : List Int) (k : Nat) : Int := (ns[k]?).getD 0
@[simp] theorem cell_eq (ns : List Int) (k : Nat) : m_law_cell [scrD ns, .int (k : Nat)] = .ok (.int (cell ns k)) := by
  by_cases h : k < ns.length
  · simp [m_law_cell, g_law_cell, mkFn, cell, h]
  · simp [m_law_cell, g_law_cell, mkFn, cell, h]
@[simp] theorem cell_lit (ns : List Int) (k : Nat) : m_law_cell [scrD ns, .int (OfNat.ofNat k)] = .ok (.int (cell ns k)) := cell_eq ns k
@[simp] theorem cell_zero (ns : List Int) : m_law_cell [scrD ns, .int 0] = .ok (.int (cell ns 0)) := cell_eq ns 0
@[simp] theorem cell_one (ns : List Int) : m_law_cell [scrD ns, .int 1] = .ok (.int (cell ns 1)) := cell_eq ns 1
def mix (a p m : Int) : Int := a * 48271 % p % m
theorem mix_eq (a p m : Int) (hp : 0 < p) (hm : 0 < m) : m_law_mix [.int a, .int p, .int m] = .ok (.int (mix a p m)) := by
  simp [m_law_mix, g_law_mix, mkFn, hp, hm, mix, show small 48271 = true from by decide]
theorem mix_nat (a p m : Int) (hp : 0 < p) (hm : 0 < m) : ∃ n : Nat, mix a p m = n ∧ (n : Int) < m := by
  have h1 := Int.emod_nonneg (a * 48271 % p) (b := m) (by omega)
  have h2 := Int.emod_lt_of_pos (a * 48271 % p) hm
  exact ⟨(mix a p m).toNat, by simp only [mix]; omega, by simp only [mix]; omega⟩
theorem large_eq (ns : List Int) : m_law_large [scrD ns] = .ok (.bool (decide (mix (cell ns 0 + 7 * ns.length) 9871 8 = 3))) := by
  simp [m_law_large, g_law_large, mkFn, mix_eq, show small 7 = true from by decide]

/-! ### sorting -/
def insB {α : Type} (lt : α → α → Bool) (x : α) : List α → List α
  | [] => [x]
  | y :: ys => if lt y x then y :: insB lt x ys else x :: y :: ys
def sortB {α : Type} (lt : α → α → Bool) : List α → List α
  | [] => []
  | x :: xs => insB lt x (sortB lt xs)
theorem insB_perm {α : Type} (lt : α → α → Bool) (x : α) : ∀ ys : List α, (insB lt x ys).Perm (x :: ys)
  | [] => .refl _
  | y :: ys => by
    simp only [insB]; split
    · exact ((insB_perm lt x ys).cons y).trans (.swap x y ys)
    · exact .refl _
theorem sortB_perm {α : Type} (lt : α → α → Bool) : ∀ xs : List α, (sortB lt xs).Perm xs
  | [] => .refl _
  | x :: xs => (insB_perm lt x _).trans ((sortB_perm lt xs).cons x)
theorem insD_map {α : Type} {lt : α → α → Bool} {f : α → PyData} (h : ∀ a b, ltD (f a) (f b) = lt a b) (x : α) : ∀ ys : List α, insD (f x) (ys.map f) = (insB lt x ys).map f
  | [] => rfl
  | y :: ys => by simp only [List.map_cons, insD, insB, h]; split <;> simp [insD_map h x ys]
theorem sortD_map {α : Type} {lt : α → α → Bool} {f : α → PyData} (h : ∀ a b, ltD (f a) (f b) = lt a b) : ∀ xs : List α, sortD (xs.map f) = (sortB lt xs).map f
  | [] => rfl
  | x :: xs => by simp only [List.map_cons, sortD, sortB, sortD_map h xs, insD_map h]
def ltIP (p q : Int × Int) : Bool := decide (p.1 < q.1) || (decide (p.1 = q.1) && decide (p.2 < q.2))
def encII (p : Int × Int) : PyData := .tuple [.int p.1, .int p.2]
theorem ltD_II (a b) : ltD (encII a) (encII b) = ltIP a b := rfl
theorem gSorted_II (l : List (Int × Int)) : gSorted [.list (l.map encII)] = some (.list ((sortB ltIP l).map encII)) := by
  have e : (l.map encII).all isP = true := by simp [encII, isP]
  simp only [gSorted, e, Bool.or_true, if_true, sortD_map ltD_II]
def ltN (a b : Nat) : Bool := decide (a < b)
theorem ltD_N (a b) : ltD (encN a) (encN b) = ltN a b := by simp [ltD, encN, ltN]
theorem gSorted_N (l : List Nat) : gSorted [.list (l.map encN)] = some (.list ((sortB ltN l).map encN)) := by
  have e : (l.map encN).all isI = true := by simp [encN, isI]
  simp only [gSorted, e, Bool.true_or, if_true, sortD_map ltD_N]
def ltNP (p q : Nat × Nat) : Bool := decide (p.1 < q.1) || (decide (p.1 = q.1) && decide (p.2 < q.2))
def encNN : Nat × Nat → PyData := encP encN encN
theorem ltD_NP (a b) : ltD (encNN a) (encNN b) = ltNP a b := by
  have e : ∀ x y : Nat, decide ((x : Int) < y) = decide (x < y) := fun x y => by simp
  have e2 : ∀ x y : Nat, decide ((x : Int) = y) = decide (x = y) := fun x y => by simp [Int.ofNat_inj]
  simp only [encNN, encP, encN, ltD, ltNP, e, e2]
theorem gSorted_NP (l : List (Nat × Nat)) : gSorted [.list (l.map encNN)] = some (.list ((sortB ltNP l).map encNN)) := by
  have e : (l.map encNN).all isP = true := by simp [encNN, encP, encN, isP]
  simp only [gSorted, e, Bool.or_true, if_true, sortD_map ltD_NP]

/-! ### slices -/
theorem cutD_take (ds : List PyData) (n : Nat) : PV.cutD ds none (some (n : Int)) = ds.take n := by
  rw [PV.cutD, HT.sIx_none, HT.sIx_nat, List.drop_zero, Nat.sub_zero, List.take_eq_take_iff]
  omega
theorem cutD_take_map {α : Type} (f : α → PyData) (l : List α) (n : Nat) : PV.cutD (l.map f) none (some (n : Int)) = (l.take n).map f := by rw [cutD_take, List.map_take]

/-! ### a drawn wish -/
theorem small_nat {n : Nat} (h : n < 100000000000) : small (n : Int) = true := small_of (by omega) (by omega)
abbrev encTN : List Nat → PyData := encT encN
theorem flat_encN (n) : flat (encN n) = true := rfl
theorem flatL_map {α : Type} {f : α → PyData} (h : ∀ a, flat (f a) = true) (l : List α) : flatL (l.map f) = true := flatL_of (by simp [h])
theorem flat_encTN (l) : flat (encTN l) = true := by simp [encT, flatL_map flat_encN]
def keysOf (seed : Int) (n : Nat) : List (Int × Int) := (List.range n).map fun k : Nat => (mix (seed + 29 * (k : Int) * (k : Int)) 9931 997, (k : Int))
def rowOf (seed : Int) (n : Nat) : List Nat := (sortB ltIP (keysOf seed n)).map fun p => p.2.toNat
theorem rowOf_perm (seed : Int) (n : Nat) : (rowOf seed n).Perm (List.range n) := by
  have h := (sortB_perm ltIP (keysOf seed n)).map fun p => p.2.toNat
  refine h.trans (.of_eq ?_)
  simp [keysOf, Function.comp_def]
def someOf (seed : Int) (n : Nat) (all : Bool) : List Nat := if all then rowOf seed n else (rowOf seed n).take (mix seed 9941 (n + 1)).toNat
theorem some_eq (seed : Int) (n : Nat) (all : Bool) (hn : n ≤ 100) : m_law_some [.int seed, .int (n : Nat), .bool all] = .ok (encTN (someOf seed n all)) := by
  have k1 : compD (tName 5) tTrue (eFlat (eTup (eCons (eFn m_law_mix (eCons (eOp dAdd (eVar 0) (eOp dMul (eOp dMul (eC (.int 29)) (eVar 5)) (eVar 5))) (eCons (eC (.int 9931)) (eCons (eC (.int 997)) eNil)))) (eCons (eVar 5) eNil)))) [some (.int seed), some (.int (n : Nat)), some (.bool all), none, none, none, none] ((List.range n).map encN) = .ok ((keysOf seed n).map encII) := by
    rw [keysOf, List.map_map]
    refine compD_map encN _ _ fun x hx => ?_
    have hx' : x < n := List.mem_range.mp hx
    have s1 : small (29 * (x : Int)) = true := small_of (by omega) (by omega)
    simp [encN, encII, mix_eq, show small 29 = true from by decide, s1]
  have k2 : ∀ d3, compD (tName 6) tTrue (eFlat (eOp dIx (eVar 6) (eC (.int 1)))) [some (.int seed), some (.int (n : Nat)), some (.bool all), d3, none, none, none] ((sortB ltIP (keysOf seed n)).map encII) = .ok ((rowOf seed n).map encN) := by
    intro d3
    rw [rowOf, List.map_map]
    refine compD_map encII _ _ fun x hx => ?_
    have hx' : x ∈ keysOf seed n := (sortB_perm _ _).mem_iff.mp hx
    obtain ⟨k, _, e⟩ := List.mem_map.mp hx'
    subst e
    simp [encII, encN]
  have l1 : (keysOf seed n).length = n := by simp [keysOf]
  have l2 : (rowOf seed n).length = n := by rw [(rowOf_perm seed n).length_eq, List.length_range]
  have mx := mix_nat seed 9941 (n + 1) (by decide) (by omega)
  obtain ⟨m, e, hm⟩ := mx
  cases all with
  | true => simp [m_law_some, g_law_some, mkFn, k1, k2, l1, l2, show n ≤ 100000 by omega, gSorted_II, flatL_map flat_encN, someOf, encT]
  | false => simp [m_law_some, g_law_some, mkFn, k1, k2, l1, l2, show n ≤ 100000 by omega, gSorted_II, flatL_map flat_encN, someOf, encT, mix_eq, show (0 : Int) < n + 1 by omega, e, dSl, cutD_take_map, ← List.map_take]

/-! ### a drawn fair -/
structure Fair where
  W : List (List Nat)
  R : List (Nat × List Nat)
def encR : Nat × List Nat → PyData := encP encN encTN
def encF (F : Fair) : PyData := .tuple [encT encTN F.W, encT encR F.R]
structure Fair.Ok (F : Fair) : Prop where
  w1 : 1 ≤ F.W.length
  w5 : F.W.length ≤ 5
  r1 : 1 ≤ F.R.length
  r5 : F.R.length ≤ 5
  w : ∀ l ∈ F.W, l.Nodup ∧ ∀ h ∈ l, h < F.R.length
  r : ∀ p ∈ F.R, p.1 ≤ 5 ∧ p.2.Nodup ∧ ∀ g ∈ p.2, g < F.W.length
theorem someOf_ok (seed : Int) (n : Nat) (all : Bool) : (someOf seed n all).Nodup ∧ ∀ h ∈ someOf seed n all, h < n := by
  have p := rowOf_perm seed n
  have a : (rowOf seed n).Nodup := p.nodup_iff.mpr List.nodup_range
  have b : ∀ h ∈ rowOf seed n, h < n := fun h hh => List.mem_range.mp (p.mem_iff.mp hh)
  unfold someOf
  split
  · exact ⟨a, b⟩
  · exact ⟨a.sublist (List.take_sublist _ _), fun h hh => b h (List.mem_of_mem_take hh)⟩
theorem fair_eq (ns : List Int) (k : Nat) (hk : k ≤ 100) : ∃ F : Fair, F.Ok ∧ m_law_fair [scrD ns, .int (k : Nat)] = .ok (encF F) := by
  have a1 : ∀ i : Nat, m_law_cell [scrD ns, .int ((k : Int) + 1 + (i : Int))] = .ok (.int (cell ns (k + 1 + i))) := fun i => by
    have := cell_eq ns (k + 1 + i); simpa using this
  have a6 : ∀ i : Nat, m_law_cell [scrD ns, .int ((k : Int) + 6 + (i : Int))] = .ok (.int (cell ns (k + 6 + i))) := fun i => by
    have := cell_eq ns (k + 6 + i); simpa using this
  have key : ∀ (c : Int) (G HH : Nat) (full : Bool), 1 ≤ G → G ≤ 5 → 1 ≤ HH → HH ≤ 5 → ∃ F : Fair, F.Ok ∧
    (sSeq (sSet 6 (eLst eNil)) (sSeq (sFor (iRange (eCons (eVar 3) eNil)) (tName 7) (sSeq (sApp 6 (eFn m_law_some (eCons (eOp dAdd (eFn m_law_cell (eCons (eVar 0) (eCons (eOp dAdd (eOp dAdd (eVar 1) (eC (.int 1))) (eVar 7)) eNil))) (eOp dMul (eOp dMul (eC (.int 17)) (eVar 7)) (eVar 7))) (eCons (eVar 4) (eCons (eVar 5) eNil))))) .nx)) (sSeq (sSet 8 (eLst eNil)) (sSeq (sFor (iRange (eCons (eVar 4) eNil)) (tName 7) (sSeq (sSet 9 (eOp dAdd (eFn m_law_cell (eCons (eVar 0) (eCons (eOp dAdd (eOp dAdd (eVar 1) (eC (.int 6))) (eVar 7)) eNil))) (eOp dMul (eOp dMul (eC (.int 13)) (eVar 7)) (eVar 7)))) (sSeq (sSet 10 (eOp dAdd (eOp dAdd (eFn m_law_mix (eCons (eVar 9) (eCons (eC (.int 9923)) (eCons (eC (.int 3)) eNil)))) (eCall gInt (eCons (eVar 5) eNil))) (eOp dMul (eC (.int 2)) (eCall gInt (eCons (eOp dEq (eFn m_law_mix (eCons (eVar 9) (eCons (eC (.int 9907)) (eCons (eC (.int 5)) eNil)))) (eC (.int 1))) eNil))))) (sSeq (sApp 8 (eFlat (eTup (eCons (eVar 10) (eCons (eFn m_law_some (eCons (eVar 9) (eCons (eVar 3) (eCons (eVar 5) eNil)))) eNil))))) .nx)))) (sSeq (sRet (eTup (eCons (eCall gTuple (eCons (eVar 6) eNil)) (eCons (eCall gTuple (eCons (eVar 8) eNil)) eNil)))) .nx)))))
      [some (scrD ns), some (.int k), some (.int c), some (.int (G : Nat)), some (.int (HH : Nat)), some (.bool full), none, none, none, none, none] = .rt (encF F) := by
    intro c G HH full g1 g5 h1 h5
    let fw : Nat → List Nat := fun i => someOf (cell ns (k + 1 + i) + 17 * (i : Int) * i) HH full
    let sd : Nat → Int := fun i => cell ns (k + 6 + i) + 13 * (i : Int) * i
    let bd : Nat → Nat := fun i => (mix (sd i) 9923 3).toNat + (if full then 1 else 0) + (if mix (sd i) 9907 5 = 1 then 2 else 0)
    let fr : Nat → Nat × List Nat := fun i => (bd i, someOf (sd i) G full)
    refine ⟨⟨(List.range G).map fw, (List.range HH).map fr⟩, ⟨by simpa using g1, by simpa using g5, by simpa using h1, by simpa using h5, ?_, ?_⟩, ?_⟩
    · intro l hl
      obtain ⟨i, _, rfl⟩ := List.mem_map.mp hl
      simpa [fw] using someOf_ok _ HH full
    · intro p hp
      obtain ⟨i, _, rfl⟩ := List.mem_map.mp hp
      refine ⟨?_, by simpa [fr] using someOf_ok _ G full⟩
      obtain ⟨m, e, hm⟩ := mix_nat (sd i) 9923 3 (by decide) (by decide)
      simp only [fr, bd, e]
      split <;> split <;> omega
    · simp
      refine for_pre encN (List.range G) (fun ys env => ∃ j, env = [some (scrD ns), some (.int k), some (.int c), some (.int (G : Nat)), some (.int (HH : Nat)), some (.bool full), some (.list (ys.map fun i => encTN (fw i))), j, none, none, none]) (by simp [show G ≤ 100000 by omega]) ⟨none, by simp⟩ ?_ ?_
      · rintro ys x zs env e ⟨j, rfl⟩
        have hl : ys.length < G := by have := congrArg List.length e; simp at this; omega
        have hx : x < G := by have : x ∈ List.range G := e ▸ by simp
                              exact List.mem_range.mp this
        have s1 : small (17 * (x : Int)) = true := small_of (by omega) (by omega)
        simp [encN, a1, show small 17 = true from by decide, s1, some_eq, show HH ≤ 100 by omega, show ys.length < 100000 by omega, fw]
      · rintro env ⟨j, rfl⟩
        simp
        refine for_pre encN (List.range HH) (fun ys env => ∃ j1 j2 j3, env = [some (scrD ns), some (.int k), some (.int c), some (.int (G : Nat)), some (.int (HH : Nat)), some (.bool full), some (.list ((List.range G).map fun i => encTN (fw i))), j1, some (.list (ys.map fun i => encR (fr i))), j2, j3]) (by simp [show HH ≤ 100000 by omega]) ⟨_, _, _, rfl⟩ ?_ ?_
        · rintro ys x zs env e ⟨j1, j2, j3, rfl⟩
          have hl : ys.length < HH := by have := congrArg List.length e; simp at this; omega
          have hx : x < HH := by have : x ∈ List.range HH := e ▸ by simp
                                 exact List.mem_range.mp this
          have s1 : small (13 * (x : Int)) = true := small_of (by omega) (by omega)
          obtain ⟨m, em, hm⟩ := mix_nat (sd x) 9923 3 (by decide) (by decide)
          have e2 : (m : Int) + (if full = true then 1 else 0) + 2 * (if mix (sd x) 9907 5 = 1 then 1 else 0) = ((bd x : Nat) : Int) := by
            simp only [bd, em]; split <;> split <;> simp
          simp only [sd] at em e2
          simp [encN, a6, show small 13 = true from by decide, show small 2 = true from by decide, s1, mix_eq, em, some_eq, show G ≤ 100 by omega, show ys.length < 100000 by omega, flat_encTN, e2, encR, encP, fr, sd]
        · rintro env ⟨j1, j2, j3, rfl⟩
          simp [encF, encT, Function.comp_def]
  obtain ⟨n4, e4, h4⟩ := mix_nat (cell ns k) 9973 4 (by decide) (by decide)
  obtain ⟨n5, e5, h5⟩ := mix_nat (cell ns k) 9967 5 (by decide) (by decide)
  obtain ⟨m5, f5, k5⟩ := mix_nat (cell ns k) 9973 5 (by decide) (by decide)
  obtain ⟨m3, f3, k3⟩ := mix_nat (cell ns k) 9967 3 (by decide) (by decide)
  have cst : ∀ x : Nat, (1 : Int) + x = ((1 + x : Nat) : Int) := fun x => by omega
  rw [m_law_fair, g_law_fair]
  by_cases hl : mix (cell ns 0 + 7 * ns.length) 9871 8 = 3 <;> by_cases hn : (63 : Int) < ns.length
  · obtain ⟨F, ok, e⟩ := key (cell ns k) (1 + m5) (1 + m3) (decide (mix (cell ns k) 9949 2 = 0)) (by omega) (by omega) (by omega) (by omega)
    refine ⟨F, ok, fn_rt rfl ?_⟩
    rw [← e]; simp [mix_eq, large_eq, hl, hn, e4, e5, f5, f3]
  · obtain ⟨F, ok, e⟩ := key (cell ns k) (1 + m5) (1 + m3) (decide (mix (cell ns k) 9949 2 = 0)) (by omega) (by omega) (by omega) (by omega)
    refine ⟨F, ok, fn_rt rfl ?_⟩
    rw [← e]; simp [mix_eq, large_eq, hl, hn, e4, e5, f5, f3]
  · obtain ⟨F, ok, e⟩ := key (cell ns k) (1 + m5) (1 + m3) (decide (mix (cell ns k) 9949 2 = 0)) (by omega) (by omega) (by omega) (by omega)
    refine ⟨F, ok, fn_rt rfl ?_⟩
    rw [← e]; simp [mix_eq, large_eq, hl, hn, e4, e5, f5, f3]
  · obtain ⟨F, ok, e⟩ := key (cell ns k) (1 + n4) (1 + n5) (decide (mix (cell ns k) 9949 2 = 0)) (by omega) (by omega) (by omega) (by omega)
    refine ⟨F, ok, fn_rt rfl ?_⟩
    rw [← e]; simp [mix_eq, large_eq, hl, hn, e4, e5, f5, f3]
end MA

set_option Elab.async false
set_option linter.all false
set_option maxRecDepth 100000
namespace MA
open PySem PySem.Spec L2 PV GS
open PyProof.Rows hiding St
/-! ### a fair's parts -/
def Fair.w (F : Fair) (g : Nat) : List Nat := F.W.getD g []
def Fair.c (F : Fair) (h : Nat) : Nat := (F.R.getD h (0, [])).1
def Fair.l (F : Fair) (h : Nat) : List Nat := (F.R.getD h (0, [])).2
abbrev Fair.G (F : Fair) : Nat := F.W.length
abbrev Fair.H (F : Fair) : Nat := F.R.length
def Fair.fit (F : Fair) (g h : Nat) : Bool := decide (h ∈ F.w g) && decide (g ∈ F.l h)
def Fair.ch (F : Fair) (g : Nat) : List Nat := (F.w g).filter fun h => decide (g ∈ F.l h)
section
variable {α : Type} (f : α → PyData) (l : List α)
@[simp] theorem seqOf_T : seqOf (encT f l) = .ok (l.map f) := nr rfl
@[simp] theorem seqOf_L : seqOf (encL f l) = .ok (l.map f) := nr rfl
@[simp] theorem isSeqD_T : isSeqD (encT f l) = true := nr rfl
@[simp] theorem isSeqD_L : isSeqD (encL f l) = true := nr rfl
@[simp] theorem gLen_T : gLen [encT f l] = some (.int l.length) := nr (by simp [encT])
@[simp] theorem gLen_L : gLen [encL f l] = some (.int l.length) := nr (by simp [encL])
@[simp] theorem gTuple_T : gTuple [encT f l] = some (encT f l) := nr rfl
@[simp] theorem gTuple_L : gTuple [encL f l] = some (encT f l) := nr rfl
@[simp] theorem gList_T : gList [encT f l] = some (encL f l) := nr rfl
@[simp] theorem gList_L : gList [encL f l] = some (encL f l) := nr rfl
@[simp] theorem isTup_T : isTup (encT f l) = true := nr rfl
@[simp] theorem isTup_L : isTup (encL f l) = false := nr rfl
@[simp] theorem isList_T : isList (encT f l) = false := nr rfl
@[simp] theorem isList_L : isList (encL f l) = true := nr rfl
@[simp] theorem truD_T : truD (encT f l) = some (!l.isEmpty) := nr (by simp [encT])
@[simp] theorem truD_L : truD (encL f l) = some (!l.isEmpty) := nr (by simp [encL])
theorem dIx_T (i : Nat) (d : α) (h : i < l.length) : dIx (encT f l) (.int (i : Nat)) = some (f (l.getD i d)) := by simp [encT, h]
theorem dIx_L (i : Nat) (d : α) (h : i < l.length) : dIx (encL f l) (.int (i : Nat)) = some (f (l.getD i d)) := by simp [encL, h]
end
@[simp] theorem flat_T (l : List Nat) : flat (encT encN l) = true := by simp [encT, flatL_map flat_encN]
@[simp] theorem flat_N (n : Nat) : flat (encN n) = true := rfl
@[simp] theorem flat_O (o : Option Nat) : flat (encO o) = true := by cases o <;> rfl
@[simp] theorem flat_TO (l : List (Option Nat)) : flat (encT encO l) = true := by simp [encT, flatL_map flat_O]
@[simp] theorem encF_0 (F : Fair) : dIx (encF F) (.int 0) = some (encT encTN F.W) := by simp [encF]
@[simp] theorem encF_1 (F : Fair) : dIx (encF F) (.int 1) = some (encT encR F.R) := by simp [encF]
@[simp] theorem encW_ix (F : Fair) (g : Nat) (h : g < F.W.length) : dIx (encT encTN F.W) (.int (g : Nat)) = some (encT encN (F.w g)) := dIx_T _ _ g [] h
@[simp] theorem encR_ix (F : Fair) (g : Nat) (h : g < F.R.length) : dIx (encT encR F.R) (.int (g : Nat)) = some (.tuple [.int (F.c g), encT encN (F.l g)]) := dIx_T encR F.R g (0, []) h
@[simp] theorem encN_in (g : Nat) (l : List Nat) : dIn (.int (g : Nat)) (encT encN l) = some (.bool (decide (g ∈ l))) := dIn_T good_N atom_N g l
@[simp] theorem encN_inL (g : Nat) (l : List Nat) : dIn (.int (g : Nat)) (encL encN l) = some (.bool (decide (g ∈ l))) := dIn_L good_N (by decide) g l
@[simp] theorem encN_notInL (g : Nat) (l : List Nat) : dNotIn (.int (g : Nat)) (encL encN l) = some (.bool (!decide (g ∈ l))) := dNotIn_L good_N (by decide) g l
@[simp] theorem encLN_eq (l m : List Nat) : dEq (encL encN l) (encL encN m) = some (.bool (decide (l = m))) := dEq_of (good_L good_N) (by decide) l m
theorem list_map {α : Type} (f : α → PyData) (l : List α) : PyData.list (l.map f) = encL f l := rfl
theorem tuple_map {α : Type} (f : α → PyData) (l : List α) : PyData.tuple (l.map f) = encT f l := rfl
theorem Fair.Ok.w' {F : Fair} (h : F.Ok) (g : Nat) : (F.w g).Nodup ∧ ∀ x ∈ F.w g, x < F.R.length := by
  by_cases hg : g < F.W.length
  · exact h.w _ (by simp [Fair.w, hg])
  · simp [Fair.w, Nat.not_lt.mp hg]
theorem Fair.Ok.l' {F : Fair} (h : F.Ok) (x : Nat) : F.c x ≤ 5 ∧ (F.l x).Nodup ∧ ∀ g ∈ F.l x, g < F.W.length := by
  by_cases hg : x < F.R.length
  · have := h.r (F.R.getD x (0, [])) (by simp [hg]); exact this
  · simp [Fair.l, Fair.c, Nat.not_lt.mp hg]
theorem nodup_len {l : List Nat} {n : Nat} (h : l.Nodup) (k : ∀ x ∈ l, x < n) : l.length ≤ n := by
  have := h.length_le_of_subset (l₂ := List.range n) fun x hx => List.mem_range.mpr (k x hx)
  simpa using this
theorem Fair.Ok.wlen {F : Fair} (h : F.Ok) (g : Nat) : (F.w g).length ≤ 5 := Nat.le_trans (nodup_len (h.w' g).1 (h.w' g).2) h.r5
theorem Fair.Ok.llen {F : Fair} (h : F.Ok) (x : Nat) : (F.l x).length ≤ 5 := Nat.le_trans (nodup_len (h.l' x).2.1 (h.l' x).2.2) h.w5
theorem ch_sub (F : Fair) (g : Nat) : (F.ch g).Sublist (F.w g) := List.filter_sublist
theorem Fair.Ok.ch' {F : Fair} (h : F.Ok) (g : Nat) : (F.ch g).Nodup ∧ ∀ x ∈ F.ch g, x < F.R.length := ⟨(h.w' g).1.sublist (ch_sub F g), fun x hx => (h.w' g).2 x ((ch_sub F g).subset hx)⟩
theorem Fair.Ok.chlen {F : Fair} (h : F.Ok) (g : Nat) : (F.ch g).length ≤ 5 := Nat.le_trans (ch_sub F g).length_le (h.wlen g)
theorem fit_ch (F : Fair) (g h : Nat) : F.fit g h = decide (h ∈ F.ch g) := by
  rw [Bool.eq_iff_iff]; simp [Fair.fit, Fair.ch]
variable {F : Fair} (ok : F.Ok)
include ok
theorem fits_eq (g h : Nat) (hg : g < F.W.length) (hh : h < F.R.length) : m_fits [encF F, .int (g : Nat), .int (h : Nat)] = .ok (.bool (F.fit g h)) := by
  simp [m_fits, g_fits, mkFn, hg, hh, Fair.fit]
  by_cases e : h ∈ F.w g <;> simp [e]
theorem choices_eq (g : Nat) (hg : g < F.W.length) : m_choices [encF F, .int (g : Nat)] = .ok (encL encN (F.ch g)) := by
  refine fn_rt rfl ?_
  simp [g_choices, hg]
  rw [compD_run encN (F.fit g) encN (F.w g) (fun x hx => by
    have hh := (ok.w' g).2 x hx
    simp [encN, fits_eq ok, hg, hh])]
  have e : (F.w g).filter (F.fit g) = F.ch g := List.filter_congr fun x hx => by simp [Fair.fit, hx]
  have := ok.chlen g
  simp [e, show (F.ch g).length ≤ 100000 by omega, encL]
theorem law_fits_eq (g : Nat) (hg : g < F.W.length) : m_law_fits [encF F, .int (g : Nat)] = .ok (encL encN (F.ch g)) := by
  refine fn_rt rfl ?_
  simp [g_law_fits]
  refine for_pre encN (F.w g) (fun ys env => ∃ j, env = [some (encF F), some (.int (g : Nat)), some (encL encN (ys.filter fun h => decide (g ∈ F.l h))), j]) (by simp [hg]) ⟨none, by simp [encL]⟩ ?_ ?_
  · rintro ys x zs env e ⟨j, rfl⟩
    have hx : x ∈ F.w g := e ▸ by simp
    have hh := (ok.w' g).2 x hx
    have hl := ok.wlen g
    have hl2 : (F.w g).length = ys.length + (zs.length + 1) := by rw [e]; simp
    have hl3 := List.length_filter_le (fun h => decide (g ∈ F.l h)) ys
    by_cases hm : g ∈ F.l x
    · simp [encN, hh, hm, encL, show (ys.filter fun h => decide (g ∈ F.l h)).length < 100000 by omega]
    · simp [encN, hh, hm, encL]
  · rintro env ⟨j, rfl⟩
    simp [Fair.ch]
end MA

set_option Elab.async false
set_option linter.all false
set_option maxRecDepth 100000
namespace MA
open PySem PySem.Spec L2 PV GS
open PyProof.Rows hiding St
theorem emod_nat (a : Int) (n : Nat) (h : 0 < n) : ∃ m : Nat, a % (n : Int) = m ∧ m < n := by
  have h1 := Int.emod_nonneg a (b := n) (by omega)
  have h2 := Int.emod_lt_of_pos a (b := n) (by omega)
  exact ⟨(a % (n : Int)).toNat, by omega, by omega⟩
/-! ### lodgings -/
abbrev Lod := List (Option Nat)
abbrev encLd (L : Lod) : PyData := encT encO L
def Fair.rank (F : Fair) (g : Nat) : Option Nat → Nat
  | none => (F.ch g).length
  | some h => (F.ch g).idxOf h
def at0 (L : Lod) (g : Nat) : Option Nat := L.getD g none
def Fair.rk (F : Fair) (L : Lod) (g : Nat) : Nat := F.rank g (at0 L g)
structure Lodg (F : Fair) (L : Lod) : Prop where
  len : L.length = F.W.length
  fit : ∀ g h, at0 L g = some h → h ∈ F.ch g
  cap : ∀ h, L.count (some h) ≤ F.c h
theorem fit0 {F : Fair} {g : Nat} {o : Option Nat} (h : ∀ x, o = some x → x ∈ F.ch g) : F.rank g o = (F.ch g).length ↔ o = none := by
  cases o with
  | none => simp [Fair.rank]
  | some x => simp [Fair.rank]; have := List.idxOf_lt_length_iff.mpr (h x rfl); omega
@[simp] theorem dIs_nn : dIs .none .none = some (.bool true) := nr rfl
@[simp] theorem dIs_in (i) : dIs (.int i) .none = some (.bool false) := nr rfl
@[simp] theorem dIs_tn (i) : dIs (.tuple i) .none = some (.bool false) := nr rfl
@[simp] theorem dIsN_nn : dIsN .none .none = some (.bool false) := nr rfl
@[simp] theorem dIsN_in (i) : dIsN (.int i) .none = some (.bool true) := nr rfl
@[simp] theorem dIsN_tn (i) : dIsN (.tuple i) .none = some (.bool true) := nr rfl
@[simp] theorem dIs_O (o : Option Nat) : dIs (encO o) .none = some (.bool o.isNone) := by cases o <;> rfl
@[simp] theorem dIsN_O (o : Option Nat) : dIsN (encO o) .none = some (.bool o.isSome) := by cases o <;> rfl
@[simp] theorem dEq_O (o p : Option Nat) : dEq (encO o) (encO p) = some (.bool (decide (o = p))) := dEq_of good_O (by decide) o p
@[simp] theorem dEq_ON (o : Option Nat) (p : Nat) : dEq (encO o) (.int (p : Nat)) = some (.bool (decide (o = some p))) := dEq_of good_O (by decide) o (some p)
theorem idxD_map {α : Type} {n : Nat} {f : α → PyData} (h : Good n f) [BEq α] [LawfulBEq α] (x : α) : ∀ xs : List α, x ∈ xs → idxD (f x) (xs.map f) = some (xs.idxOf x)
  | [], hx => by simp at hx
  | y :: ys, hx => by
    simp only [List.map_cons, idxD]
    by_cases e : y = x
    · subst e; simp [(h.eqv y y).mpr rfl]
    · have e1 : PyData.eqv (f y) (f x) = false := by rw [Bool.eq_false_iff]; exact fun k => e ((h.eqv y x).mp k)
      have hx' : x ∈ ys := by simp at hx; rcases hx with r | r; exact absurd r.symm e; exact r
      simp [e1, idxD_map h x ys hx', List.idxOf_cons, beq_eq_false_iff_ne.mpr e]
theorem dIndex_L {α : Type} {n : Nat} {f : α → PyData} (h : Good n f) (ha : ∀ a, atom (f a) = true) [BEq α] [LawfulBEq α] (x : α) (xs : List α) (hx : x ∈ xs) : dIndex (encL f xs) (f x) = some (.int (xs.idxOf x : Nat)) := by
  simp only [dIndex, ha, if_true, encL, seqAtoms, all_atom_map ha, Option.bind_some, idxD_map h x xs hx, Option.map_some]
theorem dIndex_T {α : Type} {n : Nat} {f : α → PyData} (h : Good n f) (ha : ∀ a, atom (f a) = true) [BEq α] [LawfulBEq α] (x : α) (xs : List α) (hx : x ∈ xs) : dIndex (encT f xs) (f x) = some (.int (xs.idxOf x : Nat)) := by
  simp only [dIndex, ha, if_true, encT, seqAtoms, all_atom_map ha, Option.bind_some, idxD_map h x xs hx, Option.map_some]
@[simp] theorem dIndex_LN (x : Nat) (xs : List Nat) (hx : x ∈ xs) : dIndex (encL encN xs) (.int (x : Nat)) = some (.int (xs.idxOf x : Nat)) := dIndex_L good_N atom_N x xs hx
@[simp] theorem dIndex_TN (x : Nat) (xs : List Nat) (hx : x ∈ xs) : dIndex (encT encN xs) (.int (x : Nat)) = some (.int (xs.idxOf x : Nat)) := dIndex_T good_N atom_N x xs hx
theorem countP_map {α : Type} {n : Nat} {f : α → PyData} (h : Good n f) [BEq α] [LawfulBEq α] (x : α) (xs : List α) : (xs.map f).countP (fun d => PyData.eqv d (f x)) = xs.count x := by
  rw [List.countP_map, List.count]
  congr 1; funext y; simp only [Function.comp]; rw [Bool.eq_iff_iff, h.eqv, beq_iff_eq]
@[simp] theorem dCount_LO (x : Nat) (xs : Lod) : dCount (.list (xs.map encO)) (.int (x : Nat)) = some (.int (xs.count (some x) : Nat)) := by
  have := countP_map good_O (some x) xs
  simp only [encO] at this
  simp only [dCount, atom_O (some x), show atom (.int (x : Nat)) = true from rfl, if_true, seqAtoms, all_atom_map atom_O, Option.map_some, this]
@[simp] theorem dCount_TO (x : Nat) (xs : Lod) : dCount (encT encO xs) (.int (x : Nat)) = some (.int (xs.count (some x) : Nat)) := by
  have := countP_map good_O (some x) xs
  simp only [encO] at this
  simp only [dCount, encT, show atom (.int (x : Nat)) = true from rfl, if_true, seqAtoms, all_atom_map atom_O, Option.map_some, this]
@[simp] theorem encLd_ix (L : Lod) (g : Nat) (h : g < L.length) : dIx (encT encO L) (.int (g : Nat)) = some (encO (at0 L g)) := dIx_T encO L g none h
theorem at0_snoc {L : Lod} {q : Option Nat} {g h : Nat} (e : at0 (L ++ [q]) g = some h) : at0 L g = some h ∨ (g = L.length ∧ q = some h) := by
  simp only [at0, List.getD_eq_getElem?_getD] at *
  by_cases h1 : g < L.length
  · left; rwa [List.getElem?_append_left h1] at e
  · by_cases h2 : g = L.length
    · subst h2; right; simpa using e
    · rw [List.getElem?_eq_none (by simp; omega)] at e; simp at e
variable {F : Fair} (ok : F.Ok)
include ok
theorem place_eq (g : Nat) (o : Option Nat) (hg : g < F.W.length) (hf : ∀ h, o = some h → h ∈ F.ch g) : m_place_of [encF F, .int (g : Nat), encO o] = .ok (.int (F.rank g o : Nat)) := by
  refine fn_rt rfl ?_
  cases o with
  | none => simp [g_place_of, choices_eq ok, hg, Fair.rank]
  | some h => simp [g_place_of, choices_eq ok, hg, Fair.rank]; simp [encO, hf h rfl]
theorem law_rank_eq (g : Nat) (o : Option Nat) (hg : g < F.W.length) : m_law_rank [encF F, .int (g : Nat), encO o] = .ok (.int (F.rank g o : Nat)) := by
  refine fn_rt rfl ?_
  have e0 : encL encN (F.ch g) = encL encO ((F.ch g).map some) := by simp [encL, Function.comp_def, encO, encN]
  have e : dIn (encO o) (encL encN (F.ch g)) = some (.bool (decide (o ∈ (F.ch g).map some))) := by
    rw [e0]; exact dIn_L good_O (by decide) o _
  cases o with
  | none => simp [g_law_rank, law_fits_eq ok, hg, Fair.rank, e]
  | some h =>
    by_cases hm : h ∈ F.ch g
    · simp [g_law_rank, law_fits_eq ok, hg, Fair.rank, e, hm]; simp [encO, hm]
    · simp [g_law_rank, law_fits_eq ok, hg, Fair.rank, e, hm, List.idxOf_eq_length]
theorem law_rk_eq (L : Lod) (g : Nat) (hg : g < F.W.length) : m_law_rank [encF F, .int (g : Nat), encO (at0 L g)] = .ok (.int (F.rk L g : Nat)) := law_rank_eq ok g _ hg
theorem place_rk_eq (L : Lod) (g : Nat) (hg : g < F.W.length) (hf : ∀ h, at0 L g = some h → h ∈ F.ch g) : m_place_of [encF F, .int (g : Nat), encO (at0 L g)] = .ok (.int (F.rk L g : Nat)) := place_eq ok g _ hg hf
theorem likes_eq (g : Nat) (o p : Option Nat) (hg : g < F.W.length) (hf : ∀ h, o = some h → h ∈ F.ch g) (hp : ∀ h, p = some h → h ∈ F.ch g) : m_likes [encF F, .int (g : Nat), encO o, encO p] = .ok (.bool (decide (F.rank g o < F.rank g p))) := by
  refine fn_rt rfl ?_
  simp [g_likes, place_eq ok g _ hg hf, place_eq ok g _ hg hp]
theorem no_worse_eq (L M : Lod) (hL : Lodg F L) (hM : Lodg F M) : m_no_worse [encF F, encLd L, encLd M] = .ok (.bool (decide (∀ g, g < F.W.length → F.rk L g ≤ F.rk M g))) := by
  refine fn_rt rfl ?_
  simp [g_no_worse]
  have w5 := ok.w5
  refine for_find encN (List.range F.W.length) (fun g => decide (F.rk M g < F.rk L g)) (fun _ => .bool false) (fun _ env => ∃ j, env = [some (encF F), some (encLd L), some (encLd M), j]) (by simp [show F.W.length ≤ 100000 by omega]) ⟨_, rfl⟩ ?_ ?_ ?_
  · rintro ys g zs env e ⟨j, rfl⟩
    have hg : g < F.W.length := List.mem_range.mp (e ▸ by simp)
    have p1 := place_eq ok g _ hg (hL.fit g)
    have p2 := place_eq ok g _ hg (hM.fit g)
    simp [encN, hg, hL.len, hM.len, p1, p2, Fair.rk]
    by_cases hh : F.rank g (at0 M g) < F.rank g (at0 L g) <;> simp [hh] <;> omega
  · intro g hg
    have h1 := List.find?_some hg
    have h2 := List.mem_of_find?_eq_some hg
    simp at h1 h2 ⊢
    exact ⟨g, h2, h1⟩
  · rintro hn env ⟨j, rfl⟩
    simp at hn ⊢
    exact hn
theorem lodging_eq (ns : List Int) (k : Nat) (hk : k ≤ 100) : ∃ L : Lod, Lodg F L ∧ m_law_lodging [encF F, scrD ns, .int (k : Nat)] = .ok (encLd L) := by
  have a1 : ∀ i : Nat, m_law_cell [scrD ns, .int ((k : Int) + (i : Int))] = .ok (.int (cell ns (k + i))) := fun i => by
    have := cell_eq ns (k + i); simpa using this
  have w5 := ok.w5
  suffices h : ∃ L : Lod, Lodg F L ∧ g_law_lodging [some (encF F), some (scrD ns), some (.int (k : Nat)), none, none, none, none, none] = .rt (encLd L) by
    obtain ⟨L, h1, h2⟩ := h; exact ⟨L, h1, fn_rt rfl (by simpa using h2)⟩
  simp [g_law_lodging]
  refine for_preP (P := fun o => ∃ L : Lod, Lodg F L ∧ o = .rt (encLd L)) encN (List.range F.W.length) (fun ys env => ∃ (L : Lod) (j1 j2 j3 j4 : Option PyData), env = [some (encF F), some (scrD ns), some (.int (k : Nat)), some (.list (L.map encO)), j1, j2, j3, j4] ∧ L.length = ys.length ∧
      (∀ g h, at0 L g = some h → h ∈ F.ch g) ∧ ∀ h, L.count (some h) ≤ F.c h) (by simp [show F.W.length ≤ 100000 by omega]) ⟨[], _, _, _, _, rfl, rfl, by simp [at0], by simp⟩ ?_ ?_
  · rintro ys g zs env e ⟨L, j1, j2, j3, j4, rfl, hl, hf, hc⟩
    obtain ⟨hgl, hg⟩ := range_split e
    have s1 : small (7 * (g : Int)) = true := small_of (by omega) (by omega)
    have hcd : ∀ env0 : Lo, True := fun _ => trivial
    have cl := ok.chlen g
    simp [encN, hg, law_fits_eq ok, encL]
    rw [compD_run encN (fun h => decide (L.count (some h) < F.c h)) encN (F.ch g) (fun x hx => by
      have hh := (ok.ch' g).2 x hx
      simp [encN, hh])]
    have fl : ((F.ch g).filter fun h => decide (L.count (some h) < F.c h)).length ≤ 5 := Nat.le_trans (List.length_filter_le _ _) cl
    have fm : ∀ x ∈ (F.ch g).filter (fun h => decide (L.count (some h) < F.c h)), x ∈ F.ch g ∧ L.count (some x) < F.c x := fun x hx => by simpa using hx
    generalize (F.ch g).filter (fun h => decide (L.count (some h) < F.c h)) = fr at *
    obtain ⟨m, em, hm⟩ := mix_nat (cell ns (k + g) + 7 * (g : Int) * g) 9907 (fr.length + 1) (by decide) (by omega)
    have e2 : (fr.map encN ++ [PyData.none]) = ((fr.map some) ++ [none]).map encO := by simp [Function.comp_def, encO, encN]
    have hm' : m < (fr.map some ++ [none]).length := by simp; omega
    obtain ⟨q, hq, e3⟩ : ∃ q, q ∈ (fr.map some ++ [none]) ∧ (fr.map encN ++ [PyData.none])[m]? = some (encO q) := by
      refine ⟨(fr.map some ++ [none])[m], List.getElem_mem _, ?_⟩
      rw [e2, List.getElem?_map, List.getElem?_eq_getElem hm', Option.map_some]
    simp [show fr.length ≤ 100000 by omega, a1, s1, show small 7 = true from by decide, mix_eq, show (0 : Int) < fr.length + 1 by omega, em, show fr.length + 1 ≤ 1000 by omega, e3, show List.length L < 100000 by omega]
    refine ⟨L ++ [q], by simp, by simp [hl], fun g' h' e' => ?_, fun h' => ?_⟩
    · rcases at0_snoc e' with r | ⟨r1, r2⟩
      · exact hf g' h' r
      · subst r2; rw [r1, hl, ← hgl]; simp at hq; exact (fm h' hq).1
    · rw [List.count_append]
      by_cases e' : q = some h'
      · subst e'; simp at hq; have := (fm h' hq).2; simp; omega
      · simp [List.count_cons, e']; exact hc h'
  · rintro env ⟨L, j1, j2, j3, j4, rfl, hl, hf, hc⟩
    simp
    exact ⟨L, ⟨by simpa using hl, hf, hc⟩, rfl⟩
end MA

set_option Elab.async false
set_option linter.all false
set_option maxRecDepth 100000
namespace MT
open MA
/-! ### counting -/
def sumN (f : Nat → Nat) : Nat → Nat
  | 0 => 0
  | n + 1 => sumN f n + f n
def cn (p : Nat → Bool) : Nat → Nat
  | 0 => 0
  | n + 1 => cn p n + (if p n then 1 else 0)
theorem cn_mono {p q : Nat → Bool} : ∀ {n : Nat}, (∀ g, g < n → p g = true → q g = true) → cn p n ≤ cn q n
  | 0, _ => Nat.le_refl _
  | n + 1, h => by
    have ih := cn_mono (n := n) fun g hg => h g (by omega)
    have := h n (by omega)
    simp only [cn]
    cases hp : p n <;> cases hq : q n <;> simp_all <;> omega
theorem cn_lt {p q : Nat → Bool} : ∀ {n : Nat} {x : Nat}, (∀ g, g < n → p g = true → q g = true) → x < n → q x = true → p x = false → cn p n < cn q n
  | 0, _, _, hx, _, _ => by omega
  | n + 1, x, h, hx, hq, hp => by
    have h' := h n (by omega)
    simp only [cn]
    by_cases e : x = n
    · subst e
      have := cn_mono (n := x) (p := p) (q := q) fun g hg => h g (by omega)
      simp [hq, hp]; omega
    · have := cn_lt (n := n) (fun g hg => h g (by omega)) (show x < n by omega) hq hp
      cases hp : p n <;> cases hq : q n <;> simp_all <;> omega
/-- more in q than in p, or as many and one only in p: one only in q -/
theorem cn_ex_lt {p q : Nat → Bool} {n : Nat} (h : cn p n < cn q n) : ∃ x, x < n ∧ q x = true ∧ p x = false := by
  apply Classical.byContradiction
  intro hn
  have := cn_mono (p := q) (q := p) (n := n) fun g hg hq => by
    cases hp : p g with
    | true => rfl
    | false => exact absurd ⟨g, hg, hq, hp⟩ hn
  omega
theorem cn_ex_le {p q : Nat → Bool} {n y : Nat} (h : cn p n ≤ cn q n) (hy : y < n) (hp : p y = true) (hq : q y = false) : ∃ x, x < n ∧ q x = true ∧ p x = false := by
  apply Classical.byContradiction
  intro hn
  have := cn_lt (p := q) (q := p) (n := n) (x := y) (fun g hg hq => by
    cases hp : p g with
    | true => rfl
    | false => exact absurd ⟨g, hg, hq, hp⟩ hn) hy hp hq
  omega
theorem cn_congr {p q : Nat → Bool} {n : Nat} (h : ∀ g, g < n → p g = q g) : cn p n = cn q n :=
  Nat.le_antisymm (cn_mono fun g hg e => h g hg ▸ e) (cn_mono fun g hg e => (h g hg).symm ▸ e)
theorem cn_split (p a : Nat → Bool) : ∀ n, cn p n = cn (fun g => p g && a g) n + cn (fun g => p g && !a g) n
  | 0 => rfl
  | n + 1 => by
    simp only [cn, cn_split p a n]
    by_cases h1 : p n = true <;> by_cases h2 : a n = true <;> simp [h1, h2] <;> omega
theorem sum_add (f g : Nat → Nat) : ∀ n, sumN (fun h => f h + g h) n = sumN f n + sumN g n
  | 0 => rfl
  | n + 1 => by simp only [sumN, sum_add f g n]; omega
theorem sum_zero : ∀ n, sumN (fun _ => 0) n = 0
  | 0 => rfl
  | n + 1 => by simp only [sumN, sum_zero n]
theorem sum_one (k : Nat) : ∀ n, sumN (fun h => if k = h then 1 else 0) n = if k < n then 1 else 0
  | 0 => by simp [sumN]
  | n + 1 => by
    simp only [sumN, sum_one k n]
    by_cases h1 : k < n
    · rw [if_pos h1, if_neg (by omega), if_pos (by omega)]
    · by_cases h2 : k = n
      · rw [if_neg h1, if_pos h2, if_pos (by omega)]
      · rw [if_neg h1, if_neg h2, if_neg (by omega)]
theorem sum_cn (a : Nat → Bool) (f : Nat → Option Nat) (H : Nat) : ∀ n, (∀ g, g < n → ∀ h, f g = some h → h < H) →
    sumN (fun h => cn (fun g => a g && decide (f g = some h)) n) H = cn (fun g => a g && (f g).isSome) n
  | 0, _ => by simp only [cn, sum_zero]
  | n + 1, hf => by
    have ih := sum_cn a f H n fun g hg => hf g (by omega)
    have hn := hf n (by omega)
    simp only [cn, sum_add, ih]
    congr 1
    by_cases ha : a n = true
    · rcases Option.eq_none_or_eq_some (f n) with e | ⟨k, e⟩
      · simp [e, sum_zero]
      · have := hn k e
        simpa [e, this, ha] using sum_one k H
    · simp [ha, sum_zero]
theorem sum_le {f g : Nat → Nat} (h : ∀ x, f x ≤ g x) : ∀ n, sumN f n ≤ sumN g n
  | 0 => Nat.le_refl _
  | n + 1 => by have := sum_le h n; have := h n; simp only [sumN]; omega
theorem sum_eq {f g : Nat → Nat} (h : ∀ x, f x ≤ g x) : ∀ {n : Nat}, sumN g n ≤ sumN f n → ∀ x, x < n → f x = g x
  | 0, _, x, hx => by omega
  | n + 1, hs, x, hx => by
    have h1 := sum_le h n; have h2 := h n
    simp only [sumN] at hs
    by_cases e : x = n
    · subst e; omega
    · exact sum_eq h (n := n) (by omega) x (by omega)

/-! ### steadiness -/
abbrev As := Nat → Option Nat
def inn (M : As) (h : Nat) : Nat → Bool := fun g => decide (M g = some h)
def cnt (F : Fair) (M : As) (h : Nat) : Nat := cn (inn M h) F.W.length
def pr (F : Fair) (h g : Nat) : Nat := (F.l h).idxOf g
structure Lo' (F : Fair) (M : As) : Prop where
  fit : ∀ g h, M g = some h → h ∈ F.ch g
  cap : ∀ h, cnt F M h ≤ F.c h
def Blk (F : Fair) (M : As) (g h : Nat) : Prop := h ∈ F.ch g ∧ F.rank g (some h) < F.rank g (M g) ∧ (cnt F M h < F.c h ∨ ∃ g', M g' = some h ∧ pr F h g < pr F h g')
structure Stb (F : Fair) (M : As) : Prop extends Lo' F M where
  no : ∀ g h, ¬ Blk F M g h
section
variable {F : Fair} (ok : F.Ok)
theorem ch_facts {F : Fair} (ok : F.Ok) {g h : Nat} (e : h ∈ F.ch g) : g < F.W.length ∧ h < F.R.length ∧ g ∈ F.l h := by
  have h1 := (ok.ch' g).2 h e
  have h2 : g ∈ F.l h := by simp only [Fair.ch, List.mem_filter, decide_eq_true_eq] at e; exact e.2
  exact ⟨(ok.l' h).2.2 g h2, h1, h2⟩
theorem pr_inj {F : Fair} {h g g' : Nat} (a : g ∈ F.l h) (b : g' ∈ F.l h) (e : pr F h g = pr F h g') : g = g' := by
  have h1 := List.idxOf_lt_length_iff.mpr a
  have h2 := List.idxOf_lt_length_iff.mpr b
  have e1 := List.getElem_idxOf h1
  have e2 := List.getElem_idxOf h2
  simp only [pr] at e
  rw [← e1, ← e2]; congr 1
theorem rank_some_lt {F : Fair} {g h : Nat} : F.rank g (some h) < F.rank g none ↔ h ∈ F.ch g := List.idxOf_lt_length_iff
theorem rank_le {F : Fair} (g : Nat) (o : Option Nat) : F.rank g o ≤ F.rank g none := by
  cases o with
  | none => exact Nat.le_refl _
  | some h => exact List.idxOf_le_length
theorem rank_inj {F : Fair} {g : Nat} {o p : Option Nat} (a : ∀ h, o = some h → h ∈ F.ch g) (b : ∀ h, p = some h → h ∈ F.ch g) (e : F.rank g o = F.rank g p) : o = p := by
  cases o with
  | none =>
    cases p with
    | none => rfl
    | some k => have := rank_some_lt.mpr (b k rfl); omega
  | some h =>
    cases p with
    | none => have := rank_some_lt.mpr (a h rfl); omega
    | some k =>
      have h1 := List.idxOf_lt_length_iff.mpr (a h rfl)
      have h2 := List.idxOf_lt_length_iff.mpr (b k rfl)
      have e1 := List.getElem_idxOf h1
      have e2 := List.getElem_idxOf h2
      simp only [Fair.rank] at e
      congr 1; rw [← e1, ← e2]; congr 1
include ok
/-- what a guest that likes M better at h tells of N -/
theorem opp {M N : As} (hM : Lo' F M) (hN : Stb F N) {g h : Nat} (e : M g = some h) (lt : F.rank g (M g) < F.rank g (N g)) :
    cnt F N h = F.c h ∧ ∀ x, N x = some h → pr F h x < pr F h g := by
  have hc := hM.fit g h e
  have nb := hN.no g h
  rw [e] at lt
  have n1 : ¬ cnt F N h < F.c h := fun k => nb ⟨hc, lt, .inl k⟩
  have n2 : ∀ x, N x = some h → ¬ pr F h g < pr F h x := fun x hx k => nb ⟨hc, lt, .inr ⟨x, hx, k⟩⟩
  refine ⟨by have := hN.cap h; omega, fun x hx => ?_⟩
  have h1 := n2 x hx
  have h2 : pr F h x ≠ pr F h g := fun k => by
    have := pr_inj (ch_facts ok (hN.fit x h hx)).2.2 (ch_facts ok hc).2.2 k
    subst this; rw [hx] at lt; omega
  omega
/-- the heart: of two steady ones -/
theorem two {M N : As} (hM : Stb F M) (hN : Stb F N) :
    (∀ g, F.rank g (M g) < F.rank g (N g) → (N g).isSome) ∧
    (∀ h, (∃ g, M g = some h ∧ F.rank g (M g) < F.rank g (N g)) →
      (cnt F M h = F.c h ∧ cnt F N h = F.c h) ∧ (∀ x, N x = some h → M x ≠ some h → F.rank x (M x) < F.rank x (N x)) ∧ (∀ x, M x = some h → N x ≠ some h → F.rank x (M x) < F.rank x (N x))) ∧
    (∀ h, (∃ g, N g = some h ∧ F.rank g (M g) < F.rank g (N g)) → ∃ g, M g = some h ∧ F.rank g (M g) < F.rank g (N g)) := by
  let A : Nat → Bool := fun g => decide (F.rank g (M g) < F.rank g (N g))
  have hA : ∀ g, A g = true ↔ F.rank g (M g) < F.rank g (N g) := fun g => by simp [A]
  have hin : ∀ {K : As}, Lo' F K → ∀ g, g < F.W.length → ∀ h, K g = some h → h < F.R.length := fun {K} hK g _ h e => (ch_facts ok (hK.fit g h e)).2.1
  have gl : ∀ {K : As}, Lo' F K → ∀ {g h}, K g = some h → g < F.W.length := fun {K} hK {g h} e => (ch_facts ok (hK.fit g h e)).1
  -- those of N in h that are not in M are of A
  have key : ∀ h, (∃ g, M g = some h ∧ A g = true) → cnt F N h = F.c h ∧ ∀ x, N x = some h → M x ≠ some h → A x = true := by
    rintro h ⟨g, e, ha⟩
    have ⟨o1, o2⟩ := opp ok hM.toLo' hN e ((hA g).mp ha)
    refine ⟨o1, fun x hx hne => (hA x).mpr ?_⟩
    rcases Nat.lt_trichotomy (F.rank x (M x)) (F.rank x (N x)) with k | k | k
    · exact k
    · exact absurd ((rank_inj (fun h => hM.fit x h) (fun h => hN.fit x h) k).trans hx) hne
    · have := (opp ok hN.toLo' hM hx k).2 g e
      have := o2 x hx
      omega
  let a : Nat → Nat := fun h => cn (fun g => A g && decide (M g = some h)) F.W.length
  let b : Nat → Nat := fun h => cn (fun g => A g && decide (N g = some h)) F.W.length
  -- of the whole of M and N
  have cM : ∀ h, cnt F M h = cn (fun g => inn M h g && inn N h g) F.W.length + cn (fun g => inn M h g && !inn N h g) F.W.length := fun h => cn_split _ _ _
  have cN : ∀ h, cnt F N h = cn (fun g => inn N h g && inn M h g) F.W.length + cn (fun g => inn N h g && !inn M h g) F.W.length := fun h => cn_split _ _ _
  have cc : ∀ h, cn (fun g => inn M h g && inn N h g) F.W.length = cn (fun g => inn N h g && inn M h g) F.W.length := fun h => cn_congr fun g _ => Bool.and_comm _ _
  have aM : ∀ h, a h ≤ cn (fun g => inn M h g && !inn N h g) F.W.length := fun h => cn_mono fun g _ k => by
    simp only [Bool.and_eq_true, decide_eq_true_eq, Bool.not_eq_true', decide_eq_false_iff_not, inn] at k ⊢
    refine ⟨k.2, fun e => ?_⟩
    have := (hA g).mp k.1; rw [k.2, e] at this; omega
  have ab : ∀ h, a h ≤ b h := by
    intro h
    by_cases e : ∃ g, M g = some h ∧ A g = true
    · have ⟨k1, k2⟩ := key h e
      have m1 : cn (fun g => inn N h g && !inn M h g) F.W.length ≤ b h := cn_mono fun g _ k => by
        simp only [Bool.and_eq_true, decide_eq_true_eq, Bool.not_eq_true', decide_eq_false_iff_not, inn] at k ⊢
        exact ⟨k2 g k.1 k.2, k.1⟩
      have := cM h; have := cN h; have := cc h; have := aM h; have := hM.cap h
      omega
    · have z : a h ≤ cn (fun _ => false) F.W.length := cn_mono fun g _ k => by
        simp only [Bool.and_eq_true, decide_eq_true_eq] at k
        exact absurd ⟨g, k.2, k.1⟩ e
      have zz : ∀ n, cn (fun _ => false) n = 0 := fun n => by induction n with
        | zero => rfl
        | succ n ih => simp [cn, ih]
      rw [zz] at z; omega
  have sa := sum_cn A M F.R.length F.W.length (hin hM.toLo')
  have sb := sum_cn A N F.R.length F.W.length (hin hN.toLo')
  have allM : ∀ g, A g = true → (M g).isSome := fun g ha => by
    cases e : M g with
    | some h => rfl
    | none => have := (hA g).mp ha; rw [e] at this; have := rank_le (F := F) g (N g); omega
  have e1 : cn (fun g => A g && (N g).isSome) F.W.length ≤ cn (fun g => A g && (M g).isSome) F.W.length := cn_mono fun g _ k => by
    simp only [Bool.and_eq_true] at k ⊢; exact ⟨k.1, allM g k.1⟩
  have eq := sum_eq ab (n := F.R.length) (by show sumN b _ ≤ sumN a _; rw [show sumN b F.R.length = _ from sb, show sumN a F.R.length = _ from sa]; exact e1)
  have le := sum_le ab F.R.length
  have e2 : cn (fun g => A g && (M g).isSome) F.W.length ≤ cn (fun g => A g && (N g).isSome) F.W.length := by
    rw [← sa, ← sb]; exact le
  refine ⟨fun g lt => ?_, fun h hh => ?_, fun h hh => ?_⟩
  · have ha := (hA g).mpr lt
    cases e : (N g).isSome with
    | true => rfl
    | false =>
      obtain ⟨k, ek⟩ := Option.isSome_iff_exists.mp (allM g ha)
      have := cn_lt (p := fun g => A g && (N g).isSome) (q := fun g => A g && (M g).isSome) (n := F.W.length) (x := g) (fun g _ k => by
        simp only [Bool.and_eq_true] at k ⊢; exact ⟨k.1, allM g k.1⟩) (gl hM.toLo' ek) (by simp [ha, ek]) (by simp [e])
      omega
  · obtain ⟨g, e, lt⟩ := hh
    have ha := (hA g).mpr lt
    have hl := (ch_facts ok (hM.fit g h e)).2.1
    have ⟨k1, k2⟩ := key h ⟨g, e, ha⟩
    have m1 : cn (fun g => inn N h g && !inn M h g) F.W.length ≤ b h := cn_mono fun g _ k => by
      simp only [Bool.and_eq_true, decide_eq_true_eq, Bool.not_eq_true', decide_eq_false_iff_not, inn] at k ⊢
      exact ⟨k2 g k.1 k.2, k.1⟩
    have bM : b h ≤ cn (fun g => inn N h g && !inn M h g) F.W.length := cn_mono fun g _ k => by
      simp only [Bool.and_eq_true, decide_eq_true_eq, Bool.not_eq_true', decide_eq_false_iff_not, inn] at k ⊢
      refine ⟨k.2, fun e => ?_⟩
      have := (hA g).mp k.1; rw [k.2, e] at this; omega
    have eqh := eq h hl
    have q1 := cM h; have q2 := cN h; have q3 := cc h; have q4 := aM h; have q5 := hM.cap h
    refine ⟨⟨by omega, k1⟩, fun x hx hne => (hA x).mp (k2 x hx hne), fun x hx hne => (hA x).mp ?_⟩
    cases ax : A x with
    | true => rfl
    | false =>
      have := cn_lt (p := fun g => A g && decide (M g = some h)) (q := fun g => inn M h g && !inn N h g) (n := F.W.length) (x := x) (fun g _ k => by
        simp only [Bool.and_eq_true, decide_eq_true_eq, Bool.not_eq_true', decide_eq_false_iff_not, inn] at k ⊢
        refine ⟨k.2, fun e => ?_⟩
        have := (hA g).mp k.1; rw [k.2, e] at this; omega) (gl hM.toLo' hx) (by simp [inn, hx, hne]) (by simp [ax])
      have : a h < cn (fun g => inn M h g && !inn N h g) F.W.length := this
      omega
  · obtain ⟨g, e, lt⟩ := hh
    have ha := (hA g).mpr lt
    have hl := (ch_facts ok (hN.fit g h e)).2.1
    have eqh := eq h hl
    have pos : 0 < b h := by
      have := cn_lt (p := fun _ => false) (q := fun g => A g && decide (N g = some h)) (n := F.W.length) (x := g) (fun g _ k => by simp at k) (gl hN.toLo' e) (by simp [ha, e]) rfl
      have : cn (fun _ => false) F.W.length < b h := this
      omega
    have : cn (fun _ => false) F.W.length < a h := by
      have zz : ∀ n, cn (fun _ => false) n = 0 := fun n => by induction n with
        | zero => rfl
        | succ n ih => simp [cn, ih]
      rw [zz]; omega
    obtain ⟨x, _, hx, _⟩ := cn_ex_lt this
    simp only [Bool.and_eq_true, decide_eq_true_eq] at hx
    exact ⟨x, hx.2, (hA x).mp hx.1⟩
end
end MT

set_option Elab.async false
set_option linter.all false
set_option maxRecDepth 100000
namespace MT
open MA
def hi (F : Fair) (M N : As) : As := fun g => if F.rank g (N g) < F.rank g (M g) then N g else M g
def lo (F : Fair) (M N : As) : As := fun g => if F.rank g (M g) < F.rank g (N g) then N g else M g
theorem cnt_congr (F : Fair) {M N : As} {h : Nat} (e : ∀ x, M x = some h ↔ N x = some h) : cnt F M h = cnt F N h :=
  cn_congr fun g _ => by simp only [inn]; exact decide_eq_decide.mpr (e g)
theorem blk_of {F : Fair} {M N : As} {g h : Nat} (e : ∀ x, M x = some h ↔ N x = some h) (lt : F.rank g (some h) < F.rank g (N g)) (b : Blk F M g h) : Blk F N g h := by
  obtain ⟨b1, _, b3⟩ := b
  refine ⟨b1, lt, ?_⟩
  rw [← cnt_congr F e]
  rcases b3 with b3 | ⟨x, hx, k⟩
  · exact .inl b3
  · exact .inr ⟨x, (e x).mp hx, k⟩
section
variable {F : Fair} (ok : F.Ok)
include ok
theorem hi_sets {M N : As} (hM : Stb F M) (hN : Stb F N) (h : Nat) : (∀ x, hi F M N x = some h ↔ M x = some h) ∨ (∀ x, hi F M N x = some h ↔ N x = some h) := by
  obtain ⟨_, t2, t3⟩ := two ok hN hM
  by_cases e : ∃ g, N g = some h ∧ F.rank g (N g) < F.rank g (M g)
  · right
    obtain ⟨_, k2, k3⟩ := t2 h e
    intro x
    by_cases b : F.rank x (N x) < F.rank x (M x)
    · simp only [hi, if_pos b]
    · simp only [hi, if_neg b]
      refine ⟨fun hx => ?_, fun hx => ?_⟩
      · by_cases hn : N x = some h
        · exact hn
        · exact absurd (k2 x hx hn) b
      · by_cases hn : M x = some h
        · exact hn
        · exact absurd (k3 x hx hn) b
  · left
    intro x
    by_cases b : F.rank x (N x) < F.rank x (M x)
    · simp only [hi, if_pos b]
      exact ⟨fun hx => absurd ⟨x, hx, b⟩ e, fun hx => absurd (t3 h ⟨x, hx, b⟩) e⟩
    · simp only [hi, if_neg b]
theorem hi_stb {M N : As} (hM : Stb F M) (hN : Stb F N) : Stb F (hi F M N) where
  fit g h e := by
    rcases hi_sets ok hM hN h with k | k
    · exact hM.fit g h ((k g).mp e)
    · exact hN.fit g h ((k g).mp e)
  cap h := by
    rcases hi_sets ok hM hN h with k | k
    · rw [cnt_congr F k]; exact hM.cap h
    · rw [cnt_congr F k]; exact hN.cap h
  no g h b := by
    have l1 : F.rank g (hi F M N g) ≤ F.rank g (M g) := by simp only [hi]; split <;> omega
    have l2 : F.rank g (hi F M N g) ≤ F.rank g (N g) := by simp only [hi]; split <;> omega
    have := b.2.1
    rcases hi_sets ok hM hN h with k | k
    · exact hM.no g h (blk_of k (by omega) b)
    · exact hN.no g h (blk_of k (by omega) b)
theorem lo_sets {M N : As} (hM : Stb F M) (hN : Stb F N) (h : Nat) : ((∃ g, M g = some h ∧ F.rank g (M g) < F.rank g (N g)) ∧ ∀ x, lo F M N x = some h ↔ N x = some h) ∨ ((¬ ∃ g, M g = some h ∧ F.rank g (M g) < F.rank g (N g)) ∧ ∀ x, lo F M N x = some h ↔ M x = some h) := by
  obtain ⟨_, t2, t3⟩ := two ok hM hN
  by_cases e : ∃ g, M g = some h ∧ F.rank g (M g) < F.rank g (N g)
  · left
    refine ⟨e, fun x => ?_⟩
    obtain ⟨_, k2, k3⟩ := t2 h e
    by_cases a : F.rank x (M x) < F.rank x (N x)
    · simp only [lo, if_pos a]
    · simp only [lo, if_neg a]
      refine ⟨fun hx => ?_, fun hx => ?_⟩
      · by_cases hn : N x = some h
        · exact hn
        · exact absurd (k3 x hx hn) a
      · by_cases hn : M x = some h
        · exact hn
        · exact absurd (k2 x hx hn) a
  · right
    refine ⟨e, fun x => ?_⟩
    by_cases a : F.rank x (M x) < F.rank x (N x)
    · simp only [lo, if_pos a]
      exact ⟨fun hx => absurd (t3 h ⟨x, hx, a⟩) e, fun hx => absurd ⟨x, hx, a⟩ e⟩
    · simp only [lo, if_neg a]
theorem not_blk {M : As} (hM : Stb F M) {g h : Nat} (hc : h ∈ F.ch g) (lt : F.rank g (some h) < F.rank g (M g)) : cnt F M h = F.c h ∧ ∀ x, M x = some h → ¬ pr F h g < pr F h x := by
  have nb := hM.no g h
  have n1 : ¬ cnt F M h < F.c h := fun k => nb ⟨hc, lt, .inl k⟩
  exact ⟨by have := hM.cap h; omega, fun x hx k => nb ⟨hc, lt, .inr ⟨x, hx, k⟩⟩⟩
theorem lo_stb {M N : As} (hM : Stb F M) (hN : Stb F N) : Stb F (lo F M N) where
  fit g h e := by
    rcases lo_sets ok hM hN h with ⟨_, k⟩ | ⟨_, k⟩
    · exact hN.fit g h ((k g).mp e)
    · exact hM.fit g h ((k g).mp e)
  cap h := by
    rcases lo_sets ok hM hN h with ⟨_, k⟩ | ⟨_, k⟩
    · rw [cnt_congr F k]; exact hN.cap h
    · rw [cnt_congr F k]; exact hM.cap h
  no g h b := by
    have hc := b.1
    have hlt := b.2.1
    rcases lo_sets ok hM hN h with ⟨⟨g2, e1, e2⟩, k⟩ | ⟨e, k⟩
    · by_cases h1 : F.rank g (some h) < F.rank g (N g)
      · exact hN.no g h (blk_of k h1 b)
      · have a : ¬ F.rank g (M g) < F.rank g (N g) := fun a => by simp only [lo, if_pos a] at hlt; exact h1 hlt
        simp only [lo, if_neg a] at hlt
        have ⟨q1, q2⟩ := not_blk ok hM hc hlt
        have ⟨o1, o2⟩ := opp ok hM.toLo' hN e1 e2
        rcases b.2.2 with c | ⟨x, hx, c⟩
        · rw [cnt_congr F k] at c; omega
        · have := o2 x ((k x).mp hx); have := q2 g2 e1; omega
    · by_cases h1 : F.rank g (some h) < F.rank g (M g)
      · exact hM.no g h (blk_of k h1 b)
      · have a : F.rank g (M g) < F.rank g (N g) := Classical.byContradiction fun a => by simp only [lo, if_neg a] at hlt; exact h1 hlt
        simp only [lo, if_pos a] at hlt
        have ⟨q1, q2⟩ := not_blk ok hN hc hlt
        by_cases e' : ∃ y, N y = some h ∧ F.rank y (N y) < F.rank y (M y)
        · obtain ⟨y, y1, y2⟩ := e'
          have ⟨o1, o2⟩ := opp ok hN.toLo' hM y1 y2
          rcases b.2.2 with c | ⟨x, hx, c⟩
          · rw [cnt_congr F k] at c; omega
          · have := o2 x ((k x).mp hx); have := q2 y y1; omega
        · have sub : ∀ x, N x = some h → M x = some h := fun x hx => Classical.byContradiction fun hn => by
            rcases Nat.lt_trichotomy (F.rank x (M x)) (F.rank x (N x)) with l | l | l
            · exact e ((two ok hM hN).2.2 h ⟨x, hx, l⟩)
            · exact hn ((rank_inj (fun h => hM.fit x h) (fun h => hN.fit x h) l).trans hx)
            · exact e' ⟨x, hx, l⟩
          have sup : ∀ x, M x = some h → N x = some h := fun x hx => Classical.byContradiction fun hn => by
            have := cn_lt (p := inn N h) (q := inn M h) (n := F.W.length) (x := x) (fun y _ hy => by simp only [inn, decide_eq_true_eq] at hy ⊢; exact sub y hy) (ch_facts ok (hM.fit x h hx)).1 (by simp [inn, hx]) (by simp [inn, hn])
            have : cnt F N h < cnt F M h := this
            have := hM.cap h
            omega
          exact hN.no g h (blk_of (fun x => (k x).trans ⟨sup x, sub x⟩) hlt b)
/-- the same guests have a house -/
theorem rural1 {M N : As} (hM : Stb F M) (hN : Stb F N) (g : Nat) : (M g).isSome = (N g).isSome := by
  have lone : ∀ {M N : As}, Stb F M → Stb F N → F.rank g (M g) < F.rank g (N g) → (M g).isSome = (N g).isSome := fun {M N} hM hN lt => by
    rw [(two ok hM hN).1 g lt]
    cases e : M g with
    | some h => rfl
    | none => rw [e] at lt; have := rank_le (F := F) g (N g); omega
  rcases Nat.lt_trichotomy (F.rank g (M g)) (F.rank g (N g)) with l | l | l
  · exact lone hM hN l
  · rw [rank_inj (fun h => hM.fit g h) (fun h => hN.fit g h) l]
  · exact (lone hN hM l).symm
/-- a house with a free room has the same guests -/
theorem rural2 {M N : As} (hM : Stb F M) (hN : Stb F N) (h : Nat) (lt : cnt F N h < F.c h) (x : Nat) : M x = some h ↔ N x = some h := by
  have n1 : ¬ ∃ g, M g = some h ∧ F.rank g (M g) < F.rank g (N g) := fun e => by have := ((two ok hM hN).2.1 h e).1.2; omega
  have n2 : ¬ ∃ g, N g = some h ∧ F.rank g (N g) < F.rank g (M g) := fun e => by have := ((two ok hN hM).2.1 h e).1.1; omega
  have n3 : ¬ ∃ g, N g = some h ∧ F.rank g (M g) < F.rank g (N g) := fun e => n1 ((two ok hM hN).2.2 h e)
  have n4 : ¬ ∃ g, M g = some h ∧ F.rank g (N g) < F.rank g (M g) := fun e => n2 ((two ok hN hM).2.2 h e)
  rcases Nat.lt_trichotomy (F.rank x (M x)) (F.rank x (N x)) with l | l | l
  · exact ⟨fun e => absurd ⟨x, e, l⟩ n1, fun e => absurd ⟨x, e, l⟩ n3⟩
  · rw [rank_inj (fun h => hM.fit x h) (fun h => hN.fit x h) l]
  · exact ⟨fun e => absurd ⟨x, e, l⟩ n4, fun e => absurd ⟨x, e, l⟩ n2⟩
end
end MT

set_option Elab.async false
set_option linter.all false
set_option maxRecDepth 100000
namespace MT
open MA
/-! ### places in a part of a list -/
theorem idx_filter {p : Nat → Bool} {x y : Nat} : ∀ {l : List Nat}, x ∈ l.filter p → y ∈ l.filter p → ((l.filter p).idxOf x < (l.filter p).idxOf y ↔ l.idxOf x < l.idxOf y)
  | [], hx, _ => by simp at hx
  | a :: l, hx, hy => by
    have px : p x = true := by simp at hx; exact hx.2
    have py : p y = true := by simp at hy; exact hy.2
    by_cases pa : p a = true
    · simp only [List.filter_cons_of_pos pa] at hx hy ⊢
      by_cases ex : a = x
      · subst ex
        by_cases ey : a = y
        · subst ey; simp
        · simp [List.idxOf_cons, beq_eq_false_iff_ne.mpr ey]
      · by_cases ey : a = y
        · subst ey; simp [List.idxOf_cons, beq_eq_false_iff_ne.mpr ex]
        · have hx' : x ∈ l.filter p := by rcases List.mem_cons.mp hx with r | r; exact absurd r.symm ex; exact r
          have hy' : y ∈ l.filter p := by rcases List.mem_cons.mp hy with r | r; exact absurd r.symm ey; exact r
          have := idx_filter hx' hy'
          simp [List.idxOf_cons, beq_eq_false_iff_ne.mpr ex, beq_eq_false_iff_ne.mpr ey, this]
    · simp only [List.filter_cons_of_neg pa] at hx hy ⊢
      have ex : a ≠ x := fun e => pa (e ▸ px)
      have ey : a ≠ y := fun e => pa (e ▸ py)
      have := idx_filter hx hy
      simp [List.idxOf_cons, beq_eq_false_iff_ne.mpr ex, beq_eq_false_iff_ne.mpr ey, this]
theorem cn_length (p : Nat → Bool) : ∀ n, cn p n = ((List.range n).filter p).length
  | 0 => rfl
  | n + 1 => by
    rw [cn, cn_length p n, List.range_succ, List.filter_append, List.length_append]
    by_cases h : p n = true <;> simp [h]
theorem cn_list {l : List Nat} {n : Nat} (nd : l.Nodup) (lt : ∀ x ∈ l, x < n) : cn (fun g => decide (g ∈ l)) n = l.length := by
  rw [cn_length]
  refine ((List.perm_ext_iff_of_nodup (List.nodup_range.sublist List.filter_sublist) nd).mpr fun a => ?_).length_eq
  simp only [List.mem_filter, List.mem_range, decide_eq_true_eq]
  exact ⟨fun h => h.2, fun h => ⟨lt a h, h⟩⟩
theorem cn_succ_of {p q : Nat → Bool} {y : Nat} (hp : p y = false) (hq : q y = true) (e : ∀ x, x ≠ y → p x = q x) : ∀ {n : Nat}, y < n → cn q n = cn p n + 1
  | 0, h => by omega
  | n + 1, h => by
    simp only [cn]
    by_cases k : y = n
    · subst k
      have := cn_congr (p := p) (q := q) (n := y) fun g hg => e g (by omega)
      simp [hp, hq, this]
    · have := cn_succ_of hp hq e (n := n) (by omega)
      rw [this, e n (fun h => k h.symm)]; omega

/-! ### guests ask -/
structure InvA (F : Fair) (L : As) (k : Nat → Nat) : Prop extends Lo' F L where
  kl : ∀ g, k g ≤ (F.ch g).length
  last : ∀ g h, L g = some h → F.rank g (some h) + 1 = k g
  rej : ∀ g h, h ∈ F.ch g → F.rank g (some h) < k g → L g ≠ some h → cnt F L h = F.c h ∧ ∀ x, L x = some h → pr F h x < pr F h g
  opt : ∀ M, Stb F M → ∀ g h, h ∈ F.ch g → F.rank g (some h) < k g → L g ≠ some h → M g ≠ some h
/-- who is kept of S -/
structure Keep (F : Fair) (h : Nat) (S K : Nat → Prop) [DecidablePred K] : Prop where
  sub : ∀ x, K x → S x
  full : ∀ y, S y → ¬ K y → cn (fun x => decide (K x)) F.W.length = F.c h
  le : cn (fun x => decide (K x)) F.W.length ≤ F.c h
  ord : ∀ x y, K x → S y → ¬ K y → pr F h x < pr F h y
section
variable {F : Fair} (ok : F.Ok)
include ok
theorem invA_start : InvA F (fun _ => none) (fun _ => 0) where
  fit g h e := by simp at e
  cap h := by
    have : cnt F (fun _ => none) h = 0 := by
      simp only [cnt, inn]
      have zz : ∀ n, cn (fun _ => false) n = 0 := fun n => by induction n with
        | zero => rfl
        | succ n ih => simp [cn, ih]
      exact zz _
    omega
  kl g := Nat.zero_le _
  last g h e := by simp at e
  rej g h _ lt := by omega
  opt M _ g h _ lt := by omega
theorem invA_step {L L' : As} {k k' : Nat → Nat} (I : InvA F L k) {g h : Nat} (e0 : L g = none) (hc : h ∈ F.ch g) (hk : F.rank g (some h) = k g)
    {K : Nat → Prop} [DecidablePred K] (hK : Keep F h (fun x => x = g ∨ L x = some h) K)
    (eK : ∀ x, (x = g ∨ L x = some h) → L' x = if K x then some h else none) (eN : ∀ x, x ≠ g → L x ≠ some h → L' x = L x)
    (k1 : k' g = k g + 1) (k2 : ∀ x, x ≠ g → k' x = k x) : InvA F L' k' := by
  have setH : ∀ x, L' x = some h ↔ K x := fun x => by
    by_cases s : x = g ∨ L x = some h
    · rw [eK x s]
      by_cases kx : K x <;> simp [kx]
    · have s1 : x ≠ g := fun e => s (.inl e)
      have s2 : L x ≠ some h := fun e => s (.inr e)
      rw [eN x s1 s2]
      exact ⟨fun e => absurd e s2, fun kx => absurd (hK.sub x kx) s⟩
  have setO : ∀ h', h' ≠ h → ∀ x, L' x = some h' ↔ L x = some h' := fun h' hne x => by
    by_cases s : x = g ∨ L x = some h
    · rw [eK x s]
      have a : (if K x then some h else none) ≠ some h' := by split <;> simp; exact fun e => hne e.symm
      have b : L x ≠ some h' := by
        rcases s with s | s
        · subst s; rw [e0]; simp
        · rw [s]; simp; exact fun e => hne e.symm
      exact ⟨fun e => absurd e a, fun e => absurd e b⟩
    · rw [eN x (fun e => s (.inl e)) (fun e => s (.inr e))]
  have cH : cnt F L' h = cn (fun x => decide (K x)) F.W.length := cn_congr fun x _ => by simp only [inn]; exact decide_eq_decide.mpr (setH x)
  have cO : ∀ h', h' ≠ h → cnt F L' h' = cnt F L h' := fun h' hne => cnt_congr F (setO h' hne)
  have kle : ∀ x h', F.rank x (some h') < k' x → (x ≠ g ∨ h' ≠ h) → h' ∈ F.ch x → F.rank x (some h') < k x := fun x h' lt ne hm => by
    by_cases e : x = g
    · subst e
      have : h' ≠ h := by rcases ne with r | r; exact absurd rfl r; exact r
      rw [k1] at lt
      have : F.rank x (some h') ≠ F.rank x (some h) := fun e => this (by
        have := rank_inj (F := F) (g := x) (o := some h') (p := some h) (fun a e => by cases e; exact hm) (fun a e => by cases e; exact hc) e
        simpa using this)
      omega
    · rw [k2 x e] at lt; exact lt
  have fitS : ∀ x, (x = g ∨ L x = some h) → h ∈ F.ch x := fun x s => by
    rcases s with s | s
    · subst s; exact hc
    · exact I.fit x h s
  refine { fit := fun x h' e => ?_, cap := fun h' => ?_, kl := fun x => ?_, last := fun x h' e => ?_, rej := fun x h' hm lt ne => ?_, opt := fun M hM x h' hm lt ne => ?_ }
  · by_cases eh : h' = h
    · subst eh; exact fitS x (hK.sub x ((setH x).mp e))
    · exact I.fit x h' ((setO h' eh x).mp e)
  · by_cases eh : h' = h
    · subst eh; rw [cH]; exact hK.le
    · rw [cO h' eh]; exact I.cap h'
  · by_cases e : x = g
    · subst e; rw [k1]; have := rank_some_lt.mpr hc; simp only [Fair.rank] at this hk; omega
    · rw [k2 x e]; exact I.kl x
  · by_cases eh : h' = h
    · subst eh
      have s := hK.sub x ((setH x).mp e)
      by_cases ex : x = g
      · subst ex; rw [k1]; omega
      · rw [k2 x ex]; exact I.last x h' (s.resolve_left ex)
    · have e2 := (setO h' eh x).mp e
      have ex : x ≠ g := fun ex => by subst ex; rw [e0] at e2; simp at e2
      rw [k2 x ex]; exact I.last x h' e2
  · by_cases eh : h' = h
    · subst eh
      have nk : ¬ K x := fun a => ne ((setH x).mpr a)
      rw [cH]
      by_cases s : x = g ∨ L x = some h'
      · exact ⟨hK.full x s nk, fun y hy => hK.ord y x ((setH y).mp hy) s nk⟩
      · have s1 : x ≠ g := fun e => s (.inl e)
        have s2 : L x ≠ some h' := fun e => s (.inr e)
        have ⟨r1, r2⟩ := I.rej x h' hm (kle x h' lt (.inl s1) hm) s2
        -- somebody of S goes
        obtain ⟨y, hy1, hy2⟩ : ∃ y, (y = g ∨ L y = some h') ∧ ¬ K y := by
          apply Classical.byContradiction
          intro hn
          have al : ∀ y, (y = g ∨ L y = some h') → K y := fun y hy => Classical.byContradiction fun k => hn ⟨y, hy, k⟩
          have := cn_lt (p := inn L h') (q := fun x => decide (K x)) (n := F.W.length) (x := g) (fun y _ hy => by simp only [inn, decide_eq_true_eq] at hy ⊢; exact al y (.inr hy)) (ch_facts ok hc).1 (by simpa using al g (.inl rfl)) (by simp [inn, e0])
          have : cnt F L h' < cn (fun x => decide (K x)) F.W.length := this
          have := hK.le
          omega
        refine ⟨hK.full y hy1 hy2, fun z hz => ?_⟩
        have kz := (setH z).mp hz
        rcases hK.sub z kz with sz | sz
        · subst sz
          have hyz : y ≠ z := fun e => hy2 (e ▸ kz)
          have a1 := hK.ord z y kz hy1 hy2
          have a2 := r2 y (hy1.resolve_left hyz)
          omega
        · exact r2 z sz
    · rw [cO h' eh]
      have lt' := kle x h' lt (.inr eh) hm
      have ne' : L x ≠ some h' := fun e => ne ((setO h' eh x).mpr e)
      have ⟨r1, r2⟩ := I.rej x h' hm lt' ne'
      exact ⟨r1, fun y hy => r2 y ((setO h' eh y).mp hy)⟩
  · by_cases eh : h' = h
    · subst eh
      have nk : ¬ K x := fun a => ne ((setH x).mpr a)
      by_cases s : x = g ∨ L x = some h'
      · intro em
        have full := hK.full x s nk
        have cap := hM.cap h'
        obtain ⟨z, _, hz1, hz2⟩ := cn_ex_le (p := inn M h') (q := fun x => decide (K x)) (n := F.W.length) (y := x) (by have : cnt F M h' ≤ _ := full ▸ cap; exact this) (ch_facts ok hm).1 (by simp [inn, em]) (by simpa using nk)
        simp only [inn, decide_eq_true_eq, decide_eq_false_iff_not] at hz1 hz2
        have sz := hK.sub z hz1
        have pz := hK.ord z x hz1 s nk
        have fz := fitS z sz
        have before : ∀ h2, h2 ∈ F.ch z → F.rank z (some h2) < F.rank z (some h') → M z ≠ some h2 := fun h2 m2 l2 => by
          rcases sz with sz | sz
          · subst sz
            exact I.opt M hM z h2 m2 (by omega) (by rw [e0]; simp)
          · have := I.last z h' sz
            exact I.opt M hM z h2 m2 (by omega) (by rw [sz]; intro e; cases e; omega)
        have lt2 : F.rank z (some h') < F.rank z (M z) := by
          cases ez : M z with
          | none => exact rank_some_lt.mpr fz
          | some h2 =>
            have m2 := hM.fit z h2 ez
            rcases Nat.lt_trichotomy (F.rank z (some h')) (F.rank z (some h2)) with l | l | l
            · exact l
            · have := rank_inj (F := F) (g := z) (o := some h') (p := some h2) (fun a e => by cases e; exact fz) (fun a e => by cases e; exact m2) l
              cases this; exact absurd ez hz2
            · exact absurd ez (before h2 m2 l)
        exact hM.no z h' ⟨fz, lt2, .inr ⟨x, em, pz⟩⟩
      · have s1 : x ≠ g := fun e => s (.inl e)
        have s2 : L x ≠ some h' := fun e => s (.inr e)
        exact I.opt M hM x h' hm (kle x h' lt (.inl s1) hm) s2
    · exact I.opt M hM x h' hm (kle x h' lt (.inr eh) hm) fun e => ne ((setO h' eh x).mpr e)
theorem invA_asked {L : As} {k : Nat → Nat} (I : InvA F L k) (fin : ∀ g, L g = none → k g = (F.ch g).length) {g h : Nat} (hm : h ∈ F.ch g) (lt : F.rank g (some h) < F.rank g (L g)) : F.rank g (some h) < k g ∧ L g ≠ some h := by
  cases e : L g with
  | none => rw [fin g e]; exact ⟨rank_some_lt.mpr hm, by simp⟩
  | some h2 =>
    have := I.last g h2 e
    rw [e] at lt
    exact ⟨by omega, fun e => by cases e; omega⟩
theorem invA_end {L : As} {k : Nat → Nat} (I : InvA F L k) (fin : ∀ g, L g = none → k g = (F.ch g).length) : Stb F L ∧ ∀ M, Stb F M → ∀ g, F.rank g (L g) ≤ F.rank g (M g) := by
  refine ⟨{ toLo' := I.toLo', no := fun g h b => ?_ }, fun M hM g => ?_⟩
  · have ⟨a1, a2⟩ := invA_asked ok I fin b.1 b.2.1
    have ⟨r1, r2⟩ := I.rej g h b.1 a1 a2
    rcases b.2.2 with c | ⟨x, hx, c⟩
    · omega
    · have := r2 x hx; omega
  · apply Classical.byContradiction
    intro hn
    have lt : F.rank g (M g) < F.rank g (L g) := by omega
    cases e : M g with
    | none => rw [e] at lt; have := rank_le (F := F) g (L g); omega
    | some h =>
      rw [e] at lt
      have ⟨a1, a2⟩ := invA_asked ok I fin (hM.fit g h e) lt
      exact I.opt M hM g h (hM.fit g h e) a1 a2 e

/-! ### houses ask -/
end
def acc (F : Fair) (h : Nat) : List Nat := (F.l h).filter fun g => decide (h ∈ F.ch g)
theorem mem_acc {F : Fair} {g h : Nat} : g ∈ acc F h ↔ h ∈ F.ch g := by
  simp only [acc, List.mem_filter, decide_eq_true_eq, Fair.ch]
  exact ⟨fun e => e.2, fun e => ⟨e.2, e⟩⟩
def ai (F : Fair) (h g : Nat) : Nat := (acc F h).idxOf g
theorem ai_pr {F : Fair} {h x y : Nat} (hx : h ∈ F.ch x) (hy : h ∈ F.ch y) : ai F h x < ai F h y ↔ pr F h x < pr F h y := idx_filter (mem_acc.mpr hx) (mem_acc.mpr hy)
structure InvH (F : Fair) (L : As) (k : Nat → Nat) : Prop extends Lo' F L where
  kl : ∀ h, k h ≤ (acc F h).length
  held : ∀ g h, L g = some h → ai F h g < k h
  asked : ∀ g h, h ∈ F.ch g → ai F h g < k h → F.rank g (L g) ≤ F.rank g (some h)
  opt : ∀ M, Stb F M → ∀ g h, h ∈ F.ch g → ai F h g < k h → L g ≠ some h → M g ≠ some h
section
variable {F : Fair} (ok : F.Ok)
include ok
theorem invH_start : InvH F (fun _ => none) (fun _ => 0) where
  fit g h e := by simp at e
  cap h := (invA_start ok).cap h
  kl g := Nat.zero_le _
  held g h e := by simp at e
  asked g h _ lt := by omega
  opt M _ g h _ lt := by omega
theorem invH_step {L L' : As} {k k' : Nat → Nat} (I : InvH F L k) {g h : Nat} (free : cnt F L h < F.c h) (hc : h ∈ F.ch g) (hk : ai F h g = k h)
    (eG : L' g = if F.rank g (some h) < F.rank g (L g) then some h else L g) (eN : ∀ x, x ≠ g → L' x = L x)
    (k1 : k' h = k h + 1) (k2 : ∀ x, x ≠ h → k' x = k x) : InvH F L' k' := by
  have rl : ∀ x, F.rank x (L' x) ≤ F.rank x (L x) := fun x => by
    by_cases e : x = g
    · subst e; rw [eG]; split <;> omega
    · rw [eN x e]; omega
  have isL : ∀ x h', L' x = some h' → L x = some h' ∨ (x = g ∧ h' = h ∧ F.rank g (some h) < F.rank g (L g)) := fun x h' e => by
    by_cases ex : x = g
    · subst ex; rw [eG] at e
      split at e
      · rename_i lt; cases e; exact .inr ⟨rfl, rfl, lt⟩
      · exact .inl e
    · rw [eN x ex] at e; exact .inl e
  have nL : L g ≠ some h := fun e => by have := I.held g h e; omega
  have kge : ∀ x, k x ≤ k' x := fun x => by
    by_cases e : x = h
    · subst e; omega
    · rw [k2 x e]; omega
  have acm : g ∈ acc F h := mem_acc.mpr hc
  have acl : ai F h g < (acc F h).length := List.idxOf_lt_length_iff.mpr acm
  have kle : ∀ x h', ai F h' x < k' h' → (x ≠ g ∨ h' ≠ h) → h' ∈ F.ch x → ai F h' x < k h' := fun x h' lt ne hm => by
    by_cases e : h' = h
    · subst e
      have hx : x ≠ g := by rcases ne with r | r; exact r; exact absurd rfl r
      rw [k1] at lt
      have : ai F h' x ≠ ai F h' g := fun e => hx (by
        have h1 := List.idxOf_lt_length_iff.mpr (mem_acc.mpr hm)
        have e1 := List.getElem_idxOf h1
        have e2 := List.getElem_idxOf acl
        simp only [ai] at e
        rw [← e1, ← e2]; congr 1)
      omega
    · rw [k2 h' e] at lt; exact lt
  refine { fit := fun x h' e => ?_, cap := fun h' => ?_, kl := fun x => ?_, held := fun x h' e => ?_, asked := fun x h' hm lt => ?_, opt := fun M hM x h' hm lt ne => ?_ }
  · rcases isL x h' e with r | ⟨r1, r2, _⟩
    · exact I.fit x h' r
    · subst r1; subst r2; exact hc
  · by_cases eh : h' = h
    · subst eh
      have : cnt F L' h' ≤ cnt F L h' + 1 := by
        have s := cn_succ_of (p := inn L h') (q := fun x => decide (x = g) || inn L h' x) (y := g) (by simp [inn, nL]) (by simp) (fun x hx => by simp [hx]) (n := F.W.length) (ch_facts ok hc).1
        have m := cn_mono (p := inn L' h') (q := fun x => decide (x = g) || inn L h' x) (n := F.W.length) fun x _ hx => by
          simp only [inn, decide_eq_true_eq, Bool.or_eq_true] at hx ⊢
          rcases isL x h' hx with r | ⟨r1, _, _⟩
          · exact .inr r
          · exact .inl r1
        have : cnt F L' h' ≤ cn (inn L h') F.W.length + 1 := s ▸ m
        exact this
      omega
    · have : cnt F L' h' ≤ cnt F L h' := cn_mono fun x _ hx => by
        simp only [inn, decide_eq_true_eq] at hx ⊢
        rcases isL x h' hx with r | ⟨_, r2, _⟩
        · exact r
        · exact absurd r2 eh
      have := I.cap h'; omega
  · by_cases e : x = h
    · subst e; rw [k1]; omega
    · rw [k2 x e]; exact I.kl x
  · rcases isL x h' e with r | ⟨r1, r2, _⟩
    · have := I.held x h' r; have := kge h'; omega
    · subst r1; subst r2; omega
  · by_cases e : x = g ∧ h' = h
    · obtain ⟨e1, e2⟩ := e; subst e1; subst e2
      rw [eG]; split <;> omega
    · have := I.asked x h' hm (kle x h' lt (by
        by_cases e1 : x = g
        · exact .inr fun e2 => e ⟨e1, e2⟩
        · exact .inl e1) hm)
      have := rl x; omega
  · -- who is better at a house than one that asked has been asked
    by_cases e : x = g ∧ h' = h
    · obtain ⟨e1, e2⟩ := e; subst e1; subst e2
      rw [eG] at ne
      split at ne
      · exact absurd rfl ne
      · rename_i nlt
        intro em
        cases el : L x with
        | none => rw [el] at nlt; exact nlt (rank_some_lt.mpr hc)
        | some h2 =>
          have m2 := I.fit x h2 el
          have l2 : F.rank x (some h2) < F.rank x (M x) := by
            rw [em]; rw [el] at nlt
            have : F.rank x (some h2) ≠ F.rank x (some h') := fun e => nL (by
              rw [el]; exact rank_inj (F := F) (g := x) (fun a e => by cases e; exact m2) (fun a e => by cases e; exact hc) e)
            omega
          have ⟨q1, q2⟩ := not_blk ok hM m2 l2
          obtain ⟨y, _, y1, y2⟩ := cn_ex_le (p := inn L h2) (q := inn M h2) (n := F.W.length) (y := x) (by have : cnt F L h2 ≤ cnt F M h2 := q1 ▸ I.cap h2; exact this) (ch_facts ok hc).1 (by simp [inn, el]) (by simp [inn, em]; intro e; subst e; exact nL el)
          simp only [inn, decide_eq_true_eq, decide_eq_false_iff_not] at y1 y2
          have my := hM.fit y h2 y1
          have : pr F h2 y ≠ pr F h2 x := fun e => y2 (by
            rw [pr_inj (ch_facts ok my).2.2 (ch_facts ok m2).2.2 e]; exact el)
          have lt3 := (ai_pr my m2).mpr (by have := q2 y y1; omega)
          have := I.held x h2 el
          exact I.opt M hM y h2 my (by omega) y2 y1
    · have lt' := kle x h' lt (by
        by_cases e1 : x = g
        · exact .inr fun e2 => e ⟨e1, e2⟩
        · exact .inl e1) hm
      by_cases el : L x = some h'
      · -- it left h' for h
        have ex : x = g := Classical.byContradiction fun hx => ne (by rw [eN x hx]; exact el)
        subst ex
        rw [eG] at ne
        split at ne
        · rename_i lt2
          intro em
          have ⟨q1, q2⟩ := not_blk ok hM hc (by rw [em, ← el]; exact lt2)
          obtain ⟨y, _, y1, y2⟩ := cn_ex_lt (p := inn L h) (q := inn M h) (n := F.W.length) (by have : cnt F L h < cnt F M h := q1 ▸ free; exact this)
          simp only [inn, decide_eq_true_eq, decide_eq_false_iff_not] at y1 y2
          have my := hM.fit y h y1
          have hyx : y ≠ x := fun e2 => by subst e2; rw [em] at y1; cases y1; exact y2 el
          have : pr F h y ≠ pr F h x := fun e2 => hyx (pr_inj (ch_facts ok my).2.2 (ch_facts ok hc).2.2 e2)
          have lt3 := (ai_pr my hc).mpr (by have := q2 y y1; omega)
          exact I.opt M hM y h my (by omega) y2 y1
        · exact absurd el ne
      · exact I.opt M hM x h' hm lt' el
theorem invH_end {L : As} {k : Nat → Nat} (I : InvH F L k) (fin : ∀ h, cnt F L h < F.c h → k h = (acc F h).length) : Stb F L ∧ ∀ M, Stb F M → ∀ g, F.rank g (M g) ≤ F.rank g (L g) := by
  refine ⟨{ toLo' := I.toLo', no := fun g h b => ?_ }, fun M hM g => ?_⟩
  · have hc := b.1
    have acl : ai F h g < (acc F h).length := List.idxOf_lt_length_iff.mpr (mem_acc.mpr hc)
    by_cases a : ai F h g < k h
    · have := I.asked g h hc a; have := b.2.1; omega
    · rcases b.2.2 with c | ⟨x, hx, c⟩
      · have := fin h c; omega
      · have := I.held x h hx
        have := (ai_pr hc (I.fit x h hx)).mpr c
        omega
  · apply Classical.byContradiction
    intro hn
    have lt : F.rank g (L g) < F.rank g (M g) := by omega
    cases e : L g with
    | none => rw [e] at lt; have := rank_le (F := F) g (M g); omega
    | some h =>
      have m1 := I.fit g h e
      have ⟨o1, o2⟩ := opp ok I.toLo' hM e lt
      obtain ⟨y, _, y1, y2⟩ := cn_ex_le (p := inn L h) (q := inn M h) (n := F.W.length) (y := g) (by have : cnt F L h ≤ cnt F M h := o1 ▸ I.cap h; exact this) (ch_facts ok m1).1 (by simp [inn, e]) (by simp [inn]; intro em; rw [em, e] at lt; omega)
      simp only [inn, decide_eq_true_eq, decide_eq_false_iff_not] at y1 y2
      have my := hM.fit y h y1
      have lt3 := (ai_pr my m1).mpr (o2 y y1)
      have := I.held g h e
      exact I.opt M hM y h my (by omega) y2 y1
end
end MT

set_option Elab.async false
set_option linter.all false
set_option maxRecDepth 100000
namespace MT
open PySem PySem.Spec L2 PV GS MA
open PyProof.Rows hiding St
/-! ### lists that stand for maps -/
def toL {α : Type} (n : Nat) (M : Nat → α) : List α := (List.range n).map M
@[simp] theorem toL_len {α : Type} (n : Nat) (M : Nat → α) : (toL n M).length = n := by simp [toL]
theorem toL_get {α : Type} {n : Nat} (M : Nat → α) {g : Nat} (h : g < n) : (toL n M)[g]? = some (M g) := by simp [toL, h]
@[simp] theorem toL_getE {α : Type} (n : Nat) (M : Nat → α) (g : Nat) (h) : (toL n M)[g]'h = M g := by simp [toL]
theorem toL_at0 {n : Nat} (M : As) (g : Nat) (h : g < n) : at0 (toL n M) g = M g := by simp [at0, toL_get M h]
theorem toL_at0' {n : Nat} {M : As} (h : ∀ g, n ≤ g → M g = none) : at0 (toL n M) = M := by
  funext g
  by_cases hg : g < n
  · exact toL_at0 M g hg
  · rw [h g (by omega), at0, List.getD_eq_getElem?_getD, List.getElem?_eq_none (by rw [toL_len]; omega)]; rfl
theorem toL_of (L : Lod) : toL L.length (at0 L) = L := by
  refine List.ext_getElem (toL_len _ _) fun i h1 h2 => ?_
  simp only [toL, List.getElem_map, List.getElem_range, at0, List.getD_eq_getElem?_getD, List.getElem?_eq_getElem h2, Option.getD_some]
theorem toL_set {α : Type} (n : Nat) (M : Nat → α) (i : Nat) (v : α) : (toL n M).set i v = toL n (fun x => if x = i then v else M x) := by
  refine List.ext_getElem (by simp [toL]) fun j h1 h2 => ?_
  rw [List.getElem_set]
  simp only [toL, List.getElem_map, List.getElem_range]
  by_cases h : i = j
  · subst h; simp
  · rw [if_neg h, if_neg (fun e => h e.symm)]
theorem toL_map {α β : Type} (n : Nat) (M : Nat → α) (f : α → β) : (toL n M).map f = toL n (fun x => f (M x)) := by simp [toL, Function.comp_def]
theorem toL_congr {α : Type} {n : Nat} {M N : Nat → α} (h : ∀ g, g < n → M g = N g) : toL n M = toL n N := List.map_congr_left fun g hg => h g (List.mem_range.mp hg)
def enc2 {α : Type} (f : α → PyData) (M : Nat → α) (g : Nat) : PyData := .tuple [.int (g : Nat), f (M g)]
theorem enumD_toL {α : Type} (f : α → PyData) (n : Nat) (M : Nat → α) : enumD ((toL n M).map f) 0 = (List.range n).map (enc2 f M) := by
  rw [enumD_map]
  refine List.ext_getElem (by simp [toL]) fun i h1 h2 => ?_
  simp [toL, enc2]
theorem enumD_enc {α : Type} (f : α → PyData) (l : List α) (d : α) : enumD (l.map f) 0 = (List.range l.length).map (enc2 f fun g => l.getD g d) := by
  rw [enumD_map]
  refine List.ext_getElem (by simp) fun i h1 h2 => ?_
  simp only [List.length_map, List.length_range] at h2
  simp [enc2, h2]
def ins (n : Nat) (M : As) (h : Nat) : List Nat := (List.range n).filter fun g => decide (M g = some h)
theorem ins_mem {n : Nat} {M : As} {h x : Nat} : x ∈ ins n M h ↔ x < n ∧ M x = some h := by simp [ins]
theorem ins_len (F : Fair) (M : As) (h : Nat) : (ins F.W.length M h).length = cnt F M h := (cn_length _ _).symm
theorem ins_le (n : Nat) (M : As) (h : Nat) : (ins n M h).length ≤ n := by have := List.length_filter_le (fun g => decide (M g = some h)) (List.range n); simpa [ins] using this
theorem ins_nodup (n : Nat) (M : As) (h : Nat) : (ins n M h).Nodup := List.nodup_range.sublist List.filter_sublist
theorem enumD_at0 (L : Lod) : enumD (L.map encO) 0 = (List.range L.length).map (enc2 encO (at0 L)) := enumD_enc encO L none
theorem guests_body {d0 : PyData} (n : Nat) (M : As) (h : Nat) (hn : n ≤ 100000) : compD (tPair 2 3) (eT (eOp dEq (eVar 3) (eVar 1))) (eFlat (eVar 2)) [some d0, some (.int (h : Nat)), none, none] ((List.range n).map (enc2 encO M)) = .ok ((ins n M h).map encN) := by
  refine compD_run (enc2 encO M) (fun g => decide (M g = some h)) encN (List.range n) fun g hg => ?_
  simp [enc2, encN]
theorem guestsL (n : Nat) (M : As) (h : Nat) (hn : n ≤ 100000) : m_guests_in [.list (toL n (fun g => encO (M g))), .int (h : Nat)] = .ok (encL encN (ins n M h)) := by
  have e : toL n (fun g => encO (M g)) = (toL n M).map encO := (toL_map n M encO).symm
  have := ins_le n M h
  refine fn_rt rfl ?_
  simp [g_guests_in, e, enumD_toL, guests_body, hn, show (ins n M h).length ≤ 100000 by omega, encL]
theorem guestsLO (L : Lod) (h : Nat) (hn : L.length ≤ 100000) : m_guests_in [encT encO L, .int (h : Nat)] = .ok (encL encN (ins L.length (at0 L) h)) := by
  have := ins_le L.length (at0 L) h
  refine fn_rt rfl ?_
  simp [g_guests_in, enumD_at0, guests_body, hn, show (ins L.length (at0 L) h).length ≤ 100000 by omega, encL]
section
variable {F : Fair} (ok : F.Ok)
include ok
theorem freeL (M : As) (h : Nat) (hh : h < F.R.length) : m_is_free [encF F, .list (toL F.W.length (fun g => encO (M g))), .int (h : Nat)] = .ok (.bool (decide (cnt F M h < F.c h))) := by
  have := ok.w5
  refine fn_rt rfl ?_
  simp [g_is_free, guestsL, show F.W.length ≤ 100000 by omega, hh, ins_len]
def keptM (F : Fair) (h : Nat) (S : List Nat) : List Nat := ((F.l h).filter fun x => decide (x ∈ S)).take (F.c h)
theorem kept_eq (h : Nat) (S : List Nat) (hh : h < F.R.length) : m_kept_by [encF F, .int (h : Nat), encL encN S] = .ok (encL encN (keptM F h S)) := by
  refine fn_rt rfl ?_
  simp [g_kept_by, hh]
  rw [compD_run encN (fun x => decide (x ∈ S)) encN (F.l h) (fun x hx => by simp [encN])]
  have h1 := ok.llen h
  have h2 := List.length_filter_le (fun x => decide (x ∈ S)) (F.l h)
  simp [show ((F.l h).filter fun x => decide (x ∈ S)).length ≤ 100000 by omega, dSl, cutD_take_map, encL, keptM, List.map_take]
/-- the next guest that asks -/
def nextM (F : Fair) (ord : List Nat) (L : As) (k : Nat → Nat) : Option Nat := ord.find? fun g => decide (L g = none) && decide (k g < (F.ch g).length)
theorem next_guest_eq (ord : List Nat) (L : As) (k : Nat → Nat) (ho : ∀ g ∈ ord, g < F.W.length) :
    m_next_guest [encL encN ord, .list (toL F.W.length (fun g => encO (L g))), .list (toL F.W.length (fun g => encL encN ((F.ch g).drop (k g))))] = .ok (encO (nextM F ord L k)) := by
  refine fn_rt rfl ?_
  simp [g_next_guest]
  refine for_find encN ord (fun g => decide (L g = none) && decide (k g < (F.ch g).length)) encN (fun _ env => ∃ j, env = [some (encL encN ord), some (.list (toL F.W.length (fun g => encO (L g)))), some (.list (toL F.W.length (fun g => encL encN ((F.ch g).drop (k g))))), j]) (by simp) ⟨_, rfl⟩ ?_ ?_ ?_
  · rintro ys g zs env e ⟨j, rfl⟩
    have hg := ho g (e ▸ by simp)
    simp [encN, toL_get _ hg]
    cases hL : L g with
    | some x => simp
    | none =>
      by_cases hk : k g < (F.ch g).length
      · simp [hk]
      · simp [hk]
  · intro g hg
    simp only [nextM, hg]; rfl
  · rintro hn env ⟨j, rfl⟩
    simp only [nextM, hn]; simp [encO]
end
end MT

set_option Elab.async false
set_option linter.all false
set_option maxRecDepth 100000
namespace MT
open PySem PySem.Spec L2 PV GS MA
open PyProof.Rows hiding St
def someM (F : Fair) (L : As) (g h : Nat) : List Nat := ins F.W.length L h ++ [g]
def stepL (F : Fair) (L : As) (g h : Nat) : As := fun x => if x ∈ someM F L g h then (if x ∈ keptM F h (someM F L g h) then some h else none) else L x
def stepK (k : Nat → Nat) (g : Nat) : Nat → Nat := fun x => if x = g then k g + 1 else k x
def askH (F : Fair) (k : Nat → Nat) (g : Nat) : Nat := (F.ch g).getD (k g) 0
inductive Steps (F : Fair) (ord : List Nat) : As → (Nat → Nat) → List (Nat × Nat) → As → (Nat → Nat) → Prop
  | nil {L k} : nextM F ord L k = none → Steps F ord L k [] L k
  | cons {L k g t L' k'} : nextM F ord L k = some g → Steps F ord (stepL F L g (askH F k g)) (stepK k g) t L' k' → Steps F ord L k ((g, askH F k g) :: t) L' k'
theorem steps_det {F : Fair} {ord : List Nat} : ∀ {t1 : List (Nat × Nat)} {L k L1 k1 t2 L2 k2}, Steps F ord L k t1 L1 k1 → Steps F ord L k t2 L2 k2 → t1 = t2 ∧ L1 = L2 ∧ k1 = k2
  | [], _, _, _, _, _, _, _, .nil e, h2 => by
    cases h2 with
    | nil => exact ⟨rfl, rfl, rfl⟩
    | cons e2 _ => rw [e] at e2; simp at e2
  | _ :: t, _, _, _, _, _, _, _, .cons e h, h2 => by
    cases h2 with
    | nil e2 => rw [e] at e2; simp at e2
    | cons e2 h2 =>
      rw [e] at e2; cases e2
      obtain ⟨a, b, c⟩ := steps_det h h2
      exact ⟨by rw [a], b, c⟩
theorem idx_take {l : List Nat} {c x : Nat} (h : x ∈ l.take c) : l.idxOf x < c := by
  have e : l.idxOf x = (l.take c).idxOf x := by
    conv => lhs; rw [← List.take_append_drop c l]
    rw [List.idxOf_append, if_pos h]
  rw [e]
  have := List.idxOf_lt_length_iff.mpr h
  have := List.length_take_le c l
  omega
theorem idx_drop {l : List Nat} {c y : Nat} (hc : c ≤ l.length) (h : y ∉ l.take c) : c ≤ l.idxOf y := by
  have e : l.idxOf y = (l.drop c).idxOf y + (l.take c).length := by
    conv => lhs; rw [← List.take_append_drop c l]
    rw [List.idxOf_append, if_neg h]
  rw [e, List.length_take]; omega
section
variable {F : Fair} (ok : F.Ok)
include ok
theorem some_mem {L : As} (hL : Lo' F L) {g h : Nat} (x : Nat) : x ∈ someM F L g h ↔ (x = g ∨ L x = some h) := by
  simp only [someM, List.mem_append, ins_mem, List.mem_singleton]
  exact ⟨fun e => e.elim (fun e => .inr e.2) .inl, fun e => e.elim .inr fun e => .inl ⟨(ch_facts ok (hL.fit x h e)).1, e⟩⟩
theorem keep_of {L : As} (hL : Lo' F L) {g h : Nat} (hc : h ∈ F.ch g) : Keep F h (fun x => x = g ∨ L x = some h) (fun x => x ∈ keptM F h (someM F L g h)) := by
  have nd : ((F.l h).filter fun x => decide (x ∈ someM F L g h)).Nodup := (ok.l' h).2.1.sublist List.filter_sublist
  have lt : ∀ x ∈ (F.l h).filter fun x => decide (x ∈ someM F L g h), x < F.W.length := fun x hx => (ok.l' h).2.2 x (List.mem_filter.mp hx).1
  have inl : ∀ x, (x = g ∨ L x = some h) → x ∈ (F.l h).filter fun x => decide (x ∈ someM F L g h) := fun x hx => by
    refine List.mem_filter.mpr ⟨?_, by simpa using (some_mem ok hL x).mpr hx⟩
    rcases hx with e | e
    · subst e; exact (ch_facts ok hc).2.2
    · exact (ch_facts ok (hL.fit x h e)).2.2
  have cl : cn (fun x => decide (x ∈ keptM F h (someM F L g h))) F.W.length = (keptM F h (someM F L g h)).length :=
    cn_list (nd.sublist (List.take_sublist _ _)) fun x hx => lt x (List.mem_of_mem_take hx)
  have long : ∀ y, (y = g ∨ L y = some h) → y ∉ keptM F h (someM F L g h) → F.c h ≤ ((F.l h).filter fun x => decide (x ∈ someM F L g h)).length := fun y hy hn =>
    Classical.byContradiction fun k => hn (by rw [keptM, List.take_of_length_le (by omega)]; exact inl y hy)
  refine ⟨fun x hx => (some_mem ok hL x).mp (by simpa using (List.mem_filter.mp (List.mem_of_mem_take hx)).2), fun y hy hn => ?_, ?_, fun x y hx hy hn => ?_⟩
  · rw [cl, keptM, List.length_take]; have := long y hy hn; omega
  · rw [cl, keptM, List.length_take]; omega
  · have a := idx_take hx
    have b := idx_drop (long y hy hn) hn
    exact (idx_filter (List.mem_of_mem_take hx) (inl y hy)).mp (by omega)
theorem ask_facts {k : Nat → Nat} {g : Nat} (hk : k g < (F.ch g).length) : askH F k g ∈ F.ch g ∧ F.rank g (some (askH F k g)) = k g := by
  have e : askH F k g = (F.ch g)[k g] := by simp [askH, hk]
  refine ⟨by rw [e]; exact List.getElem_mem hk, ?_⟩
  simp only [Fair.rank]; rw [e]; exact (ok.ch' g).1.idxOf_getElem _ hk
theorem next_facts {ord : List Nat} {L : As} {k : Nat → Nat} {g : Nat} (e : nextM F ord L k = some g) : g ∈ ord ∧ L g = none ∧ k g < (F.ch g).length := by
  have h1 := List.find?_some e
  simp at h1
  exact ⟨List.mem_of_find?_eq_some e, h1.1, h1.2⟩
theorem inv_step {ord : List Nat} {L : As} {k : Nat → Nat} {g : Nat} (I : InvA F L k) (e : nextM F ord L k = some g) : InvA F (stepL F L g (askH F k g)) (stepK k g) := by
  obtain ⟨_, e0, hk⟩ := next_facts ok e
  obtain ⟨hc, hr⟩ := ask_facts ok hk
  refine invA_step ok I e0 hc hr (keep_of ok I.toLo' hc) (fun x hx => ?_) (fun x h1 h2 => ?_) (by simp [stepK]) (fun x hx => by simp [stepK, hx])
  · simp only [stepL, if_pos ((some_mem ok I.toLo' x).mpr hx)]
  · simp only [stepL]; rw [if_neg (fun s => ((some_mem ok I.toLo' x).mp s).elim h1 h2)]
theorem steps_inv {ord : List Nat} {L : As} {k : Nat → Nat} {t : List (Nat × Nat)} {L' : As} {k' : Nat → Nat} (I : InvA F L k) (s : Steps F ord L k t L' k') : InvA F L' k' ∧ nextM F ord L' k' = none := by
  induction s with
  | nil e => exact ⟨I, e⟩
  | cons e _ ih => exact ih (inv_step ok I e)
theorem steps_end {ord : List Nat} (ho : ∀ g, g < F.W.length → g ∈ ord) {L : As} {k : Nat → Nat} {t : List (Nat × Nat)} {L' : As} {k' : Nat → Nat} (I : InvA F L k) (s : Steps F ord L k t L' k') :
    Stb F L' ∧ ∀ M, Stb F M → ∀ g, F.rank g (L' g) ≤ F.rank g (M g) := by
  obtain ⟨I', e⟩ := steps_inv ok I s
  refine invA_end ok I' fun g hn => ?_
  have kl := I'.kl g
  by_cases hg : g < F.W.length
  · have := (find_all _ _).mp e g (ho g hg)
    simp [hn] at this; omega
  · have : F.ch g = [] := by
      cases h : F.ch g with
      | nil => rfl
      | cons a b => exact absurd (ch_facts ok (show a ∈ F.ch g by rw [h]; simp)).1 hg
    rw [this] at kl ⊢; simp at kl ⊢; omega
end
theorem sum_lt {f g : Nat → Nat} (h : ∀ x, f x ≤ g x) {y : Nat} (hy : f y < g y) : ∀ {n : Nat}, y < n → sumN f n < sumN g n
  | 0, k => by omega
  | n + 1, k => by
    have := sum_le h n
    have := h n
    simp only [sumN]
    by_cases e : y = n
    · subst e; omega
    · have := sum_lt h hy (n := n) (by omega); omega
theorem sum_bound {f : Nat → Nat} {c : Nat} (h : ∀ x, f x ≤ c) : ∀ n, sumN f n ≤ c * n
  | 0 => by simp [sumN]
  | n + 1 => by have := sum_bound h n; have := h n; simp only [sumN, Nat.mul_succ]; omega
def leftN (F : Fair) (k : Nat → Nat) : Nat := sumN (fun g => (F.ch g).length - k g) F.W.length
theorem left_step {F : Fair} {k : Nat → Nat} {g : Nat} (hg : g < F.W.length) (hk : k g < (F.ch g).length) : leftN F (stepK k g) < leftN F k :=
  sum_lt (fun x => by simp only [stepK]; split <;> (try (rename_i e; subst e)) <;> omega) (y := g) (by simp [stepK]; omega) hg
end MT

set_option Elab.async false
set_option linter.all false
set_option maxRecDepth 100000
namespace MT
open PySem PySem.Spec L2 PV GS MA
open PyProof.Rows hiding St
@[simp] theorem flatL_toLO (n : Nat) (L : As) : flatL (toL n fun g => encO (L g)) = true := flatL_of (by simp [toL])
@[simp] theorem flatL_mapN (l : List Nat) : flatL (l.map encN) = true := flatL_map flat_encN l
@[simp] theorem flat_encNN (p : Nat × Nat) : flat (encNN p) = true := by simp [encNN, encP, encN]
@[simp] theorem ixN_nat (n i : Nat) (h : i < n) : ixN n (i : Int) = some i := by simp [ixN, h]
theorem putAt_nat (ds : List PyData) (i : Nat) (d : PyData) (h : i < ds.length) : PV.putAt ds (.int (i : Nat)) d = some (ds.set i d) := by simp [PV.putAt, h]
theorem drop_cons' {l : List Nat} {k : Nat} (h : k < l.length) : l.drop k = l.getD k 0 :: l.drop (k + 1) := by
  rw [List.drop_eq_getElem_cons h]; simp [h]
theorem sPopIx_d (i k fi env) : sPopIx i k fi env = match slotL k env with
  | some ds => (fi env).out env fun n => match n with
    | .int n => match ixN ds.length n with
      | some j => match ds[j]? with
        | some (.list (d :: es)) => if flatL (d :: es) && decide (i < env.length) && decide (i ≠ k) then .nx ((env.set k (some (.list (ds.set j (.list es))))).set i (some d)) else .bad
        | _ => .bad
      | none => .bad
    | _ => .bad
  | none => .bad := nr rfl
theorem pop_lists {n i k g h : Nat} {fi : Lo → Res PyData} {env : Lo} {R : Nat → List Nat} {r : List Nat} (h1 : slotL k env = some (toL n fun x => encL encN (R x))) (h2 : fi env = .ok (.int (g : Nat))) (hg : g < n) (hr : R g = h :: r) (hi : i < env.length) (hk : i ≠ k) :
    sPopIx i k fi env = .nx ((env.set k (some (.list (toL n fun x => encL encN (if x = g then r else R x))))).set i (some (.int (h : Nat)))) := by
  have e : (toL n fun x => encL encN (R x))[g]? = some (.list (.int (h : Nat) :: r.map encN)) := by rw [toL_get _ hg, hr]; rfl
  have e2 : (toL n fun x => encL encN (R x)).set g (.list (r.map encN)) = toL n fun x => encL encN (if x = g then r else R x) := by
    rw [toL_set]; refine toL_congr fun y _ => ?_
    by_cases e : y = g <;> simp [e, encL]
  simp only [sPopIx_d, h1, h2, out_ok, toL_len, ixN_nat _ _ hg, e, e2]
  simp [hi, hk]
theorem put_none (n : Nat) (L : As) (x : Nat) : (toL n fun g => encO (L g)).set x PyData.none = toL n fun g => encO (if g = x then none else L g) := by
  rw [toL_set]; refine toL_congr fun y _ => ?_
  by_cases e : y = x <;> simp [e, encO]
theorem put_some (n : Nat) (L : As) (x h : Nat) : (toL n fun g => encO (L g)).set x (PyData.int (h : Nat)) = toL n fun g => encO (if g = x then some h else L g) := by
  rw [toL_set]; refine toL_congr fun y _ => ?_
  by_cases e : y = x <;> simp [e, encO]
section
variable {F : Fair} (ok : F.Ok)
include ok
theorem left_bound (k : Nat → Nat) : leftN F k ≤ 25 := by
  have h1 := sum_bound (f := fun g => (F.ch g).length - k g) (c := 5) (fun x => by have := ok.chlen x; omega) F.W.length
  have := ok.w5
  simp only [leftN]; omega
abbrev encS (F : Fair) (k : Nat → Nat) : PyData := .list (toL F.W.length fun g => encL encN ((F.ch g).drop (k g)))
abbrev encA (F : Fair) (L : As) : PyData := .list (toL F.W.length fun g => encO (L g))
def RunP (F : Fair) (ord : List Nat) (o : Out) : Prop := ∃ t L k, Steps F ord (fun _ => none) (fun _ => 0) t L k ∧ t.length ≤ 25 ∧ o = .rt (.tuple [.list (t.map encNN), encT encO (toL F.W.length L)])
theorem run_eq (ord : List Nat) (ho : ∀ g ∈ ord, g < F.W.length) : ∃ t L k, Steps F ord (fun _ => none) (fun _ => 0) t L k ∧ t.length ≤ 25 ∧
    m_run [encF F, encL encN ord] = .ok (.tuple [.list (t.map encNN), encT encO (toL F.W.length L)]) := by
  have w5 := ok.w5
  suffices h : RunP F ord (g_run ([encF F, encL encN ord].map some ++ List.replicate 9 none)) by
    obtain ⟨t, L, k, a, b, c⟩ := h; exact ⟨t, L, k, a, b, fn_rt rfl c⟩
  have cc : ∀ g, g < F.W.length → m_choices [encF F, .int (g : Nat)] = .ok (encL encN (F.ch g)) := fun g hg => choices_eq ok g hg
  simp only [g_run]
  simp
  rw [compD_map encTN (fun _ => PyData.none) F.W (fun x _ => by simp)]
  simp [show F.W.length ≤ 100000 by omega]
  rw [compD_map encN (fun g => encL encN (F.ch g)) (List.range F.W.length) (fun g hg => by
    have hg' := List.mem_range.mp hg
    simp [encN, cc g hg'])]
  have e1 : F.W.map (fun _ => PyData.none) = toL F.W.length (fun g => encO ((fun _ => none : As) g)) := by
    refine List.ext_getElem (by simp [toL]) fun i h1 h2 => ?_
    simp [toL, encO]
  have e2 : (List.range F.W.length).map (fun g => encL encN (F.ch g)) = toL F.W.length (fun g => encL encN ((F.ch g).drop ((fun _ => 0 : Nat → Nat) g))) := by simp [toL]
  simp only [e1, e2]
  simp [toL_len, show F.W.length ≤ 100000 by omega]
  have nx := fun L k => next_guest_eq ok ord L k ho
  have nx0 := nx (fun _ => none) (fun _ => 0)
  simp only [List.drop_zero] at nx0
  simp only [nx0]
  simp
  refine while_runP (P := RunP F ord)
    (fun n env => ∃ (a : List (Nat × Nat)) (L : As) (k : Nat → Nat) (j6 j7 j8 j9 j10 : Option PyData), env = [some (encF F), some (encL encN ord), some (encA F L), some (encS F k), some (.list (a.map encNN)), some (encO (nextM F ord L k)), j6, j7, j8, j9, j10] ∧
      InvA F L k ∧ n = leftN F k ∧ a.length + n ≤ 25 ∧ ∀ t L' k', Steps F ord L k t L' k' → Steps F ord (fun _ => none) (fun _ => 0) (a ++ t) L' k')
    (leftN F (fun _ => 0)) ⟨[], fun _ => none, fun _ => 0, none, none, none, none, none, by simp, invA_start ok, rfl, by simpa using left_bound ok _, fun t L' k' h => h⟩ (by have := left_bound ok (fun _ => 0); simp only [FUEL]; omega) ?_
  rintro n env ⟨a, L, k, j6, j7, j8, j9, j10, rfl, I, rfl, hb, hS⟩
  cases e : nextM F ord L k with
  | none =>
    refine ⟨false, by simp [encO], by simp, fun _ => ?_⟩
    refine ⟨a, L, k, by simpa using hS [] L k (.nil e), by omega, ?_⟩
    simp [encT, toL_map]
  | some g =>
    refine ⟨true, by simp [encO], fun _ => ?_, by simp⟩
    obtain ⟨hgo, e0, hk⟩ := next_facts ok e
    have hg := ho g hgo
    obtain ⟨hc, hr⟩ := ask_facts ok hk
    have hh := (ch_facts ok hc).2.1
    have sl : (someM F L g (askH F k g)).length ≤ 6 := by simp only [someM, List.length_append, List.length_singleton]; have := ins_le F.W.length L (askH F k g); omega
    have il := ins_le F.W.length L (askH F k g)
    have gk := guestsL F.W.length L (askH F k g) (by omega)
    have es : PyData.list ((ins F.W.length L (askH F k g)).map encN ++ [.int (g : Nat)]) = encL encN (someM F L g (askH F k g)) := by simp [encL, someM, encN]
    have hd : (F.ch g).drop (k g) = askH F k g :: (F.ch g).drop (k g + 1) := drop_cons' hk
    have eS : (toL F.W.length fun g => encL encN ((F.ch g).drop (k g))).set g (.list (((F.ch g).drop (k g + 1)).map encN)) = toL F.W.length fun x => encL encN ((F.ch x).drop (stepK k g x)) := by
      rw [toL_set]; refine toL_congr fun x _ => ?_
      by_cases ex : x = g
      · subst ex; simp [stepK, encL]
      · simp [stepK, ex]
    have kk := kept_eq ok (askH F k g) (someM F L g (askH F k g)) hh
    have step : ∃ env2, ((sFor (iSeq (eVar 7)) (tName 9) (sSeq (sPut 2 (eC .none) (eVar 9)) (sSeq (sIf (eT (eOp dIn (eVar 9) (eVar 8))) (sSeq (sPut 2 (eVar 6) (eVar 9)) .nx) .nx) .nx)))
        [some (encF F), some (encL encN ord), some (encA F L), some (encS F (stepK k g)), some (.list ((a ++ [(g, askH F k g)]).map encNN)), some (.int (g : Nat)), some (.int (askH F k g : Nat)), some (encL encN (someM F L g (askH F k g))), some (encL encN (keptM F (askH F k g) (someM F L g (askH F k g)))), j9, j10]).seq
        (sSeq (sSet 5 (eFn m_next_guest (eCons (eVar 1) (eCons (eVar 2) (eCons (eVar 3) eNil))))) .nx) = .nx env2 ∧
        ∃ j6 j7 j8 j9, env2 = [some (encF F), some (encL encN ord), some (encA F (stepL F L g (askH F k g))), some (encS F (stepK k g)), some (.list ((a ++ [(g, askH F k g)]).map encNN)), some (encO (nextM F ord (stepL F L g (askH F k g)) (stepK k g))), j6, j7, j8, j9, j10] := by
      refine for_preP (P := fun o => ∃ env2, o = .nx env2 ∧ ∃ j6 j7 j8 j9, env2 = [some (encF F), some (encL encN ord), some (encA F (stepL F L g (askH F k g))), some (encS F (stepK k g)), some (.list ((a ++ [(g, askH F k g)]).map encNN)), some (encO (nextM F ord (stepL F L g (askH F k g)) (stepK k g))), j6, j7, j8, j9, j10])
        encN (someM F L g (askH F k g)) (fun ys env => ∃ j9, env = [some (encF F), some (encL encN ord), some (encA F (fun x => if x ∈ ys then (if x ∈ keptM F (askH F k g) (someM F L g (askH F k g)) then some (askH F k g) else none) else L x)), some (encS F (stepK k g)), some (.list ((a ++ [(g, askH F k g)]).map encNN)), some (.int (g : Nat)), some (.int (askH F k g : Nat)), some (encL encN (someM F L g (askH F k g))), some (encL encN (keptM F (askH F k g) (someM F L g (askH F k g)))), j9, j10])
        (by simp) ⟨j9, by simp⟩ ?_ ?_
      · rintro ys x zs env e ⟨j9, rfl⟩
        have hx : x < F.W.length := by
          have : x ∈ someM F L g (askH F k g) := e ▸ by simp
          rcases (some_mem ok I.toLo' x).mp this with r | r
          · subst r; exact hg
          · exact (ch_facts ok (I.fit x _ r)).1
        by_cases hm : x ∈ keptM F (askH F k g) (someM F L g (askH F k g))
        · simp [encN, putAt_nat, toL_len, hx, hm, put_none, put_some]
          refine toL_congr fun y hy => ?_
          by_cases eyx : y = x
          · subst eyx; simp [hm]
          · simp [eyx]
        · simp [encN, putAt_nat, toL_len, hx, hm, put_none, put_some]
          refine toL_congr fun y hy => ?_
          by_cases eyx : y = x
          · subst eyx; simp [hm]
          · simp [eyx]
      · rintro env ⟨j9, rfl⟩
        have nn := nx (stepL F L g (askH F k g)) (stepK k g)
        have en : encA F (fun x => if x ∈ someM F L g (askH F k g) then (if x ∈ keptM F (askH F k g) (someM F L g (askH F k g)) then some (askH F k g) else none) else L x) = encA F (stepL F L g (askH F k g)) := rfl
        rw [en]
        simp [nn]
    obtain ⟨env2, s1, j6', j7', j8', j9', s2⟩ := step
    refine ⟨env2, leftN F (stepK k g), ?_, left_step hg hk, a ++ [(g, askH F k g)], stepL F L g (askH F k g), stepK k g, j6', j7', j8', j9', j10, s2, inv_step ok I e, rfl, ?_, fun t L' k' h => by simpa using hS _ _ _ (.cons e h)⟩
    · rw [← s1]
      have eS2 : (toL F.W.length fun x => encL encN (if x = g then (F.ch g).drop (k g + 1) else (F.ch x).drop (k x))) = toL F.W.length fun x => encL encN ((F.ch x).drop (stepK k g x)) := toL_congr fun x _ => by
        by_cases ex : x = g
        · subst ex; simp [stepK]
        · simp [stepK, ex]
      have pp := pop_lists (n := F.W.length) (i := 6) (k := 3) (g := g) (h := askH F k g) (fi := eVar 5) (env := [some (encF F), some (encL encN ord), some (encA F L), some (encS F k), some (.list (a.map encNN)), some (.int (g : Nat)), j6, j7, j8, j9, j10]) (R := fun x => (F.ch x).drop (k x)) (r := (F.ch g).drop (k g + 1)) (by simp) (by simp) hg hd (by simp) (by decide)
      simp only [eS2] at pp
      simp [encO] at pp ⊢
      have ea : dAdd (encL encN (ins F.W.length L (askH F k g))) (.list [.int (g : Nat)]) = some (encL encN (someM F L g (askH F k g))) := by
        rw [← es, encL, dAdd_l, if_pos (by simp; omega)]
      simp [pp, gk, ea, show a.length < 100000 by omega, kk, show encNN (g, askH F k g) = .tuple [.int (g : Nat), .int (askH F k g : Nat)] from rfl]
    · have := left_step hg hk; simp; omega
theorem best_eq : ∃ L, Stb F L ∧ (∀ M, Stb F M → ∀ g, F.rank g (L g) ≤ F.rank g (M g)) ∧ m_best [encF F] = .ok (encT encO (toL F.W.length L)) := by
  obtain ⟨t, L, k, h1, h2, h3⟩ := run_eq ok (List.range F.W.length) fun g hg => List.mem_range.mp hg
  have ⟨a, b⟩ := steps_end ok (fun g hg => List.mem_range.mpr hg) (invA_start ok) h1
  have w5 := ok.w5
  refine ⟨L, a, b, fn_rt rfl ?_⟩
  simp only [encL] at h3
  simp [g_best, show F.W.length ≤ 100000 by omega, h3]
end
end MT

set_option Elab.async false
set_option linter.all false
set_option maxRecDepth 100000
namespace MT
open PySem PySem.Spec L2 PV GS MA
open PyProof.Rows hiding St
def row (F : Fair) (h : Nat) : Nat × List Nat := F.R.getD h (0, [])
@[simp] theorem row_0 (F : Fair) (h : Nat) : dIx (encR (row F h)) (.int 0) = some (.int (F.c h)) := by simp [encR, encP, row, Fair.c, encN]
@[simp] theorem row_1 (F : Fair) (h : Nat) : dIx (encR (row F h)) (.int 1) = some (encT encN (F.l h)) := by simp [encR, encP, row, Fair.l]
theorem enumR (F : Fair) : enumD (F.R.map encR) 0 = (List.range F.R.length).map (enc2 encR (row F)) := enumD_enc encR F.R (0, [])
section
variable {F : Fair} (ok : F.Ok)
include ok
theorem acc_len (h : Nat) : (acc F h).length ≤ 5 := Nat.le_trans (List.length_filter_le _ _) (ok.llen h)
theorem acc_lt {h g : Nat} (e : g ∈ acc F h) : g < F.W.length := (ch_facts ok (mem_acc.mp e)).1
abbrev encSH (F : Fair) (k : Nat → Nat) : PyData := .list (toL F.R.length fun h => encL encN ((acc F h).drop (k h)))
def nextH (F : Fair) (L : As) (k : Nat → Nat) : Option Nat := (List.range F.R.length).find? fun h => decide (k h < (acc F h).length) && decide (cnt F L h < F.c h)
theorem next_house_eq (L : As) (k : Nat → Nat) : m_next_house [encF F, encA F L, encSH F k] = .ok (encO (nextH F L k)) := by
  have r5 := ok.r5
  refine fn_rt rfl ?_
  simp [g_next_house]
  refine for_find encN (List.range F.R.length) (fun h => decide (k h < (acc F h).length) && decide (cnt F L h < F.c h)) encN (fun _ env => ∃ j, env = [some (encF F), some (encA F L), some (encSH F k), j]) (by simp [show F.R.length ≤ 100000 by omega]) ⟨_, rfl⟩ ?_ ?_ ?_
  · rintro ys h zs env e ⟨j, rfl⟩
    obtain ⟨_, hh⟩ := range_split e
    simp [encN, toL_get _ hh]
    by_cases hk : k h < (acc F h).length
    · simp [hk, freeL ok L h hh]
      by_cases hc : cnt F L h < F.c h <;> simp [hc]
    · simp [hk]
  · intro h hh
    simp only [nextH, hh]; rfl
  · rintro hn env ⟨j, rfl⟩
    simp only [nextH, hn]; simp [encO]
def WorstP (F : Fair) (o : Out) : Prop := ∃ L, Stb F L ∧ (∀ M, Stb F M → ∀ g, F.rank g (M g) ≤ F.rank g (L g)) ∧ o = .rt (encT encO (toL F.W.length L))
theorem worst_eq : ∃ L, Stb F L ∧ (∀ M, Stb F M → ∀ g, F.rank g (M g) ≤ F.rank g (L g)) ∧ m_worst [encF F] = .ok (encT encO (toL F.W.length L)) := by
  have w5 := ok.w5
  have r5 := ok.r5
  suffices h : WorstP F (g_worst ([encF F].map some ++ List.replicate 6 none)) by
    obtain ⟨L, a, b, c⟩ := h; exact ⟨L, a, b, fn_rt rfl c⟩
  simp only [g_worst]
  simp
  rw [compD_map encTN (fun _ => PyData.none) F.W (fun x _ => by simp)]
  simp [show F.W.length ≤ 100000 by omega]
  have e1 : F.W.map (fun _ => PyData.none) = toL F.W.length (fun g => encO ((fun _ => none : As) g)) := by
    refine List.ext_getElem (by simp [toL]) fun i h1 h2 => ?_
    simp [toL, encO]
  simp only [e1]
  refine for_preP (P := WorstP F) (enc2 encR (row F)) (List.range F.R.length) (fun ys env => ∃ j3 j4, env = [some (encF F), some (encA F fun _ => none), some (.list (ys.map fun h => encL encN (acc F h))), j3, j4, none, none]) (by simp [enumR]) ⟨none, none, by simp⟩ ?_ ?_
  · rintro ys h zs env e ⟨j3, j4, rfl⟩
    obtain ⟨hl, hh⟩ := range_split e
    have hlt : ys.length < 100000 := by omega
    have e3 : (F.l h).filter (fun g => F.fit g h) = acc F h := List.filter_congr fun g _ => fit_ch F g h
    have al := acc_len ok h
    have cp : compD (tName 5) (eT (eFn m_fits (eCons (eVar 0) (eCons (eVar 5) (eCons (eVar 3) eNil))))) (eFlat (eVar 5))
        [some (encF F), some (encA F fun _ => none), some (.list (ys.map fun h => encL encN (acc F h))), some (.int (h : Nat)), some (encR (row F h)), none, none] ((F.l h).map encN) = .ok ((acc F h).map encN) := by
      rw [← e3]
      refine compD_run encN (fun g => F.fit g h) encN (F.l h) fun g hg => ?_
      have hg' := (ok.l' h).2.2 g hg
      have ft := fits_eq ok g h hg' hh
      simp [encN, ft]
    simp [enc2, cp, show (acc F h).length ≤ 100000 by omega, hlt, show PyData.list ((acc F h).map encN) = encL encN (acc F h) from rfl]
  · rintro env ⟨j3, j4, rfl⟩
    have e4 : (List.range F.R.length).map (fun h => encL encN (acc F h)) = toL F.R.length (fun h => encL encN ((acc F h).drop ((fun _ => 0 : Nat → Nat) h))) := by simp [toL]
    rw [e4]
    have nx0 : m_next_house [encF F, encA F (fun _ => none), .list (toL F.R.length fun h => encL encN (acc F h))] = .ok (encO (nextH F (fun _ => none) fun _ => 0)) := by
      have := next_house_eq ok (fun _ => none) (fun _ => 0)
      simpa [encSH] using this
    simp [nx0]
    have lb : ∀ k : Nat → Nat, sumN (fun h => (acc F h).length - k h) F.R.length ≤ 25 := fun k => by
      have h1 := sum_bound (f := fun h => (acc F h).length - k h) (c := 5) (fun x => by have := acc_len ok x; omega) F.R.length
      omega
    refine while_runP (P := WorstP F)
      (fun n env => ∃ (L : As) (k : Nat → Nat) (j4 j5 j6 : Option PyData), env = [some (encF F), some (encA F L), some (encSH F k), some (encO (nextH F L k)), j4, j5, j6] ∧
        InvH F L k ∧ n = sumN (fun h => (acc F h).length - k h) F.R.length)
      (sumN (fun h => (acc F h).length - 0) F.R.length) ⟨fun _ => none, fun _ => 0, j4, none, none, by simp, invH_start ok, rfl⟩ (by have := lb (fun _ => 0); simp only [FUEL]; omega) ?_
    rintro n env ⟨L, k, j4, j5, j6, rfl, I, rfl⟩
    cases e : nextH F L k with
    | none =>
      refine ⟨false, by simp [encO], by simp, fun _ => ?_⟩
      have fin : ∀ h, cnt F L h < F.c h → k h = (acc F h).length := fun h hc => by
        have kl := I.kl h
        by_cases hh : h < F.R.length
        · have := (find_all _ _).mp e h (List.mem_range.mpr hh)
          simp [hc] at this; omega
        · have : acc F h = [] := by
            cases e : acc F h with
            | nil => rfl
            | cons a b => exact absurd (ch_facts ok (mem_acc.mp (show a ∈ acc F h by rw [e]; simp))).2.1 hh
          rw [this] at kl ⊢; simp at kl ⊢; omega
      have ⟨a, b⟩ := invH_end ok I fin
      refine ⟨L, a, b, ?_⟩
      simp [encT, toL_map]
    | some h =>
      refine ⟨true, by simp [encO], fun _ => ?_, by simp⟩
      have h1 := List.find?_some e
      have hh := List.mem_range.mp (List.mem_of_find?_eq_some e)
      simp at h1
      obtain ⟨hk, hc⟩ := h1
      let g := (acc F h).getD (k h) 0
      have eg : g = (acc F h)[k h] := by simp [g, hk]
      have gm : g ∈ acc F h := by rw [eg]; exact List.getElem_mem hk
      have hg := acc_lt ok gm
      have hi : ai F h g = k h := by
        simp only [ai]; rw [eg]; exact ((ok.l' h).2.1.sublist List.filter_sublist).idxOf_getElem _ hk
      have fc := mem_acc.mp gm
      have hd : (acc F h).drop (k h) = g :: (acc F h).drop (k h + 1) := drop_cons' hk
      have eS2 : (toL F.R.length fun x => encL encN (if x = h then (acc F h).drop (k h + 1) else (acc F x).drop (k x))) = toL F.R.length fun x => encL encN ((acc F x).drop (stepK k h x)) := toL_congr fun x _ => by
        by_cases ex : x = h
        · subst ex; simp [stepK]
        · simp [stepK, ex]
      have pp := pop_lists (n := F.R.length) (i := 5) (k := 2) (g := h) (h := g) (fi := eVar 3) (env := [some (encF F), some (encA F L), some (encSH F k), some (.int (h : Nat)), j4, j5, j6]) (R := fun x => (acc F x).drop (k x)) (r := (acc F h).drop (k h + 1)) (by simp) (by simp) hh hd (by simp) (by decide)
      simp only [eS2] at pp
      have lk : m_likes [encF F, .int (g : Nat), .int (h : Nat), encO (L g)] = .ok (.bool (decide (F.rank g (some h) < F.rank g (L g)))) := likes_eq ok g (some h) (L g) hg (fun a e => by cases e; exact fc) (fun a e => I.fit g a e)
      let L' : As := fun x => if x = g then (if F.rank g (some h) < F.rank g (L g) then some h else L g) else L x
      have I' := invH_step ok I (L' := L') (k' := stepK k h) hc fc hi (by simp [L']) (fun x hx => by simp [L', hx]) (by simp [stepK]) (fun x hx => by simp [stepK, hx])
      have ms : sumN (fun x => (acc F x).length - stepK k h x) F.R.length < sumN (fun x => (acc F x).length - k x) F.R.length :=
        sum_lt (fun x => by simp only [stepK]; split <;> (try (rename_i e; subst e)) <;> omega) (y := h) (by simp [stepK]; omega) hh
      have nn := next_house_eq ok L' (stepK k h)
      have key : ∃ j4' j5' j6', (sSeq (sPopIx 5 2 (eVar 3)) (sSeq (sIf (eT (eFn m_likes (eCons (eVar 0) (eCons (eVar 5) (eCons (eVar 3) (eCons (eOp dIx (eVar 1) (eVar 5)) eNil)))))) (sSeq (sPut 1 (eVar 3) (eVar 5)) .nx) .nx) (sSeq (sSet 3 (eFn m_next_house (eCons (eVar 0) (eCons (eVar 1) (eCons (eVar 2) eNil))))) .nx)))
          [some (encF F), some (encA F L), some (encSH F k), some (.int (h : Nat)), j4, j5, j6] = .nx [some (encF F), some (encA F L'), some (encSH F (stepK k h)), some (encO (nextH F L' (stepK k h))), j4', j5', j6'] := by
        refine ⟨j4, some (.int (g : Nat)), j6, ?_⟩
        by_cases lt : F.rank g (some h) < F.rank g (L g)
        · have eL : (toL F.W.length fun x => encO (if x = g then some h else L x)) = toL F.W.length fun x => encO (L' x) := toL_congr fun x _ => by
            by_cases ex : x = g <;> simp [L', ex, lt]
          simp [pp, toL_get _ hg, lk, lt, putAt_nat, toL_len, hg, put_some, eL, nn]
        · have eL : encA F L = encA F L' := congrArg PyData.list (toL_congr fun x _ => by
            by_cases ex : x = g <;> simp [L', ex, lt])
          simp [pp, toL_get _ hg, lk, lt]
          rw [eL, nn]; simp
      obtain ⟨j4', j5', j6', key⟩ := key
      exact ⟨_, _, key, ms, L', stepK k h, j4', j5', j6', rfl, I', rfl⟩
end
end MT

set_option Elab.async false
set_option linter.all false
set_option maxRecDepth 100000
namespace MT
open PySem PySem.Spec L2 PV GS MA
open PyProof.Rows hiding St
@[simp] theorem isInt_O (h : Nat) : isInt (encO (some h)) = true := rfl
@[simp] theorem encO_none : encO none = .none := rfl
@[simp] theorem encO_some (h : Nat) : encO (some h) = .int (h : Nat) := rfl
theorem nest {tgt : PyData → Lo → Option Lo} {body : Lo → Out} {x : PyData} {env : Lo} {R : Lo → Prop} {env1 : Lo} (h1 : tgt x env = some env1) (h2 : ∃ env2, body env1 = .nx env2 ∧ R env2) : ∃ env1 env2, tgt x env = some env1 ∧ body env1 = .nx env2 ∧ R env2 := by
  obtain ⟨env2, a, b⟩ := h2; exact ⟨env1, env2, h1, a, b⟩
theorem count_cn (o : Option Nat) : ∀ (n : Nat) (L : Lod), L.length = n → L.count o = cn (fun g => decide (at0 L g = o)) n
  | 0, L, e => by cases L with
    | nil => rfl
    | cons a l => simp at e
  | n + 1, L, e => by
    obtain ⟨l, a, rfl⟩ : ∃ l a, L = l ++ [a] := ⟨L.dropLast, L.getLast (by intro h; subst h; simp at e), (List.dropLast_concat_getLast _).symm⟩
    simp at e
    have ih := count_cn o n l e
    have c1 : cn (fun g => decide (at0 (l ++ [a]) g = o)) n = cn (fun g => decide (at0 l g = o)) n := cn_congr fun g hg => by
      simp only [at0, List.getD_eq_getElem?_getD]; rw [List.getElem?_append_left (by omega)]
    have c2 : at0 (l ++ [a]) n = a := by simp [at0, ← e]
    rw [List.count_append, ih, cn, c1, c2]
    by_cases h : a = o <;> simp [h, List.count_cons]
theorem lodg_of {F : Fair} {L : Lod} (h : Lodg F L) : Lo' F (at0 L) := ⟨h.fit, fun x => by have := h.cap x; rw [count_cn (some x) F.W.length L h.len] at this; exact this⟩
theorem at0_out {L : Lod} {g : Nat} (h : L.length ≤ g) : at0 L g = none := by simp [at0, h]
theorem to_lodg {F : Fair} {M : As} (ok : F.Ok) (h : Lo' F M) : Lodg F (toL F.W.length M) ∧ at0 (toL F.W.length M) = M := by
  have e : at0 (toL F.W.length M) = M := toL_at0' fun g hg => by
    cases e : M g with
    | none => rfl
    | some x => have := (ch_facts ok (h.fit g x e)).1; omega
  exact ⟨⟨toL_len _ _, by rw [e]; exact h.fit, fun x => by rw [count_cn (some x) F.W.length _ (toL_len _ _), e]; exact h.cap x⟩, e⟩
/-! ### who spoils -/
def blkB (F : Fair) (M : As) (g h : Nat) : Bool := decide (F.rank g (some h) < F.rank g (M g)) && (decide (cnt F M h < F.c h) || (ins F.W.length M h).any fun x => decide (pr F h g < pr F h x))
theorem blkB_iff {F : Fair} (ok : F.Ok) {M : As} (hM : Lo' F M) {g h : Nat} (hc : h ∈ F.ch g) : blkB F M g h = true ↔ Blk F M g h := by
  simp only [blkB, Blk, Bool.and_eq_true, decide_eq_true_eq, Bool.or_eq_true, List.any_eq_true, ins_mem]
  constructor
  · rintro ⟨a, b⟩
    refine ⟨hc, a, ?_⟩
    rcases b with b | ⟨x, b1, b2⟩
    · exact .inl b
    · exact .inr ⟨x, b1.2, b2⟩
  · rintro ⟨_, a, b⟩
    refine ⟨a, ?_⟩
    rcases b with b | ⟨x, b1, b2⟩
    · exact .inl b
    · exact .inr ⟨x, ⟨(ch_facts ok (hM.fit x h b1)).1, b1⟩, b2⟩
def spG (F : Fair) (M : As) (g : Nat) : List (Nat × Nat) := ((F.ch g).filter fun h => blkB F M g h).map fun h => (g, h)
def sp (F : Fair) (M : As) : List (Nat × Nat) := (List.range F.W.length).flatMap (spG F M)
theorem sp_nil {F : Fair} (ok : F.Ok) {M : As} (hM : Lo' F M) : sp F M = [] ↔ Stb F M := by
  constructor
  · intro e
    refine ⟨hM, fun g h b => ?_⟩
    have hg := (ch_facts ok b.1).1
    have : (g, h) ∈ sp F M := by
      simp only [sp, List.mem_flatMap, List.mem_range, spG, List.mem_map, List.mem_filter]
      exact ⟨g, hg, h, ⟨b.1, (blkB_iff ok hM b.1).mpr b⟩, rfl⟩
    rw [e] at this; simp at this
  · intro s
    rw [List.eq_nil_iff_forall_not_mem]
    rintro ⟨g, h⟩ hm
    simp only [sp, List.mem_flatMap, List.mem_range, spG, List.mem_map, List.mem_filter] at hm
    obtain ⟨g', _, h', ⟨a, b⟩, e⟩ := hm
    cases e
    exact s.no g h ((blkB_iff ok hM a).mp b)
theorem spG_len {F : Fair} (ok : F.Ok) (M : As) (g : Nat) : (spG F M g).length ≤ 5 := by
  simp only [spG, List.length_map]; exact Nat.le_trans (List.length_filter_le _ _) (ok.chlen g)
theorem flat_len {α β : Type} (f : α → List β) (c : Nat) (h : ∀ x, (f x).length ≤ c) : ∀ l : List α, (l.flatMap f).length ≤ c * l.length
  | [] => by simp
  | x :: l => by
    have := flat_len f c h l; have := h x
    simp only [List.flatMap_cons, List.length_append, List.length_cons, Nat.mul_succ]; omega
section
variable {F : Fair} (ok : F.Ok)
include ok
theorem law_is_lodging_eq (L : Lod) (hL : Lodg F L) : m_law_is_lodging [encF F, encLd L] = .ok (.bool true) := by
  have w5 := ok.w5
  have r5 := ok.r5
  refine fn_rt rfl ?_
  simp [g_law_is_lodging, hL.len]
  refine for_pre (enc2 encO (at0 L)) (List.range L.length) (fun _ env => ∃ j2 j3, env = [some (encF F), some (encLd L), j2, j3]) (by simp [enumD_at0]) ⟨_, _, rfl⟩ ?_ ?_
  · rintro ys g zs env e ⟨j2, j3, rfl⟩
    obtain ⟨_, hg⟩ := range_split e
    rw [hL.len] at hg
    simp [enc2]
    cases o : at0 L g with
    | none => simp
    | some h => simp [m_law_whole, g_law_whole, mkFn, law_fits_eq ok, hg, hL.fit g h o]
  · rintro env ⟨j2, j3, rfl⟩
    simp [show F.R.length ≤ 100000 by omega]
    rw [compD_run encN (fun h => decide (F.c h < L.count (some h))) encN (List.range F.R.length) (fun h hh => by
      have hh' := List.mem_range.mp hh
      simp [encN, hh'])]
    have e : (List.range F.R.length).filter (fun h => decide (F.c h < L.count (some h))) = [] := by
      rw [List.filter_eq_nil_iff]; intro h _; have := hL.cap h; simp; omega
    have e2 : dEq (.list []) (.list []) = some (.bool true) := by have := encLN_eq [] []; simpa [encL] using this
    simp [e, e2]
theorem law_spoilers_eq (L : Lod) (hL : Lodg F L) : m_law_spoilers [encF F, encLd L] = .ok (encL encNN (sortB ltNP (sp F (at0 L)))) := by
  have w5 := ok.w5
  have hl := lodg_of hL
  refine fn_rt rfl ?_
  simp [g_law_spoilers]
  refine for_pre encN (List.range F.W.length) (fun ys env => ∃ A j3 j4 j5 j6 j7 j8 j9, env = [some (encF F), some (encLd L), some (.list (A.map encNN)), j3, j4, j5, j6, j7, j8, j9] ∧ A = ys.flatMap (spG F (at0 L))) (by simp [show F.W.length ≤ 100000 by omega]) ⟨[], none, none, none, none, none, none, none, by simp, rfl⟩ ?_ ?_
  · rintro ys g zs env e ⟨A, j3, j4, j5, j6, j7, j8, j9, rfl, hA⟩
    obtain ⟨hgl, hg⟩ := range_split e
    refine nest (env1 := [some (encF F), some (encLd L), some (.list (A.map encNN)), some (.int (g : Nat)), j4, j5, j6, j7, j8, j9]) (by simp [encN]) ?_
    simp only [sSeq_d]
    refine for_preP (P := fun o => ∃ env2, o = .nx env2 ∧ ∃ A j3 j4 j5 j6 j7 j8 j9, env2 = [some (encF F), some (encLd L), some (.list (A.map encNN)), j3, j4, j5, j6, j7, j8, j9] ∧ A = (ys ++ [g]).flatMap (spG F (at0 L)))
      encN (F.ch g) (fun us env => ∃ B j4 j5 j6 j7 j8 j9, env = [some (encF F), some (encLd L), some (.list (B.map encNN)), some (.int (g : Nat)), j4, j5, j6, j7, j8, j9] ∧ B = A ++ (us.filter fun h => blkB F (at0 L) g h).map fun h => (g, h)) ?_ ⟨A, j4, j5, j6, j7, j8, j9, rfl, (List.append_nil _).symm⟩ ?_ ?_
    · simp [law_fits_eq ok, hg]
    · rintro us h vs env e2 ⟨B, j4, j5, j6, j7, j8, j9, rfl, hB⟩
      have hc : h ∈ F.ch g := e2 ▸ by simp
      have ⟨_, hh, hgl2⟩ := ch_facts ok hc
      have n1 := flat_len (spG F (at0 L)) 5 (spG_len ok (at0 L)) ys
      have n2 := List.length_filter_le (fun h => blkB F (at0 L) g h) us
      have n3 : (F.ch g).length = us.length + (vs.length + 1) := by rw [e2]; simp
      have n4 := ok.chlen g
      have n5 : B.length < 100000 := by rw [hB, List.length_append, List.length_map, hA]; omega
      have il := ins_le F.W.length (at0 L) h
      have pf : ∀ x, (F.l h).idxOf x = pr F h x := fun _ => rfl
      simp [encN, hh, hL.len, show F.W.length ≤ 100000 by omega]
      rw [compD_run encN (fun x => decide (at0 L x = some h)) encN (List.range F.W.length) (fun x hx => by
        have hx' := List.mem_range.mp hx
        simp [encN, hx', hL.len])]
      have e7 : (List.range F.W.length).filter (fun x => decide (at0 L x = some h)) = ins F.W.length (at0 L) h := rfl
      simp [e7, show (ins F.W.length (at0 L) h).length ≤ 100000 by omega]
      rw [compD_run encN (fun x => decide (pr F h g < pr F h x)) encN (ins F.W.length (at0 L) h) (fun x hx => by
        have hx' := ins_mem.mp hx
        have := (ch_facts ok (hl.fit x h hx'.2)).2.2
        simp [encN, hgl2, this, pf])]
      have rk1 : m_law_rank [encF F, .int (g : Nat), .int (h : Nat)] = .ok (.int (F.rank g (some h) : Nat)) := law_rank_eq ok g (some h) hg
      have rk2 := law_rank_eq ok g (at0 L g) hg
      have fl := List.length_filter_le (fun x => decide (pr F h g < pr F h x)) (ins F.W.length (at0 L) h)
      have an : (!((ins F.W.length (at0 L) h).filter fun x => decide (pr F h g < pr F h x)).isEmpty) = (ins F.W.length (at0 L) h).any fun x => decide (pr F h g < pr F h x) := by
        rw [Bool.eq_iff_iff]; simp
      have nn : encNN (g, h) = .tuple [.int (g : Nat), .int (h : Nat)] := rfl
      have fin : ∀ b, blkB F (at0 L) g h = b → ∃ C, C = (if b then B ++ [(g, h)] else B) ∧ C = A ++ ((us ++ [h]).filter fun h => blkB F (at0 L) g h).map fun h => (g, h) := fun b hb => by
        refine ⟨_, rfl, ?_⟩
        cases b <;> simp [hb, hB]
      generalize hf : (ins F.W.length (at0 L) h).filter (fun x => decide (pr F h g < pr F h x)) = fr at *
      have bl : blkB F (at0 L) g h = (decide (F.rank g (some h) < F.rank g (at0 L g)) && (decide (cnt F (at0 L) h < F.c h) || !fr.isEmpty)) := by rw [blkB, an]
      simp [show fr.length ≤ 100000 by omega, rk1, rk2, ins_len, hg, hL.len]
      by_cases lt : F.rank g (some h) < F.rank g (at0 L g) <;> by_cases ct : cnt F (at0 L) h < F.c h <;> by_cases em : fr.isEmpty = true <;> simp only [lt, ct, em, decide_true, decide_false, Bool.true_and, Bool.false_and, Bool.true_or, Bool.false_or, Bool.not_true, Bool.not_false] at bl <;> obtain ⟨C, c1, c2⟩ := fin _ bl <;> simp at c1 <;> subst c1 <;> simp [lt, ct, em, n5]
      all_goals simpa [nn] using congrArg (List.map encNN) c2
    · rintro env ⟨B, j4, j5, j6, j7, j8, j9, rfl, hB⟩
      refine ⟨_, rfl, B, _, _, _, _, _, _, _, rfl, ?_⟩
      rw [hB, hA]; simp [spG]
  · rintro env ⟨A, j3, j4, j5, j6, j7, j8, j9, rfl, hA⟩
    simp [gSorted_NP, sp, encL, hA]
end
end MT

set_option Elab.async false
set_option linter.all false
set_option maxRecDepth 100000
namespace MT
open PySem PySem.Spec L2 PV GS MA
open PyProof.Rows hiding St
def Nx (R : Lo → Prop) (o : Out) : Prop := ∃ env2, o = .nx env2 ∧ R env2
@[simp] theorem Nx_nx (R : Lo → Prop) (e : Lo) : Nx R (.nx e) ↔ R e := ⟨fun ⟨_, h, k⟩ => by cases h; exact k, fun h => ⟨_, rfl, h⟩⟩
theorem nestN {tgt : PyData → Lo → Option Lo} {body : Lo → Out} {x : PyData} {env : Lo} {R : Lo → Prop} {env1 : Lo} (h1 : tgt x env = some env1) (h2 : Nx R (body env1)) : ∃ env1 env2, tgt x env = some env1 ∧ body env1 = .nx env2 ∧ R env2 := by
  obtain ⟨env2, a, b⟩ := h2; exact ⟨env1, env2, h1, a, b⟩
/-! ### all lodgings -/
def optsOf (F : Fair) (g : Nat) : Lod := none :: (sortB ltN (F.ch g)).map some
def okOpt (F : Fair) (l : Lod) (o : Option Nat) : Bool := match o with
  | none => true
  | some h => decide (l.count (some h) < F.c h)
def ext1 (F : Fair) (g : Nat) (l : Lod) : List Lod := ((optsOf F g).filter (okOpt F l)).map fun o => l ++ [o]
def lodgs (F : Fair) : Nat → List Lod
  | 0 => [[]]
  | n + 1 => (lodgs F n).flatMap (ext1 F n)
def evs (F : Fair) : List Lod := (lodgs F F.W.length).filter fun l => decide (sp F (at0 l) = [])
theorem sort_mem {h : Nat} {l : List Nat} : h ∈ sortB ltN l ↔ h ∈ l := (sortB_perm _ _).mem_iff
theorem mem_lodgs {F : Fair} : ∀ {n : Nat} {L : Lod}, L ∈ lodgs F n ↔ (L.length = n ∧ (∀ g h, at0 L g = some h → h ∈ F.ch g) ∧ ∀ h, L.count (some h) ≤ F.c h)
  | 0, L => by
    simp only [lodgs, List.mem_singleton]
    constructor
    · rintro rfl; simp [at0]
    · rintro ⟨e, _⟩; exact List.length_eq_zero_iff.mp e
  | n + 1, L => by
    simp only [lodgs, List.mem_flatMap, ext1, List.mem_map, List.mem_filter]
    constructor
    · rintro ⟨l, hl, o, ⟨ho, hk⟩, rfl⟩
      obtain ⟨a, b, c⟩ := mem_lodgs.mp hl
      refine ⟨by simp [a], fun g h e => ?_, fun h => ?_⟩
      · rcases at0_snoc e with e | ⟨e1, e2⟩
        · exact b g h e
        · subst e2; rw [e1, a]
          simp only [optsOf, List.mem_cons, List.mem_map] at ho
          rcases ho with ho | ⟨x, hx, e⟩
          · simp at ho
          · cases e; exact sort_mem.mp hx
      · have := c h
        rw [List.count_append]
        by_cases e : o = some h
        · subst e; simp [okOpt] at hk; simp; omega
        · simp [List.count_cons, e]; omega
    · rintro ⟨a, b, c⟩
      obtain ⟨l, o, rfl⟩ : ∃ l o, L = l ++ [o] := ⟨L.dropLast, L.getLast (by intro h; subst h; simp at a), (List.dropLast_concat_getLast _).symm⟩
      simp at a
      have e1 : ∀ g, g < n → at0 (l ++ [o]) g = at0 l g := fun g hg => by
        simp only [at0, List.getD_eq_getElem?_getD]; rw [List.getElem?_append_left (by omega)]
      have e2 : at0 (l ++ [o]) n = o := by simp [at0, ← a]
      refine ⟨l, mem_lodgs.mpr ⟨a, fun g h e => ?_, fun h => ?_⟩, o, ⟨?_, ?_⟩, rfl⟩
      · by_cases hg : g < n
        · exact b g h ((e1 g hg).trans e)
        · rw [at0_out (by omega)] at e; simp at e
      · have := c h; rw [List.count_append] at this; omega
      · simp only [optsOf, List.mem_cons, List.mem_map]
        cases o with
        | none => exact .inl rfl
        | some h => exact .inr ⟨h, sort_mem.mpr (b n h e2), rfl⟩
      · cases o with
        | none => rfl
        | some h => have := c h; rw [List.count_append] at this; simp at this; simp [okOpt]; omega
theorem mem_lodgs' {F : Fair} {L : Lod} : L ∈ lodgs F F.W.length ↔ Lodg F L := ⟨fun h => have ⟨a, b, c⟩ := mem_lodgs.mp h; ⟨a, b, c⟩, fun h => mem_lodgs.mpr ⟨h.len, h.fit, h.cap⟩⟩
theorem mem_evs {F : Fair} (ok : F.Ok) {L : Lod} : L ∈ evs F ↔ (L.length = F.W.length ∧ Stb F (at0 L)) := by
  simp only [evs, List.mem_filter, decide_eq_true_eq, mem_lodgs']
  constructor
  · rintro ⟨a, b⟩; exact ⟨a.len, (sp_nil ok (lodg_of a)).mp b⟩
  · rintro ⟨a, b⟩
    have hl : Lodg F L := ⟨a, b.fit, fun x => by rw [count_cn (some x) F.W.length L a]; exact b.cap x⟩
    exact ⟨hl, (sp_nil ok (lodg_of hl)).mpr b⟩
theorem evs_of {F : Fair} (ok : F.Ok) {M : As} (hM : Stb F M) : toL F.W.length M ∈ evs F ∧ at0 (toL F.W.length M) = M := by
  obtain ⟨a, b⟩ := to_lodg ok hM.toLo'
  exact ⟨(mem_evs ok).mpr ⟨toL_len _ _, by rw [b]; exact hM⟩, b⟩
section
variable {F : Fair} (ok : F.Ok)
include ok
theorem opts_len (g : Nat) : (optsOf F g).length ≤ 6 := by
  simp only [optsOf, List.length_cons, List.length_map, (sortB_perm ltN (F.ch g)).length_eq]
  have := ok.chlen g; omega
theorem ext1_len (g : Nat) (l : Lod) : (ext1 F g l).length ≤ 6 := by
  simp only [ext1, List.length_map]; exact Nat.le_trans (List.length_filter_le _ _) (opts_len ok g)
theorem lodgs_len : ∀ n, (lodgs F n).length ≤ 6 ^ n
  | 0 => by simp [lodgs]
  | n + 1 => by
    have := lodgs_len n
    have := flat_len (ext1 F n) 6 (ext1_len ok n) (lodgs F n)
    simp only [lodgs, Nat.pow_succ]; omega
theorem lodgs_small {n : Nat} (hn : n ≤ 5) : (lodgs F n).length ≤ 7776 := Nat.le_trans (lodgs_len ok n) (Nat.pow_le_pow_right (by decide) hn)
theorem law_every_eq : m_law_every [encF F] = .ok (encL encLd (evs F)) := by
  have w5 := ok.w5
  refine fn_rt rfl ?_
  simp [g_law_every]
  refine for_pre encN (List.range F.W.length) (fun ys env => ∃ A j2 j3 j4 j5, env = [some (encF F), some (.list (A.map encLd)), j2, j3, j4, j5] ∧ A = lodgs F ys.length) (by simp [show F.W.length ≤ 100000 by omega]) ⟨[[]], none, none, none, none, by simp [encT], rfl⟩ ?_ ?_
  · rintro ys g zs env e ⟨A, j2, j3, j4, j5, rfl, hA⟩
    obtain ⟨hgl, hg⟩ := range_split e
    have hAl : A.length ≤ 7776 := hA ▸ lodgs_small ok (by omega)
    refine nestN (env1 := [some (encF F), some (.list (A.map encLd)), some (.int (g : Nat)), j3, j4, j5]) (by simp [encN]) ?_
    simp
    refine for_preP (P := Nx _)
      encLd A (fun us env => ∃ B j4 j5, env = [some (encF F), some (.list (A.map encLd)), some (.int (g : Nat)), some (.list (B.map encLd)), j4, j5] ∧ B = us.flatMap (ext1 F g)) ?_ ⟨[], j4, j5, rfl, rfl⟩ ?_ ?_
    · simp
    · rintro us l vs env e2 ⟨B, j4, j5, rfl, hB⟩
      have hl := mem_lodgs.mp (hA ▸ (e2 ▸ (by simp) : l ∈ A))
      have ul : us.length < A.length := by rw [e2]; simp
      have hBl : B.length ≤ 6 * us.length := hB ▸ flat_len (ext1 F g) 6 (ext1_len ok g) us
      refine nest (env1 := [some (encF F), some (.list (A.map encLd)), some (.int (g : Nat)), some (.list (B.map encLd)), some (encLd l), j5]) (by simp) ?_
      simp only [sSeq_d]
      refine for_preP (P := fun o => ∃ env2, o = .nx env2 ∧ ∃ B j4 j5, env2 = [some (encF F), some (.list (A.map encLd)), some (.int (g : Nat)), some (.list (B.map encLd)), j4, j5] ∧ B = (us ++ [l]).flatMap (ext1 F g))
        encO (optsOf F g) (fun ws env => ∃ C j5, env = [some (encF F), some (.list (A.map encLd)), some (.int (g : Nat)), some (.list (C.map encLd)), some (encLd l), j5] ∧ C = B ++ (ws.filter (okOpt F l)).map fun o => l ++ [o]) ?_ ⟨B, j5, rfl, (List.append_nil _).symm⟩ ?_ ?_
      · have e5 : gSorted [encL encN (F.ch g)] = some (.list ((sortB ltN (F.ch g)).map encN)) := gSorted_N (F.ch g)
        have sl : (sortB ltN (F.ch g)).length ≤ 5 := by rw [(sortB_perm ltN (F.ch g)).length_eq]; exact ok.chlen g
        simp [law_fits_eq ok, hg, e5, show (sortB ltN (F.ch g)).length + 1 ≤ 1000 by omega, show 1 + (sortB ltN (F.ch g)).length ≤ 1000 by omega, optsOf]
        exact fun _ _ => rfl
      · rintro ws o xs env e3 ⟨C, j5, rfl, hC⟩
        have ho : o ∈ optsOf F g := e3 ▸ by simp
        have wl : ws.length < 6 := by have := opts_len ok g; rw [e3] at this; simp at this; omega
        have hCl : C.length < 100000 := by
          rw [hC, List.length_append, List.length_map]
          have := List.length_filter_le (okOpt F l) ws; omega
        have fin : ∃ D, D = (if okOpt F l o then C ++ [l ++ [o]] else C) ∧ D = B ++ ((ws ++ [o]).filter (okOpt F l)).map fun o => l ++ [o] := by
          refine ⟨_, rfl, ?_⟩
          cases hb : okOpt F l o <;> simp [hb, hC]
        obtain ⟨D, d1, d2⟩ := fin
        have ll : l.length ≤ 5 := by omega
        cases o with
        | none =>
          simp [okOpt] at d1
          subst d1
          have ea : dAdd (encLd l) (.tuple [.none]) = some (encLd (l ++ [none])) := by
            simp only [encT, dAdd_t, List.length_map, List.map_append]; rw [if_pos (by simp; omega)]; rfl
          simp [ea, hCl]
          simpa using congrArg (List.map encLd) d2
        | some h =>
          have hh : h < F.R.length := by
            simp only [optsOf, List.mem_cons, List.mem_map] at ho
            rcases ho with ho | ⟨x, hx, e⟩
            · simp at ho
            · cases e; exact (ok.ch' g).2 h (sort_mem.mp hx)
          have ea : dAdd (encLd l) (.tuple [.int (h : Nat)]) = some (encLd (l ++ [some h])) := by
            simp only [encT, dAdd_t, List.length_map, List.map_append]; rw [if_pos (by simp; omega)]; rfl
          by_cases hk : l.count (some h) < F.c h
          · simp [okOpt, hk] at d1
            subst d1
            simp [ea, hCl, hh, hk]
            simpa using congrArg (List.map encLd) d2
          · simp [okOpt, hk] at d1
            subst d1
            simp [hh, hk]
            simpa using congrArg (List.map encLd) d2
      · rintro env ⟨C, j5, rfl, hC⟩
        refine ⟨_, rfl, C, _, _, rfl, ?_⟩
        rw [hC, hB]; simp [ext1]
    · rintro env ⟨B, j4, j5, rfl, hB⟩
      simp
      rw [hB, hA, hgl]; rfl
  · rintro env ⟨A, j2, j3, j4, j5, rfl, hA⟩
    simp at hA
    subst hA
    have hAl := lodgs_small ok w5
    simp
    rw [compD_run encLd (fun l => decide (sp F (at0 l) = [])) encLd (lodgs F F.W.length) (fun l hl => by
      have hl' := mem_lodgs'.mp hl
      have e1 : dEq (encL encNN (sortB ltNP (sp F (at0 l)))) (.list []) = some (.bool (decide (sortB ltNP (sp F (at0 l)) = []))) := dEq_of (good_L (good_P good_N good_N)) (by decide) _ []
      have e2 : decide (sortB ltNP (sp F (at0 l)) = []) = decide (sp F (at0 l) = []) := decide_eq_decide.mpr ⟨fun h => by have := (sortB_perm ltNP (sp F (at0 l))).length_eq; rw [h] at this; exact List.length_eq_zero_iff.mp this.symm, fun h => by rw [h]; rfl⟩
      rw [e2] at e1
      simp [law_spoilers_eq ok l hl', e1])]
    have fl := List.length_filter_le (fun l => decide (sp F (at0 l) = [])) (lodgs F F.W.length)
    simp [show ((lodgs F F.W.length).filter fun l => decide (sp F (at0 l) = [])).length ≤ 100000 by omega, encL, evs]
end
end MT

set_option Elab.async false
set_option linter.all false
set_option maxRecDepth 100000
namespace MT
open PySem PySem.Spec L2 PV GS MA
open PyProof.Rows hiding St
theorem ins_count (L : Lod) (h : Nat) : (ins L.length (at0 L) h).length = L.count (some h) := by
  rw [count_cn (some h) L.length L rfl, cn_length]; rfl
theorem within_eq (a lo hi : Int) : m_is_within [.int a, .int lo, .int hi] = .ok (.bool (decide (lo ≤ a) && decide (a ≤ hi))) := by
  refine fn_rt rfl ?_
  simp [g_is_within]
  by_cases h : lo ≤ a <;> simp [h]
section
variable {F : Fair} (ok : F.Ok)
include ok
theorem is_lodging_eq (L : Lod) (hL : Lodg F L) : m_is_lodging [encF F, encLd L] = .ok (.bool true) := by
  have w5 := ok.w5
  have r5 := ok.r5
  refine fn_rt rfl ?_
  simp [g_is_lodging, hL.len]
  refine forC_find (enc2 encO (at0 L)) (List.range L.length) (fun _ => false) (fun _ => .bool false) (fun _ env => ∃ j2 j3, env = [some (encF F), some (encLd L), j2, j3, none]) (by simp [enumD_at0]) ⟨_, _, rfl⟩ ?_ ?_ ?_
  · rintro ys g zs env e ⟨j2, j3, rfl⟩
    obtain ⟨_, hg⟩ := range_split e
    rw [hL.len] at hg
    simp [enc2]
    cases o : at0 L g with
    | none => simp
    | some h =>
      have hc := hL.fit g h o
      have hh := (ch_facts ok hc).2.1
      have ft := fits_eq ok g h hg hh
      rw [fit_ch] at ft
      have wi : m_is_within [.int (h : Nat), .int 0, .int ((F.R.length : Int) - 1)] = .ok (.bool true) := by
        rw [within_eq]; simp; omega
      simp [wi, hg, ft, hc]
  · intro g hg; simp at hg
  · rintro _ env ⟨j2, j3, rfl⟩
    simp
    refine for_pre (enc2 encR (row F)) (List.range F.R.length) (fun _ env => ∃ j2 j3 j4, env = [some (encF F), some (encLd L), j2, j3, j4]) (by simp [enumR]) ⟨_, _, _, rfl⟩ ?_ ?_
    · rintro ys h zs env e ⟨j2, j3, j4, rfl⟩
      have := hL.cap h
      simp [enc2, guestsLO L h (by have := hL.len; omega), ins_count, show ¬ F.c h < L.count (some h) by omega]
    · rintro env ⟨j2, j3, j4, rfl⟩
      simp
theorem checked_eq (L : Lod) (hL : Lodg F L) : m_checked_lodging [encF F, encLd L] = .ok (encLd L) := by
  refine fn_rt rfl ?_
  simp [g_checked_lodging, is_lodging_eq ok L hL]
theorem freeLO (L : Lod) (h : Nat) (hh : h < F.R.length) (hl : L.length ≤ 5) : m_is_free [encF F, encLd L, .int (h : Nat)] = .ok (.bool (decide (L.count (some h) < F.c h))) := by
  refine fn_rt rfl ?_
  simp [g_is_free, guestsLO L h (by omega), hh, ins_count]
theorem house_would_eq (L : Lod) (hL : Lodg F L) (g h : Nat) (hc : h ∈ F.ch g) : m_house_would [encF F, encLd L, .int (h : Nat), .int (g : Nat)] = .ok (.bool (decide (cnt F (at0 L) h < F.c h) || (ins F.W.length (at0 L) h).any fun x => decide (pr F h g < pr F h x))) := by
  have w5 := ok.w5
  have ⟨hg, hh, gl⟩ := ch_facts ok hc
  have hl := lodg_of hL
  have ce : L.count (some h) = cnt F (at0 L) h := count_cn (some h) F.W.length L hL.len
  have fr := freeLO ok L h hh (by have := hL.len; omega)
  rw [ce] at fr
  have gi := guestsLO L h (by have := hL.len; omega)
  rw [hL.len] at gi
  have pf : ∀ x, (F.l h).idxOf x = pr F h x := fun _ => rfl
  refine fn_rt rfl ?_
  by_cases ct : cnt F (at0 L) h < F.c h
  · simp [g_house_would, fr, ct]
  · simp [g_house_would, fr, ct, hh]
    refine for_find encN (ins F.W.length (at0 L) h) (fun x => decide (pr F h g < pr F h x)) (fun _ => .bool true) (fun _ env => ∃ j5, env = [some (encF F), some (encLd L), some (.int (h : Nat)), some (.int (g : Nat)), some (encT encN (F.l h)), j5]) (by simp [gi]) ⟨_, rfl⟩ ?_ ?_ ?_
    · rintro ys x zs env e ⟨j5, rfl⟩
      have hx := ins_mem.mp (e ▸ (by simp) : x ∈ ins F.W.length (at0 L) h)
      have xl := (ch_facts ok (hl.fit x h hx.2)).2.2
      simp [encN, gl, xl, pf]
      by_cases lt : pr F h g < pr F h x <;> simp [lt]
    · intro x hx
      have h1 := List.find?_some hx
      have h2 := List.mem_of_find?_eq_some hx
      congr 2
      exact (List.any_eq_true.mpr ⟨x, h2, h1⟩).symm
    · rintro hn env ⟨j5, rfl⟩
      have : (ins F.W.length (at0 L) h).any (fun x => decide (pr F h g < pr F h x)) = false := by
        rw [List.any_eq_false]; intro x hx; have := (find_all _ _).mp hn x hx; simpa using this
      simp [this]
theorem spoilers_eq (L : Lod) (hL : Lodg F L) : m_spoilers [encF F, encLd L] = .ok (encL encNN (sortB ltNP (sp F (at0 L)))) := by
  have w5 := ok.w5
  have hl := lodg_of hL
  refine fn_rt rfl ?_
  simp [g_spoilers, checked_eq ok L hL]
  refine for_pre (enc2 encO (at0 L)) (List.range L.length) (fun ys env => ∃ A j3 j4 j5, env = [some (encF F), some (encLd L), some (.list (A.map encNN)), j3, j4, j5] ∧ A = ys.flatMap (spG F (at0 L))) (by simp [enumD_at0]) ⟨[], none, none, none, by simp, rfl⟩ ?_ ?_
  · rintro ys g zs env e ⟨A, j3, j4, j5, rfl, hA⟩
    obtain ⟨hgl, hg⟩ := range_split e
    rw [hL.len] at hg
    refine nestN (env1 := [some (encF F), some (encLd L), some (.list (A.map encNN)), some (.int (g : Nat)), some (encO (at0 L g)), j5]) (by simp [enc2]) ?_
    simp only [sSeq_d]
    refine for_preP (P := Nx _)
      encN (F.ch g) (fun us env => ∃ B j5, env = [some (encF F), some (encLd L), some (.list (B.map encNN)), some (.int (g : Nat)), some (encO (at0 L g)), j5] ∧ B = A ++ (us.filter fun h => blkB F (at0 L) g h).map fun h => (g, h)) ?_ ⟨A, j5, rfl, (List.append_nil _).symm⟩ ?_ ?_
    · simp [choices_eq ok, hg]
    · rintro us h vs env e2 ⟨B, j5, rfl, hB⟩
      have hc : h ∈ F.ch g := e2 ▸ by simp
      have n1 := flat_len (spG F (at0 L)) 5 (spG_len ok (at0 L)) ys
      have n2 := List.length_filter_le (fun h => blkB F (at0 L) g h) us
      have n3 : (F.ch g).length = us.length + (vs.length + 1) := by rw [e2]; simp
      have n4 := ok.chlen g
      have n5 : B.length < 100000 := by rw [hB, List.length_append, List.length_map, hA]; omega
      have nn : encNN (g, h) = .tuple [.int (g : Nat), .int (h : Nat)] := rfl
      have fin : ∀ b, blkB F (at0 L) g h = b → ∃ C, C = (if b then B ++ [(g, h)] else B) ∧ C = A ++ ((us ++ [h]).filter fun h => blkB F (at0 L) g h).map fun h => (g, h) := fun b hb => by
        refine ⟨_, rfl, ?_⟩
        cases b <;> simp [hb, hB]
      have lk : m_likes [encF F, .int (g : Nat), .int (h : Nat), encO (at0 L g)] = .ok (.bool (decide (F.rank g (some h) < F.rank g (at0 L g)))) := likes_eq ok g (some h) (at0 L g) hg (fun a e => by cases e; exact hc) (fun a e => hL.fit g a e)
      have hw := house_would_eq ok L hL g h hc
      generalize hany : (decide (cnt F (at0 L) h < F.c h) || (ins F.W.length (at0 L) h).any fun x => decide (pr F h g < pr F h x)) = bb at *
      have bl : blkB F (at0 L) g h = (decide (F.rank g (some h) < F.rank g (at0 L g)) && bb) := by rw [blkB, hany]
      simp [encN, lk]
      by_cases lt : F.rank g (some h) < F.rank g (at0 L g) <;> cases bb <;> simp only [lt, decide_true, decide_false, Bool.true_and, Bool.false_and] at bl <;> obtain ⟨C, c1, c2⟩ := fin _ bl <;> simp at c1 <;> subst c1 <;> simp [lt, hw, n5]
      all_goals simpa [nn] using congrArg (List.map encNN) c2
    · rintro env ⟨B, j5, rfl, hB⟩
      simp
      rw [hB, hA]; simp [spG]
  · rintro env ⟨A, j3, j4, j5, rfl, hA⟩
    have e : List.range L.length = List.range F.W.length := by rw [hL.len]
    simp [gSorted_NP, sp, encL, hA, e]
theorem is_steady_eq (L : Lod) (hL : Lodg F L) : m_is_steady [encF F, encLd L] = .ok (.bool (decide (sp F (at0 L) = []))) := by
  have e1 : dEq (encL encNN (sortB ltNP (sp F (at0 L)))) (.list []) = some (.bool (decide (sortB ltNP (sp F (at0 L)) = []))) := dEq_of (good_L (good_P good_N good_N)) (by decide) _ []
  have e2 : decide (sortB ltNP (sp F (at0 L)) = []) = decide (sp F (at0 L) = []) := decide_eq_decide.mpr ⟨fun h => by have := (sortB_perm ltNP (sp F (at0 L))).length_eq; rw [h] at this; exact List.length_eq_zero_iff.mp this.symm, fun h => by rw [h]; rfl⟩
  rw [e2] at e1
  refine fn_rt rfl ?_
  simp [g_is_steady, spoilers_eq ok L hL, e1]
theorem all_lodgings_eq : m_all_lodgings [encF F] = .ok (encL encLd (lodgs F F.W.length)) := by
  have w5 := ok.w5
  refine fn_rt rfl ?_
  simp [g_all_lodgings]
  refine for_pre encN (List.range F.W.length) (fun ys env => ∃ A j2 j3 j4 j5, env = [some (encF F), some (.list (A.map encLd)), j2, j3, j4, j5] ∧ A = lodgs F ys.length) (by simp [show F.W.length ≤ 100000 by omega]) ⟨[[]], none, none, none, none, by simp [encT], rfl⟩ ?_ ?_
  · rintro ys g zs env e ⟨A, j2, j3, j4, j5, rfl, hA⟩
    obtain ⟨hgl, hg⟩ := range_split e
    have hAl : A.length ≤ 7776 := hA ▸ lodgs_small ok (by omega)
    refine nestN (env1 := [some (encF F), some (.list (A.map encLd)), some (.int (g : Nat)), j3, j4, j5]) (by simp [encN]) ?_
    simp
    refine for_preP (P := Nx _)
      encLd A (fun us env => ∃ B j4 j5, env = [some (encF F), some (.list (A.map encLd)), some (.int (g : Nat)), some (.list (B.map encLd)), j4, j5] ∧ B = us.flatMap (ext1 F g)) ?_ ⟨[], j4, j5, rfl, rfl⟩ ?_ ?_
    · simp
    · rintro us l vs env e2 ⟨B, j4, j5, rfl, hB⟩
      have hl := mem_lodgs.mp (hA ▸ (e2 ▸ (by simp) : l ∈ A))
      have ul : us.length < A.length := by rw [e2]; simp
      have hBl : B.length ≤ 6 * us.length := hB ▸ flat_len (ext1 F g) 6 (ext1_len ok g) us
      have ll : l.length ≤ 5 := by omega
      refine nestN (env1 := [some (encF F), some (.list (A.map encLd)), some (.int (g : Nat)), some (.list (B.map encLd)), some (encLd l), j5]) (by simp) ?_
      have ea : dAdd (encLd l) (.tuple [.none]) = some (encLd (l ++ [none])) := by
        simp only [encT, dAdd_t, List.length_map, List.map_append]; rw [if_pos (by simp; omega)]; rfl
      simp [ea, show B.length < 100000 by omega]
      refine for_preP (P := Nx _)
        encN (sortB ltN (F.ch g)) (fun ws env => ∃ C j5, env = [some (encF F), some (.list (A.map encLd)), some (.int (g : Nat)), some (.list (C.map encLd)), some (encLd l), j5] ∧ C = B ++ ((none :: ws.map some).filter (okOpt F l)).map fun o => l ++ [o]) ?_ ⟨B ++ [l ++ [none]], j5, by simp, by simp [okOpt, List.filter_cons]⟩ ?_ ?_
      · have e5 : gSorted [encL encN (F.ch g)] = some (.list ((sortB ltN (F.ch g)).map encN)) := gSorted_N (F.ch g)
        simp [choices_eq ok, hg, e5]
      · rintro ws h xs env e3 ⟨C, j5, rfl, hC⟩
        have sl : (sortB ltN (F.ch g)).length ≤ 5 := by rw [(sortB_perm ltN (F.ch g)).length_eq]; exact ok.chlen g
        have hh : h < F.R.length := (ok.ch' g).2 h (sort_mem.mp (e3 ▸ by simp))
        have wl : ws.length < 5 := by rw [e3] at sl; simp at sl; omega
        have hCl : C.length < 100000 := by
          rw [hC, List.length_append, List.length_map]
          have := List.length_filter_le (okOpt F l) (none :: ws.map some); simp at this; omega
        have fin : ∀ b, okOpt F l (some h) = b → ∃ D, D = (if b then C ++ [l ++ [some h]] else C) ∧ D = B ++ ((none :: (ws ++ [h]).map some).filter (okOpt F l)).map fun o => l ++ [o] := fun b hb => by
          refine ⟨_, rfl, ?_⟩
          have e0 : none :: (ws ++ [h]).map some = (none :: ws.map some) ++ [some h] := by simp
          rw [e0, List.filter_append, List.map_append, ← List.append_assoc, ← hC]
          cases b <;> simp [hb]
        have ea : dAdd (encLd l) (.tuple [.int (h : Nat)]) = some (encLd (l ++ [some h])) := by
          simp only [encT, dAdd_t, List.length_map, List.map_append]; rw [if_pos (by simp; omega)]; rfl
        have gi := guestsLO l h (by omega)
        by_cases hk : l.count (some h) < F.c h
        · obtain ⟨D, d1, d2⟩ := fin true (by simp [okOpt, hk])
          simp at d1
          subst d1
          simp [encN, gi, ins_count, ea, hCl, hh, hk]
          simpa using congrArg (List.map encLd) d2
        · obtain ⟨D, d1, d2⟩ := fin false (by simp [okOpt, hk])
          simp at d1
          subst d1
          simp [encN, gi, ins_count, hh, hk]
          simpa using congrArg (List.map encLd) d2
      · rintro env ⟨C, j5, rfl, hC⟩
        simp
        rw [hC, hB]; simp [ext1, optsOf]
    · rintro env ⟨B, j4, j5, rfl, hB⟩
      simp
      rw [hB, hA, hgl]; rfl
  · rintro env ⟨A, j2, j3, j4, j5, rfl, hA⟩
    simp at hA
    subst hA
    simp [encL]
theorem all_steady_eq : m_all_steady [encF F] = .ok (encL encLd (evs F)) := by
  have hAl := lodgs_small ok ok.w5
  refine fn_rt rfl ?_
  simp [g_all_steady, all_lodgings_eq ok]
  rw [compD_run encLd (fun l => decide (sp F (at0 l) = [])) encLd (lodgs F F.W.length) (fun l hl => by
    have hl' := mem_lodgs'.mp hl
    simp [is_steady_eq ok l hl'])]
  have fl := List.length_filter_le (fun l => decide (sp F (at0 l) = [])) (lodgs F F.W.length)
  simp [show ((lodgs F F.W.length).filter fun l => decide (sp F (at0 l) = [])).length ≤ 100000 by omega, encL, evs]
end
end MT

set_option Elab.async false
set_option linter.all false
set_option maxRecDepth 100000
namespace MT
open PySem PySem.Spec L2 PV GS MA
open PyProof.Rows hiding St
/-! ### one guest's other wish -/
def setW (F : Fair) (g : Nat) (l : List Nat) : Fair := ⟨F.W.set g l, F.R⟩
section
variable {F : Fair} {g : Nat} {l : List Nat}
@[simp] theorem setW_G : (setW F g l).W.length = F.W.length := by simp [setW]
@[simp] theorem setW_R : (setW F g l).R = F.R := rfl
@[simp] theorem setW_c (h : Nat) : (setW F g l).c h = F.c h := rfl
@[simp] theorem setW_l (h : Nat) : (setW F g l).l h = F.l h := rfl
theorem setW_w_ne {x : Nat} (h : x ≠ g) : (setW F g l).w x = F.w x := by
  simp only [Fair.w, setW, List.getD_eq_getElem?_getD]; rw [List.getElem?_set_ne (fun e => h e.symm)]
theorem setW_w (hg : g < F.W.length) : (setW F g l).w g = l := by
  simp [Fair.w, setW, hg]
theorem setW_ch_ne {x : Nat} (h : x ≠ g) : (setW F g l).ch x = F.ch x := by simp only [Fair.ch, setW_w_ne h]; rfl
theorem setW_ch (hg : g < F.W.length) : (setW F g l).ch g = l.filter fun h => decide (g ∈ F.l h) := by simp only [Fair.ch, setW_w hg]; rfl
theorem setW_rank_ne {x : Nat} (h : x ≠ g) (o : Option Nat) : (setW F g l).rank x o = F.rank x o := by cases o <;> simp only [Fair.rank, setW_ch_ne h]
theorem setW_ok (ok : F.Ok) (hg : g < F.W.length) (nd : l.Nodup) (lt : ∀ h ∈ l, h < F.R.length) : (setW F g l).Ok := by
  refine ⟨by simpa using ok.w1, by simpa using ok.w5, ok.r1, ok.r5, fun x hx => ?_, fun p hp => by simpa using ok.r p hp⟩
  rcases List.mem_or_eq_of_mem_set hx with h | h
  · exact ok.w x h
  · subst h; exact ⟨nd, lt⟩
theorem setW_cnt (M : As) (h : Nat) : cnt (setW F g l) M h = cnt F M h := by simp only [cnt, setW_G]
theorem setW_pr (h x : Nat) : pr (setW F g l) h x = pr F h x := rfl
end
theorem no_lie {F : Fair} (ok : F.Ok) {g : Nat} (hg : g < F.W.length) {l : List Nat} (nd : l.Nodup) (lt : ∀ h ∈ l, h < F.R.length) {L L' : As} (hL : Stb F L) (opt : ∀ M, Stb F M → ∀ x, F.rank x (L x) ≤ F.rank x (M x)) (hL' : Stb (setW F g l) L') :
    F.rank g (L g) ≤ F.rank g (L' g) := by
  apply Classical.byContradiction
  intro hn
  have hlt : F.rank g (L' g) < F.rank g (L g) := by omega
  have hle := rank_le (F := F) g (L g)
  obtain ⟨h, eh⟩ : ∃ h, L' g = some h := by
    cases e : L' g with
    | none => rw [e] at hlt; omega
    | some h => exact ⟨h, rfl⟩
  rw [eh] at hlt
  have hc : h ∈ F.ch g := rank_some_lt.mp (by omega)
  have hlg : g ∈ F.l h := (ch_facts ok hc).2.2
  have hh := (ch_facts ok hc).2.1
  have hw : h ∈ F.w g := (ch_sub F g).subset hc
  -- the lie of h alone
  have ok1 := setW_ok ok hg (l := [h]) (by simp) (by simpa using hh)
  have c1 : (setW F g [h]).ch g = [h] := by rw [setW_ch hg]; simp [hlg]
  have s1 : Stb (setW F g [h]) L' := by
    refine { fit := fun x k e => ?_, cap := fun k => by rw [setW_cnt]; have := hL'.cap k; rw [setW_cnt] at this; exact this, no := fun x k b => ?_ }
    · by_cases ex : x = g
      · subst ex; rw [eh] at e; cases e; rw [c1]; simp
      · rw [setW_ch_ne ex]; have := hL'.fit x k e; rwa [setW_ch_ne ex] at this
    · by_cases ex : x = g
      · subst ex
        have b1 := b.1; rw [c1] at b1; simp at b1; subst b1
        have := b.2.1; rw [eh] at this; omega
      · refine hL'.no x k ⟨?_, ?_, ?_⟩
        · rw [setW_ch_ne ex]; have := b.1; rwa [setW_ch_ne ex] at this
        · rw [setW_rank_ne ex, setW_rank_ne ex]; have := b.2.1; rwa [setW_rank_ne ex, setW_rank_ne ex] at this
        · have := b.2.2; rw [setW_cnt] at this ⊢; exact this
  -- the true wish down to h
  let l2 := (F.w g).filter fun k => decide (F.rank g (some k) ≤ F.rank g (some h))
  have ok2 : (setW F g l2).Ok := setW_ok ok hg ((ok.w' g).1.sublist List.filter_sublist) fun x hx => (ok.w' g).2 x (List.mem_filter.mp hx).1
  have c2 : (setW F g l2).ch g = (F.ch g).filter fun k => decide (F.rank g (some k) ≤ F.rank g (some h)) := by
    rw [setW_ch hg]; simp only [l2, Fair.ch, List.filter_filter]; congr 1; funext k; exact Bool.and_comm _ _
  have m2 : ∀ k, k ∈ (setW F g l2).ch g ↔ k ∈ F.ch g ∧ F.rank g (some k) ≤ F.rank g (some h) := fun k => by rw [c2]; simp
  have r2 : ∀ a b, a ∈ (setW F g l2).ch g → b ∈ (setW F g l2).ch g → ((setW F g l2).rank g (some a) < (setW F g l2).rank g (some b) ↔ F.rank g (some a) < F.rank g (some b)) := fun a b ha hb => by
    simp only [Fair.rank]; rw [c2] at ha hb ⊢; exact idx_filter ha hb
  obtain ⟨M, sM, _, _⟩ := best_eq ok2
  have none2 : M g = none := by
    apply Classical.byContradiction
    intro hne
    obtain ⟨k, ek⟩ := Option.ne_none_iff_exists'.mp hne
    have kc := sM.fit g k ek
    have ⟨k1, k2⟩ := (m2 k).mp kc
    have sF : Stb F M := by
      refine { fit := fun x y e => ?_, cap := fun y => by have := sM.cap y; rw [setW_cnt] at this; exact this, no := fun x y b => ?_ }
      · by_cases ex : x = g
        · subst ex; exact ((m2 y).mp (sM.fit x y e)).1
        · have := sM.fit x y e; rwa [setW_ch_ne ex] at this
      · by_cases ex : x = g
        · subst ex
          have b2 := b.2.1; rw [ek] at b2
          have yc : y ∈ (setW F x l2).ch x := (m2 y).mpr ⟨b.1, by omega⟩
          refine sM.no x y ⟨yc, ?_, ?_⟩
          · rw [ek]; exact (r2 y k yc kc).mpr b2
          · have := b.2.2; rw [setW_cnt]; exact this
        · refine sM.no x y ⟨?_, ?_, ?_⟩
          · rw [setW_ch_ne ex]; exact b.1
          · rw [setW_rank_ne ex, setW_rank_ne ex]; exact b.2.1
          · have := b.2.2; rw [setW_cnt]; exact this
    have := opt M sF g
    rw [ek] at this; omega
  have s1M : Stb (setW F g [h]) M := by
    refine { fit := fun x k e => ?_, cap := fun k => by have := sM.cap k; rw [setW_cnt] at this ⊢; exact this, no := fun x k b => ?_ }
    · by_cases ex : x = g
      · subst ex; rw [none2] at e; simp at e
      · have := sM.fit x k e; rw [setW_ch_ne ex] at this ⊢; exact this
    · by_cases ex : x = g
      · subst ex
        have b1 := b.1; rw [c1] at b1; simp at b1; subst b1
        have hm : k ∈ (setW F x l2).ch x := (m2 k).mpr ⟨hc, Nat.le_refl _⟩
        refine sM.no x k ⟨hm, ?_, ?_⟩
        · rw [none2]; exact rank_some_lt.mpr hm
        · have := b.2.2; rw [setW_cnt] at this ⊢; exact this
      · refine sM.no x k ⟨?_, ?_, ?_⟩
        · have := b.1; rw [setW_ch_ne ex] at this ⊢; exact this
        · have := b.2.1; rw [setW_rank_ne ex, setW_rank_ne ex] at this ⊢; exact this
        · have := b.2.2; rw [setW_cnt] at this ⊢; exact this
  have := rural1 ok1 s1 s1M g
  rw [eh, none2] at this; simp at this
end MT

set_option Elab.async false
set_option linter.all false
set_option maxRecDepth 100000
namespace MT
open PySem PySem.Spec L2 PV GS MA
open PyProof.Rows hiding St
/-! ### try, and the like -/
theorem try_ok {i : Nat} {cs : List Nat} {t : Nat} {gb : Lo → Out} {gs : Addr → Addr → Nat → PyData → Lo → Out} {env : Lo} {o : Out} (h : gb env = o) (ho : ∀ e c x, o ≠ .ex e c x) : sTryAs i cs t gb gs env = o := by
  unfold sTryAs
  rw [h]
  cases o with
  | ex e c x => exact absurd rfl (ho e c x)
  | _ => rfl
theorem try_ex {i : Nat} {cs : List Nat} {t : Nat} {gb : Lo → Out} {gs : Addr → Addr → Nat → PyData → Lo → Out} {env env' : Lo} {c : Nat} {x : PyData} {o : Out} (h : gb env = .ex env' c x) (hc : (decide (c ∈ cs) && (decide (c ≠ 0) || atOk x) && decide (i < env'.length)) = true) (hu : under c t = true)
    (hs : ∀ a d, fin i (gs a d c x (env'.set i (some (.dict (hdl c a d x))))) = o) : sTryAs i cs t gb gs env = o := by
  unfold sTryAs
  rw [h]
  simp only [hc, hu, if_true]
  exact allA_of hs
@[simp] theorem eIsE_d (c a d b f env) : eIsE c a d b f env = (f env).bind fun v => if isHd c a d v then .ok (.bool b) else .bad := nr rfl
theorem fn_exP {n m : Nat} {g : Lo → Out} {ds : List PyData} {c : Nat} {x : PyData} (hl : ds.length = n) (h : ∃ e, g (ds.map some ++ List.replicate (m - n) none) = .ex e c x) : mkFn n m g ds = .exc c x := by
  obtain ⟨e, h⟩ := h
  simp only [mkFn, hl, if_true, h]
/-- a loop that may stop within -/
def isStop : Out → Bool
  | .rt _ => true
  | .ex _ _ _ => true
  | _ => false
theorem loopF_stop {α : Type} {tgt : PyData → Lo → Option Lo} {body : Lo → Out} (P : Out → Prop) (enc : α → PyData) (R : List α → Lo → Prop) : ∀ (zs ys : List α) (env : Lo), R ys env →
    (∀ ys1 x zs1 env, ys ++ zs = ys1 ++ x :: zs1 → R ys1 env → ∃ env1, tgt (enc x) env = some env1 ∧ ((∃ env2, body env1 = .nx env2 ∧ R (ys1 ++ [x]) env2) ∨ (isStop (body env1) = true ∧ P (body env1)))) →
    (∃ env', loopF tgt body (zs.map enc) env = .nx env' ∧ R (ys ++ zs) env') ∨ (isStop (loopF tgt body (zs.map enc) env) = true ∧ P (loopF tgt body (zs.map enc) env))
  | [], ys, env, h, _ => .inl ⟨env, rfl, by simpa using h⟩
  | x :: zs, ys, env, h, hs => by
    obtain ⟨env1, h1, h2⟩ := hs ys x zs env rfl h
    rcases h2 with ⟨env2, h3, h4⟩ | ⟨h3, h4⟩
    · have ih := loopF_stop P enc R zs (ys ++ [x]) env2 h4 fun ys1 y zs1 e he => hs ys1 y zs1 e (by simpa using he)
      simp only [List.map_cons, loopF, h1, h3]
      simpa using ih
    · right
      simp only [List.map_cons, loopF, h1]
      cases e : body env1 with
      | nx e2 => rw [e] at h3; cases h3
      | ct e2 => rw [e] at h3; cases h3
      | bad => rw [e] at h3; cases h3
      | rt d => rw [e] at h3 h4; exact ⟨h3, h4⟩
      | ex e2 c x => rw [e] at h3 h4; exact ⟨h3, h4⟩
theorem for_stopP {α : Type} {src : Lo → Res (List PyData)} {tgt : PyData → Lo → Option Lo} {body rest : Lo → Out} {env : Lo} (P : Out → Prop) (enc : α → PyData) (xs : List α) (R : List α → Lo → Prop) (hsrc : src env = .ok (xs.map enc)) (h0 : R [] env)
    (hs : ∀ ys x zs env, xs = ys ++ x :: zs → R ys env → ∃ env1, tgt (enc x) env = some env1 ∧ ((∃ env2, body env1 = .nx env2 ∧ R (ys ++ [x]) env2) ∨ (isStop (body env1) = true ∧ P (body env1))))
    (hk : ∀ env', R xs env' → P (rest env')) : P ((sFor src tgt body env).seq rest) := by
  rw [sFor_d, hsrc, out_ok]
  rcases loopF_stop (tgt := tgt) (body := body) P enc R xs [] env h0 fun ys1 x zs1 e he => hs ys1 x zs1 e (by simpa using he) with ⟨env', h1, h2⟩ | ⟨h1, h2⟩
  · rw [h1, seq_nx]; exact hk env' (by simpa using h2)
  · cases e : loopF tgt body (xs.map enc) env with
    | nx e2 => rw [e] at h1; cases h1
    | ct e2 => rw [e] at h1; cases h1
    | bad => rw [e] at h1; cases h1
    | rt d => rw [e] at h2; exact h2
    | ex e2 c x => rw [e] at h2; exact h2
/-! ### slices, sums -/
theorem dSlT_to {α : Type} (f : α → PyData) (l : List α) (n : Nat) : dSl (encT f l) none (some (n : Int)) = some (encT f (l.take n)) := by
  simp only [dSl, encT, cutD_take_map]
theorem dSlL_to {α : Type} (f : α → PyData) (l : List α) (n : Nat) : dSl (encL f l) none (some (n : Int)) = some (encL f (l.take n)) := by
  simp only [dSl, encL, cutD_take_map]
theorem cutD_from {α : Type} (f : α → PyData) (l : List α) (n : Nat) : PV.cutD (l.map f) (some (n : Int)) none = (l.drop n).map f := by
  simp only [PV.cutD, HT.sIx_none, HT.sIx_nat, List.length_map]
  rw [List.take_of_length_le (by simp), List.map_drop]
  by_cases h : n ≤ l.length
  · rw [Nat.min_eq_left h]
  · rw [Nat.min_eq_right (by omega), List.drop_of_length_le (by simp), List.drop_of_length_le (by simp; omega)]
theorem dSlT_from {α : Type} (f : α → PyData) (l : List α) (n : Nat) : dSl (encT f l) (some (n : Int)) none = some (encT f (l.drop n)) := by
  simp only [dSl, encT, cutD_from]
theorem dSlL_from {α : Type} (f : α → PyData) (l : List α) (n : Nat) : dSl (encL f l) (some (n : Int)) none = some (encL f (l.drop n)) := by
  simp only [dSl, encL, cutD_from]
theorem dAddT {α : Type} (f : α → PyData) (a b : List α) (h : a.length + b.length ≤ 1000) : dAdd (encT f a) (encT f b) = some (encT f (a ++ b)) := by
  simp only [encT, dAdd_t, List.length_map, List.map_append]; rw [if_pos h]
theorem dAddL {α : Type} (f : α → PyData) (a b : List α) (h : a.length + b.length ≤ 1000) : dAdd (encL f a) (encL f b) = some (encL f (a ++ b)) := by
  simp only [encL, dAdd_l, List.length_map, List.map_append]; rw [if_pos h]
/-! ### sorting, once more -/
theorem insN_sorted {a : Nat} : ∀ {bs : List Nat}, bs.Pairwise (· ≤ ·) → (insB ltN a bs).Pairwise (· ≤ ·)
  | [], _ => by simp [insB]
  | b :: bs, h => by
    have h1 := List.pairwise_cons.mp h
    by_cases lt : b < a
    · simp only [insB, ltN, decide_eq_true_eq, if_pos lt]
      refine List.pairwise_cons.mpr ⟨fun x hx => ?_, insN_sorted h1.2⟩
      rcases List.mem_cons.mp ((insB_perm ltN a bs).mem_iff.mp hx) with e | e
      · omega
      · exact h1.1 x e
    · simp only [insB, ltN, decide_eq_true_eq, if_neg lt]
      refine List.pairwise_cons.mpr ⟨fun x hx => ?_, h⟩
      rcases List.mem_cons.mp hx with e | e
      · omega
      · have := h1.1 x e; omega
theorem sortN_sorted : ∀ l : List Nat, (sortB ltN l).Pairwise (· ≤ ·)
  | [] => by simp [sortB]
  | a :: l => insN_sorted (sortN_sorted l)
theorem sortN_range {l : List Nat} {n : Nat} (h : l.Perm (List.range n)) : sortB ltN l = List.range n := by
  refine ((sortB_perm ltN l).trans h).eq_of_pairwise (le := (· ≤ ·)) (fun a b _ _ h1 h2 => Nat.le_antisymm h1 h2) (sortN_sorted l) ?_
  exact List.pairwise_lt_range.imp (fun h => Nat.le_of_lt h)
/-! ### orders -/
/-- a whole number from lo to hi -/
def wn (lo hi : Int) : PyData → Bool
  | .int a => decide (lo ≤ a) && decide (a ≤ hi)
  | _ => false
theorem within_gen (d : PyData) (lo hi : Int) (h : nxc d = true) : m_is_within [d, .int lo, .int hi] = .ok (.bool (wn lo hi d)) := by
  refine fn_rt rfl ?_
  cases d with
  | int a =>
    simp [g_is_within, wn]
    by_cases h1 : lo ≤ a <;> simp [h1]
  | none => simp [g_is_within, wn]
  | bool b => simp [g_is_within, wn]
  | str b => simp [g_is_within, wn, PV.isInt]
  | list b => simp [g_is_within, wn, PV.isInt]
  | tuple b => simp [g_is_within, wn]
  | dict b => simp [g_is_within, wn, PV.isInt, h]
theorem wn_nat {n : Nat} {d : PyData} (h : wn 0 ((n : Int) - 1) d = true) : ∃ x : Nat, d = encN x ∧ x < n := by
  unfold wn at h
  split at h
  · rename_i a
    simp at h
    exact ⟨a.toNat, by simp only [encN]; congr 1; omega, by omega⟩
  · cases h
theorem wn_all {n : Nat} : ∀ {ds : List PyData}, (∀ d ∈ ds, wn 0 ((n : Int) - 1) d = true) → ∃ ns : List Nat, ds = ns.map encN ∧ ∀ x ∈ ns, x < n
  | [], _ => ⟨[], rfl, fun _ z => nomatch z⟩
  | d :: ds, h => by
    obtain ⟨x, rfl, hx⟩ := wn_nat (h d List.mem_cons_self)
    obtain ⟨ns, rfl, hn⟩ := wn_all fun e he => h e (List.mem_cons_of_mem _ he)
    exact ⟨x :: ns, rfl, fun y hy => (List.mem_cons.mp hy).elim (fun e => e ▸ hx) (hn y)⟩
def ExP (c : Nat) (o : Out) : Prop := ∃ e, o = .ex e c .none
section
variable {F : Fair} (ok : F.Ok)
include ok
theorem look_nolist (d : PyData) (h : nxc d = true) (hl : isList d = false) : m_look_order [encF F, d] = .exc 2 .none := by
  refine fn_exP rfl ?_
  simp [g_look_order, h, hl]
theorem look_bad (ds : List PyData) (hn : ∀ d ∈ ds, nxc d = true) (hlen : ds.length ≤ 1000) (h : (∃ d ∈ ds, wn 0 ((F.W.length : Int) - 1) d = false) ∨ ds.length ≠ F.W.length) : m_look_order [encF F, .list ds] = .exc 2 .none := by
  have w5 := ok.w5
  refine fn_exP rfl ?_
  show ExP 2 _
  simp [g_look_order]
  refine for_stopP (P := ExP 2) id ds (fun ys env => ∃ j, env = [some (encF F), some (.list ds), j] ∧ ∀ y ∈ ys, wn 0 ((F.W.length : Int) - 1) y = true) (by simp) ⟨_, rfl, fun _ z => nomatch z⟩ ?_ ?_
  · rintro ys x zs env e ⟨j, rfl, hy⟩
    have hx : nxc x = true := hn x (e ▸ by simp)
    refine ⟨_, rfl, ?_⟩
    cases hw : wn 0 ((F.W.length : Int) - 1) x with
    | true =>
      left
      simp [within_gen x _ _ hx, hw]
      exact fun y hm => hm.elim (hy y) fun e => e ▸ hw
    | false =>
      right
      simp [within_gen x _ _ hx, hw, isStop, ExP]
  · rintro env ⟨j, rfl, hy⟩
    obtain ⟨ns, rfl, hlt⟩ := wn_all hy
    have hne : ns.length ≠ F.W.length := by
      rcases h with ⟨d, hd, hw⟩ | h
      · rw [hy d hd] at hw; cases hw
      · simpa using h
    have hs : sortB ltN ns ≠ List.range F.W.length := fun e => hne (by rw [← (sortB_perm ltN ns).length_eq, e, List.length_range])
    have e1 : dNe (.list ((sortB ltN ns).map encN)) (.list ((List.range F.W.length).map encN)) = some (.bool (!decide (sortB ltN ns = List.range F.W.length))) := dNe_of (good_L good_N) (by decide) _ _
    simp [gSorted_N, show F.W.length ≤ 100000 by omega, e1, hs, ExP]
theorem look_ok (ord : List Nat) (h : ord.Perm (List.range F.W.length)) : m_look_order [encF F, encL encN ord] = .ok .none := by
  have w5 := ok.w5
  have hlt : ∀ x ∈ ord, x < F.W.length := fun x hx => List.mem_range.mp (h.mem_iff.mp hx)
  have key : ∃ e, g_look_order ([encF F, encL encN ord].map some ++ List.replicate 1 none) = .nx e := by
    simp [g_look_order]
    refine for_preP (P := fun o => ∃ e, o = .nx e) encN ord (fun ys env => ∃ j, env = [some (encF F), some (encL encN ord), j]) (by simp) ⟨_, rfl⟩ ?_ ?_
    · rintro ys x zs env e ⟨j, rfl⟩
      have hx := hlt x (e ▸ by simp)
      have hw : wn 0 ((F.W.length : Int) - 1) (encN x) = true := by simp [wn, encN]; omega
      have ww := within_gen (encN x) 0 ((F.W.length : Int) - 1) (by simp)
      simp [ww, hw]
    · rintro env ⟨j, rfl⟩
      have e1 : dNe (.list ((List.range F.W.length).map encN)) (.list ((List.range F.W.length).map encN)) = some (.bool (!decide (List.range F.W.length = List.range F.W.length))) := dNe_of (good_L good_N) (by decide) _ _
      simp [encL, gSorted_N, show F.W.length ≤ 100000 by omega, e1, sortN_range h]
  obtain ⟨e, he⟩ := key
  exact fn_nx rfl he
theorem asked_eq (ord : List Nat) (h : ord.Perm (List.range F.W.length)) : ∃ t L k, Steps F ord (fun _ => none) (fun _ => 0) t L k ∧ t.length ≤ 25 ∧ m_asked [encF F, encL encN ord] = .ok (.list (t.map encNN)) := by
  obtain ⟨t, L, k, h1, h2, h3⟩ := run_eq ok ord fun x hx => List.mem_range.mp (h.mem_iff.mp hx)
  refine ⟨t, L, k, h1, h2, fn_rt rfl ?_⟩
  simp [g_asked, look_ok ok ord h, h3]
theorem asked_exc (d : PyData) (h : m_look_order [encF F, d] = .exc 2 .none) : m_asked [encF F, d] = .exc 2 .none := by
  refine fn_exP rfl ?_
  simp [g_asked, h]
theorem picked_exc (d : PyData) (h : m_look_order [encF F, d] = .exc 2 .none) : m_picked [encF F, d] = .exc 2 .none := by
  refine fn_exP rfl ?_
  simp [g_picked, h]
theorem told_k06 (d : PyData) (way : Int) (h : m_look_order [encF F, d] = .exc 2 .none) : m_law_told_k06 [encF F, d, .int way] = .ok (.list [.bool true, .bool true]) := by
  refine fn_rt rfl ?_
  rw [g_law_told_k06, sSeq_d]
  rw [try_ex (env' := [some (encF F), some d, some (.int way), none]) (c := 2) (x := .none) (o := .rt (.list [.bool true, .bool true]))]
  · rfl
  · by_cases hw : way = 0
    · simp [hw, asked_exc ok d h]
    · simp [hw, picked_exc ok d h]
  · rfl
  · rfl
  · intro a e
    simp [isHd_hdl, PV.under, fin]
end
end MT

set_option Elab.async false
set_option linter.all false
set_option maxRecDepth 100000
namespace MT
open PySem PySem.Spec L2 PV GS MA
open PyProof.Rows hiding St
/-! ### loops that may end within -/
def StepOr (R : Lo → Prop) (P : Out → Prop) (o : Out) : Prop := (∃ env2, o = .nx env2 ∧ R env2) ∨ (isStop o = true ∧ P o)
theorem for_or {α : Type} {src : Lo → Res (List PyData)} {tgt : PyData → Lo → Option Lo} {body rest : Lo → Out} {env : Lo} (P : Out → Prop) (enc : α → PyData) (xs : List α) (R : List α → Lo → Prop) (hsrc : src env = .ok (xs.map enc)) (h0 : R [] env)
    (hs : ∀ ys x zs env, xs = ys ++ x :: zs → R ys env → ∃ env1, tgt (enc x) env = some env1 ∧ StepOr (R (ys ++ [x])) P (body env1))
    (hk : ∀ env', R xs env' → P (rest env')) : P ((sFor src tgt body env).seq rest) := for_stopP P enc xs R hsrc h0 hs hk
theorem loopW_or {t : Lo → Res Bool} {body rest : Lo → Out} (P : Out → Prop) (R : Nat → Lo → Prop) (hs : ∀ n env, R n env → ∃ b, t env = .ok b ∧ (b = true → StepOr (fun env2 => ∃ n', n' < n ∧ R n' env2) P (body env)) ∧ (b = false → P (rest env))) :
    ∀ (k n : Nat) (env : Lo), R n env → n < k → P ((loopW t body k env).seq rest)
  | 0, n, env, _, h => by omega
  | k + 1, n, env, h, hn => by
    obtain ⟨b, h1, h2, h3⟩ := hs n env h
    cases b with
    | false => simp only [loopW, h1, out_ok, Bool.false_eq_true, if_false, seq_nx]; exact h3 rfl
    | true =>
      rcases h2 rfl with ⟨env2, h4, n', h5, h6⟩ | ⟨h4, h5⟩
      · simp only [loopW, h1, out_ok, if_true, h4]
        exact loopW_or P R hs k n' env2 h6 (by omega)
      · simp only [loopW, h1, out_ok, if_true]
        cases e : body env with
        | nx e2 => rw [e] at h4; cases h4
        | ct e2 => rw [e] at h4; cases h4
        | bad => rw [e] at h4; cases h4
        | rt d => rw [e] at h5; exact h5
        | ex e2 c x => rw [e] at h5; exact h5
theorem while_or {t : Lo → Res Bool} {body rest : Lo → Out} {env : Lo} (P : Out → Prop) (R : Nat → Lo → Prop) {k : Nat} (n : Nat) (h0 : R n env) (hn : n < k)
    (hs : ∀ n env, R n env → ∃ b, t env = .ok b ∧ (b = true → StepOr (fun env2 => ∃ n', n' < n ∧ R n' env2) P (body env)) ∧ (b = false → P (rest env))) : P ((sWhile k t body env).seq rest) := loopW_or P R hs k n env h0 hn
theorem seq_nx_id {o : Out} : o.seq .nx = o := by cases o <;> rfl
/-! ### dicts of guests -/
def encKV (p : Nat × Option Nat) : PyData × PyData := (encN p.1, encO p.2)
abbrev encD (ah : List (Nat × Option Nat)) : PyData := .dict (ah.map encKV)
theorem look_enc (g : Nat) : ∀ ah : List (Nat × Option Nat), lookD (ah.map encKV) (g : Int) = (ah.lookup g).map encO
  | [] => rfl
  | (k, d) :: r => by
    simp only [List.map_cons, encKV, encN, lookD, List.lookup_cons]
    by_cases e : k = g
    · subst e; simp
    · have e1 : ¬ ((k : Int) = (g : Int)) := by omega
      have e2 : (g == k) = false := by simp; omega
      rw [if_neg e1, e2, look_enc g r]
theorem scr_enc (ah : List (Nat × Option Nat)) : scrL (ah.map encKV) = none := by
  cases ah with
  | nil => rfl
  | cons p r => cases r <;> rfl
theorem atomV_O (o : Option Nat) : (atomV (encO o)).isSome = true := by cases o <;> rfl
theorem dictK_enc : ∀ ah : List (Nat × Option Nat), (dictK (ah.map encKV)).isSome = true
  | [] => rfl
  | (k, d) :: r => by
    obtain ⟨v, hv⟩ := Option.isSome_iff_exists.mp (atomV_O d)
    obtain ⟨ks, hk⟩ := Option.isSome_iff_exists.mp (dictK_enc r)
    have := dictK_mk (j := (k : Int)) hv hk
    show (dictK ((.int (k : Nat), encO d) :: r.map encKV)).isSome = true
    rw [this]; rfl
@[simp] theorem dIx_enc (ah : List (Nat × Option Nat)) (g : Nat) : dIx (encD ah) (.int (g : Nat)) = (ah.lookup g).map encO := by
  simp only [dIx, scr_enc, look_enc]
@[simp] theorem dNotInK_enc (ah : List (Nat × Option Nat)) (g : Nat) : dNotInK (.int (g : Nat)) (encD ah) = some (.bool (!(ah.lookup g).isSome)) := by
  simp [dNotInK, dictK_enc, look_enc]
@[simp] theorem slotD_d (k env) : slotD k env = match env[k]? with | some (some (.dict kvs)) => if (dictK kvs).isSome then some kvs else none | _ => none := nr rfl
@[simp] theorem sDPutD_d (k f fi env) : sDPutD k f fi env = ((f env).out env fun d => match slotD k env with
  | some kvs => (fi env).out env fun i => match i with
    | .int n => if atom d && decide (kvs.length < 100000) then .nx (env.set k (some (.dict (putE kvs n d)))) else .bad
    | _ => .bad
  | none => .bad) := nr rfl
theorem putE_new (ah : List (Nat × Option Nat)) (g : Nat) (o : Option Nat) (h : (ah.lookup g).isSome = false) : putE (ah.map encKV) (g : Int) (encO o) = (ah ++ [(g, o)]).map encKV := by
  have : (ah.map encKV).any (PV.keyIs (g : Int)) = false := by
    rw [List.any_eq_false]
    intro p hp
    obtain ⟨q, hq, rfl⟩ := List.mem_map.mp hp
    simp only [encKV, encN, PV.keyIs, decide_eq_true_eq]
    intro e
    have e : q.1 = g := by omega
    subst e
    have : (ah.lookup q.1).isSome = true := by
      rw [List.lookup_isSome_iff]
      exact ⟨q, hq, by simp⟩
    rw [this] at h; cases h
  simp [putE, this, encKV, encN]
@[simp] theorem eDict1_d (fk fv env) : eDict1 fk fv env = (fk env).bind fun x => (fv env).bind fun y => Res.of (dDisp x y) := nr rfl
@[simp] theorem dDisp_n (g : Nat) (o : Option Nat) : dDisp (.int (g : Nat)) (encO o) = some (encD [(g, o)]) := by
  have h : atom (encO o) = true := atom_O o
  simp [dDisp, h, encKV, encN]
@[simp] theorem sRev_d (k env) : sRev k env = match slotL k env with
  | some ds => if flatL ds then .nx (env.set k (some (.list ds.reverse))) else .bad
  | none => .bad := nr rfl
@[simp] theorem sPop_d (i k env) : sPop i k env = match slotL k env with
  | some (d :: ds) => if flatL (d :: ds) && decide (i < env.length) && decide (i ≠ k) then .nx ((env.set k (some (.list ds))).set i (some d)) else .bad
  | _ => .bad := nr rfl
@[simp] theorem iZipD_d (f g env) : iZipD f g env = (f env).bind fun x => (g env).bind fun y => zipOf x y := nr rfl
@[simp] theorem zipOf_l (xs ys) : zipOf (.list xs) (.list ys) = .ok (zipL xs ys) := nr rfl
@[simp] theorem zipOf_t (xs ys) : zipOf (.tuple xs) (.tuple ys) = .ok (zipL xs ys) := nr rfl
theorem zipL_map {α β : Type} (f : α → PyData) (g : β → PyData) (xs : List α) (ys : List β) : zipL (xs.map f) (ys.map g) = (xs.zip ys).map (encP f g) := by
  simp [zipL, List.zip_map, Function.comp_def, encP, Prod.map]
/-! ### wanted, moved -/
def wantM (F : Fair) (M : As) (g : Nat) : List Nat := (F.ch g).filter fun h => decide (F.rank g (some h) < F.rank g (M g))
theorem wantM_mem {F : Fair} {M : As} {g h : Nat} : h ∈ wantM F M g ↔ h ∈ F.ch g ∧ F.rank g (some h) < F.rank g (M g) := by simp [wantM]
def movL (L : Lod) (ps : List (Nat × Option Nat)) : Lod := ps.foldl (fun L p => L.set p.1 p.2) L
theorem movL_len (ps : List (Nat × Option Nat)) : ∀ L : Lod, (movL L ps).length = L.length := by
  induction ps with
  | nil => intro L; rfl
  | cons p ps ih => intro L; show (movL (L.set p.1 p.2) ps).length = _; rw [ih]; simp
theorem at0_set (L : Lod) (g x : Nat) (o : Option Nat) (h : g < L.length) : at0 (L.set g o) x = if x = g then o else at0 L x := by
  simp only [at0, List.getD_eq_getElem?_getD]
  by_cases e : x = g
  · subst e; rw [List.getElem?_set_self h]; simp
  · rw [List.getElem?_set_ne (Ne.symm e), if_neg e]
theorem movL_out (ps : List (Nat × Option Nat)) : ∀ (L : Lod) (x : Nat), (∀ p ∈ ps, p.1 < L.length) → x ∉ ps.map (·.1) → at0 (movL L ps) x = at0 L x := by
  induction ps with
  | nil => intro L x _ _; rfl
  | cons p ps ih =>
    intro L x hl hx
    simp only [List.map_cons, List.mem_cons, not_or] at hx
    show at0 (movL (L.set p.1 p.2) ps) x = _
    rw [ih _ _ (fun q hq => by rw [List.length_set]; exact hl q (List.mem_cons_of_mem _ hq)) hx.2, at0_set _ _ _ _ (hl p List.mem_cons_self), if_neg hx.1]
theorem movL_in (ps : List (Nat × Option Nat)) : ∀ (L : Lod), (∀ p ∈ ps, p.1 < L.length) → (ps.map (·.1)).Nodup → ∀ p ∈ ps, at0 (movL L ps) p.1 = p.2 := by
  induction ps with
  | nil => intro L _ _ p hp; exact nomatch hp
  | cons q ps ih =>
    intro L hl nd p hp
    obtain ⟨n1, n2⟩ := List.nodup_cons.mp (show (q.1 :: ps.map (·.1)).Nodup from nd)
    have hl' : ∀ p ∈ ps, p.1 < (L.set q.1 q.2).length := fun r hr => by rw [List.length_set]; exact hl r (List.mem_cons_of_mem _ hr)
    show at0 (movL (L.set q.1 q.2) ps) p.1 = _
    rcases List.mem_cons.mp hp with rfl | hp
    · rw [movL_out ps _ _ hl' n1, at0_set _ _ _ _ (hl p List.mem_cons_self), if_pos rfl]
    · exact ih _ hl' n2 p hp
theorem moved_eq (L : Lod) (gs : List Nat) (os : List (Option Nat)) (hg : ∀ g ∈ gs, g < L.length) (hl : L.length ≤ 1000) : m_moved [encLd L, .list (gs.map encN), .list (os.map encO)] = .ok (encLd (movL L (gs.zip os))) := by
  refine fn_rt rfl ?_
  have gf : gListF [encLd L] = some (.list (L.map encO)) := by simp [gListF, flatL_map flat_O, encL]
  simp [g_moved, gf]
  refine for_pre (encP encN encO) (gs.zip os) (fun ys env => ∃ j4 j5, env = [some (encLd L), some (.list (gs.map encN)), some (.list (os.map encO)), some (.list ((movL L ys).map encO)), j4, j5]) (by simp [zipL_map]) ⟨none, none, by simp [movL]⟩ ?_ ?_
  · rintro ys p zs env e ⟨j4, j5, rfl⟩
    have hp : p ∈ gs.zip os := e ▸ by simp
    have hg' : p.1 < L.length := hg _ (List.of_mem_zip (a := p.1) (b := p.2) hp).1
    have e1 : movL L (ys ++ [p]) = (movL L ys).set p.1 p.2 := by simp [movL, List.foldl_append]
    have pl : PV.putAt ((movL L ys).map encO) (.int (p.1 : Nat)) (encO p.2) = some ((movL L (ys ++ [p])).map encO) := by
      rw [putAt_nat _ _ _ (by simp [movL_len, hg']), e1, List.map_set]
    simp [encP, encN, pl, flatL_map flat_O]
  · rintro env ⟨j4, j5, rfl⟩
    simp [encT]
section
variable {F : Fair} (ok : F.Ok)
include ok
theorem wanted_eq (L : Lod) (hL : Lodg F L) (g : Nat) (hg : g < F.W.length) : m_wanted [encF F, encLd L, .int (g : Nat)] = .ok (encL encN (wantM F (at0 L) g)) := by
  refine fn_rt rfl ?_
  simp [g_wanted, choices_eq ok, hg]
  rw [compD_run encN (fun h => decide (F.rank g (some h) < F.rank g (at0 L g))) encN (F.ch g) (fun x hx => by
    have lk := likes_eq ok g (some x) (at0 L g) hg (fun h e => by cases e; exact hx) (hL.fit g)
    have lk' : m_likes [encF F, .int (g : Nat), .int (x : Nat), encO (at0 L g)] = .ok (.bool (decide (F.rank g (some x) < F.rank g (at0 L g)))) := lk
    simp [encN, hL.len, hg, lk'])]
  have h1 := ok.chlen g
  have h2 := List.length_filter_le (fun h => decide (F.rank g (some h) < F.rank g (at0 L g))) (F.ch g)
  simp [show ((F.ch g).filter fun h => decide (F.rank g (some h) < F.rank g (at0 L g))).length ≤ 100000 by omega, encL, wantM]
def IntoP (F : Fair) (L : Lod) (o : Out) : Prop := (∃ g h, g < F.W.length ∧ h ∈ wantM F (at0 L) g ∧ cnt F (at0 L) h < F.c h ∧ o = .rt (encLd (L.set g (some h)))) ∨ ((∀ g, g < F.W.length → ∀ h ∈ wantM F (at0 L) g, ¬ cnt F (at0 L) h < F.c h) ∧ o = .rt .none)
def IntoR (F : Fair) (L : Lod) (ys : List Nat) (env : Lo) : Prop := ∃ j2 j3, env = [some (encF F), some (encLd L), j2, j3] ∧ ∀ g ∈ ys, ∀ h ∈ wantM F (at0 L) g, ¬ cnt F (at0 L) h < F.c h
theorem freeLOc (L : Lod) (hL : Lodg F L) (h : Nat) (hh : h < F.R.length) : m_is_free [encF F, encLd L, .int (h : Nat)] = .ok (.bool (decide (cnt F (at0 L) h < F.c h))) := by
  have w5 := ok.w5
  have := freeLO ok L h hh (by rw [hL.len]; exact w5)
  rw [this, count_cn (some h) F.W.length L hL.len]; rfl
theorem into_free_run (L : Lod) (hL : Lodg F L) : IntoP F L (g_into_free ([encF F, encLd L].map some ++ List.replicate 2 none)) := by
  have w5 := ok.w5
  simp [g_into_free]
  refine for_or (P := IntoP F L) encN (List.range F.W.length) (IntoR F L) (by simp [hL.len, show F.W.length ≤ 100000 by omega]) ⟨_, _, rfl, fun _ z => nomatch z⟩ ?_ ?_
  · rintro ys g zs env e ⟨j2, j3, rfl, hy⟩
    obtain ⟨hgl, hg⟩ := range_split e
    refine ⟨_, by simp; rfl, ?_⟩
    simp
    have wq := wanted_eq ok L hL g hg
    refine for_or (P := StepOr (IntoR F L (ys ++ [g])) (IntoP F L)) encN (wantM F (at0 L) g) (fun hs env => ∃ j3, env = [some (encF F), some (encLd L), some (encN g), j3] ∧ ∀ h ∈ hs, ¬ cnt F (at0 L) h < F.c h) (by simp [encN, wq]) ⟨_, rfl, fun _ z => nomatch z⟩ ?_ ?_
    · rintro hs h zs' env e' ⟨j3, rfl, hy'⟩
      have hm : h ∈ wantM F (at0 L) g := e' ▸ by simp
      have hh := (ok.ch' g).2 h (wantM_mem.mp hm).1
      have fr := freeLOc ok L hL h hh
      have mv : m_moved [encLd L, .list [.int (g : Nat)], .list [.int (h : Nat)]] = .ok (encLd (L.set g (some h))) := moved_eq L [g] [some h] (by simp [hL.len, hg]) (by rw [hL.len]; omega)
      refine ⟨_, by simp; rfl, ?_⟩
      by_cases hf : cnt F (at0 L) h < F.c h
      · right
        simp [encN, fr, hf, mv, isStop]
        exact .inr ⟨rfl, .inl ⟨g, h, hg, hm, hf, rfl⟩⟩
      · left
        simp [encN, fr, hf]
        exact fun x hx => hx.elim (fun z => by have := hy' x z; omega) fun e => by subst e; omega
    · rintro env ⟨j3, rfl, hy'⟩
      exact .inl ⟨_, rfl, _, _, rfl, fun g' hg' => (List.mem_append.mp hg').elim (hy g') fun e => by rw [List.mem_singleton.mp e]; exact hy'⟩
  · rintro env ⟨j2, j3, rfl, hy⟩
    simp
    exact .inr ⟨fun g hg => hy g (List.mem_range.mpr hg), rfl⟩
theorem into_free_eq (L : Lod) (hL : Lodg F L) : (∃ g h, g < F.W.length ∧ h ∈ wantM F (at0 L) g ∧ cnt F (at0 L) h < F.c h ∧ m_into_free [encF F, encLd L] = .ok (encLd (L.set g (some h)))) ∨ ((∀ g, g < F.W.length → ∀ h ∈ wantM F (at0 L) g, ¬ cnt F (at0 L) h < F.c h) ∧ m_into_free [encF F, encLd L] = .ok .none) := by
  rcases into_free_run ok L hL with ⟨g, h, a, b, c, d⟩ | ⟨a, b⟩
  · exact .inl ⟨g, h, a, b, c, fn_rt rfl d⟩
  · exact .inr ⟨a, fn_rt rfl b⟩
end
end MT

set_option Elab.async false
set_option linter.all false
set_option maxRecDepth 100000
namespace MT
open PySem PySem.Spec L2 PV GS MA
open PyProof.Rows hiding St
/-! ### markets: top trading rings, in plain lists -/
def topW (W : List (List Nat)) (left : List Nat) (o : Nat) : Nat := ((W.getD o []).filter fun h => decide (h ∈ left)).headD 0
def rkW (W : List (List Nat)) (o h : Nat) : Nat := (W.getD o []).idxOf h
structure Mkt (W : List (List Nat)) : Prop where
  w1 : 1 ≤ W.length
  w5 : W.length ≤ 5
  pm : ∀ w ∈ W, w.Perm (List.range W.length)
theorem Mkt.get {W : List (List Nat)} (h : Mkt W) {o : Nat} (ho : o < W.length) : (W.getD o []).Perm (List.range W.length) := by
  have : W.getD o [] = W[o] := by simp [ho]
  rw [this]
  exact h.pm _ (List.getElem_mem ho)
theorem head_min (p : Nat → Bool) {a h : Nat} {t : List Nat} : ∀ {w : List Nat}, w.filter p = a :: t → p h = true → h ∈ w → w.idxOf a ≤ w.idxOf h
  | [], e, _, _ => by simp at e
  | x :: xs, e, ph, hm => by
    by_cases px : p x = true
    · rw [List.filter_cons_of_pos px] at e
      cases e
      simp
    · rw [List.filter_cons_of_neg px] at e
      have pa : p a = true := (List.mem_filter.mp (e ▸ List.mem_cons_self : a ∈ xs.filter p)).2
      have ha : (x == a) = false := by simp; rintro rfl; exact px pa
      have hh : (x == h) = false := by simp; rintro rfl; exact px ph
      have hm' : h ∈ xs := by
        rcases List.mem_cons.mp hm with rfl | z
        · exact absurd ph px
        · exact z
      rw [List.idxOf_cons, List.idxOf_cons, ha, hh]
      have := head_min p e ph hm'
      simpa using this
theorem rk_inj {w : List Nat} {a b : Nat} (ha : a ∈ w) (e : w.idxOf a = w.idxOf b) : a = b := by
  have l1 := List.idxOf_lt_length_iff.mpr ha
  have l2 : w.idxOf b < w.length := e ▸ l1
  have e1 : w[w.idxOf a] = a := List.getElem_idxOf l1
  have e2 : w[w.idxOf b] = b := List.getElem_idxOf l2
  rw [← e1, ← e2]
  simp only [e]
theorem top_spec {W : List (List Nat)} (M : Mkt W) {left : List Nat} (hl : ∀ x ∈ left, x < W.length) {o : Nat} (ho : o < W.length) {h : Nat} (hh : h ∈ left) : topW W left o ∈ left ∧ rkW W o (topW W left o) ≤ rkW W o h := by
  have pm := M.get ho
  have hw : h ∈ W.getD o [] := pm.mem_iff.mpr (List.mem_range.mpr (hl h hh))
  unfold topW rkW
  cases e : (W.getD o []).filter fun h => decide (h ∈ left) with
  | nil =>
    have := List.filter_eq_nil_iff.mp e h hw
    simp [hh] at this
  | cons a t =>
    have ha : a ∈ (W.getD o []).filter fun h => decide (h ∈ left) := e ▸ List.mem_cons_self
    refine ⟨by simpa using (List.mem_filter.mp ha).2, ?_⟩
    exact head_min _ e (by simpa using hh) hw
inductive TD (W : List (List Nat)) : List Nat → List (List (Nat × Nat)) → Prop
  | nil : TD W [] []
  | cons {left R rs} : R ≠ [] → (∀ p ∈ R, p.1 ∈ left ∧ p.2 = topW W left p.1) → (R.map (·.1)).Nodup → (R.map (·.2)).Perm (R.map (·.1)) → TD W (left.filter fun o => decide (o ∉ R.map (·.1))) rs → TD W left (R :: rs)
theorem split_perm (left K : List Nat) (nl : left.Nodup) (nk : K.Nodup) (hk : ∀ k ∈ K, k ∈ left) : left.Perm (K ++ left.filter fun o => decide (o ∉ K)) := by
  have h1 : (left.filter (fun o => decide (o ∈ K))).Perm K := by
    refine (List.perm_ext_iff_of_nodup (nl.sublist List.filter_sublist) nk).mpr fun o => ?_
    simp only [List.mem_filter, decide_eq_true_eq]
    exact ⟨fun z => z.2, fun z => ⟨hk o z, z⟩⟩
  have h2 := List.filter_append_perm (fun o => decide (o ∈ K)) left
  refine h2.symm.trans (.trans (h1.append_right _) (.of_eq ?_))
  congr 1
  refine List.filter_congr fun o _ => ?_
  simp
def Agr (D : Nat → Nat) (rs : List (List (Nat × Nat))) : Prop := ∀ R ∈ rs, ∀ p ∈ R, D p.1 = p.2
theorem ring_map {D : Nat → Nat} {R : List (Nat × Nat)} (h : ∀ p ∈ R, D p.1 = p.2) : (R.map (·.1)).map D = R.map (·.2) := by
  rw [List.map_map]
  exact List.map_congr_left fun p hp => h p hp
theorem td_perm {W : List (List Nat)} {left : List Nat} {rs : List (List (Nat × Nat))} (h : TD W left rs) (D : Nat → Nat) (nl : left.Nodup) (ag : Agr D rs) : (left.map D).Perm left := by
  induction h with
  | nil => exact .refl _
  | @cons left R rs h1 h2 h3 h4 h5 ih =>
    have sp := split_perm left (R.map (·.1)) nl h3 fun k hk => by
      obtain ⟨p, hp, rfl⟩ := List.mem_map.mp hk
      exact (h2 p hp).1
    have i := ih (nl.sublist List.filter_sublist) fun R' hR' => ag R' (List.mem_cons_of_mem _ hR')
    refine (sp.map D).trans ?_
    rw [List.map_append, ring_map (ag R List.mem_cons_self)]
    exact (h4.append i).trans sp.symm
theorem td_keys {W : List (List Nat)} {left : List Nat} {rs : List (List (Nat × Nat))} (h : TD W left rs) : ∀ o ∈ left, ∃ R ∈ rs, ∃ p ∈ R, p.1 = o := by
  induction h with
  | nil => exact fun _ z => nomatch z
  | @cons left R rs h1 h2 h3 h4 h5 ih =>
    intro o ho
    by_cases hk : o ∈ R.map (·.1)
    · obtain ⟨p, hp, e⟩ := List.mem_map.mp hk
      exact ⟨R, List.mem_cons_self, p, hp, e⟩
    · obtain ⟨R', hR', p, hp, e⟩ := ih o (List.mem_filter.mpr ⟨ho, by simpa using hk⟩)
      exact ⟨R', List.mem_cons_of_mem _ hR', p, hp, e⟩
theorem td_sub {W : List (List Nat)} {left : List Nat} {rs : List (List (Nat × Nat))} (h : TD W left rs) : ∀ R ∈ rs, ∀ p ∈ R, p.1 ∈ left := by
  induction h with
  | nil => exact fun _ z => nomatch z
  | @cons left R rs h1 h2 h3 h4 h5 ih =>
    intro R' hR' p hp
    rcases List.mem_cons.mp hR' with rfl | hR'
    · exact (h2 p hp).1
    · exact (List.mem_filter.mp (ih R' hR' p hp)).1
theorem td_ring {W : List (List Nat)} {left : List Nat} {rs : List (List (Nat × Nat))} (h : TD W left rs) : ∀ R ∈ rs, R ≠ [] ∧ (R.map (·.1)).Nodup ∧ (R.map (·.2)).Perm (R.map (·.1)) := by
  induction h with
  | nil => exact fun _ z => nomatch z
  | @cons left R rs h1 h2 h3 h4 h5 ih =>
    intro R' hR'
    rcases List.mem_cons.mp hR' with rfl | hR'
    · exact ⟨h1, h3, h4⟩
    · exact ih R' hR'
theorem nd_sub_perm : ∀ {l m : List Nat}, l.Nodup → (∀ x ∈ l, x ∈ m) → m.length ≤ l.length → l.Perm m
  | [], m, _, _, h => by
    have : m = [] := List.length_eq_zero_iff.mp (by simpa using h)
    rw [this]
  | a :: l, m, nd, hs, h => by
    have ha : a ∈ m := hs a List.mem_cons_self
    obtain ⟨n1, n2⟩ := List.nodup_cons.mp nd
    have pe := List.perm_cons_erase ha
    refine .trans (List.Perm.cons a (nd_sub_perm n2 (fun x hx => ?_) ?_)) pe.symm
    · rcases List.mem_cons.mp (pe.mem_iff.mp (hs x (List.mem_cons_of_mem _ hx))) with rfl | z
      · exact absurd hx n1
      · exact z
    · have := pe.length_eq
      simp at this h
      omega
/-- nobody breaks what comes -/
theorem td_core {W : List (List Nat)} (M : Mkt W) {left : List Nat} {rs : List (List (Nat × Nat))} (h : TD W left rs) (D E : Nat → Nat) (hl : ∀ x ∈ left, x < W.length) (ag : Agr D rs) :
    ∀ S : List Nat, S.Nodup → (∀ o ∈ S, o ∈ left) → (S.map E).Perm S → (∀ o ∈ S, rkW W o (E o) ≤ rkW W o (D o)) → ∀ o ∈ S, E o = D o := by
  induction h with
  | nil => exact fun S _ hs _ _ o ho => nomatch (hs o ho)
  | @cons left R rs h1 h2 h3 h4 h5 ih =>
    intro S nS hS pE hr
    have inS : ∀ o ∈ S, E o ∈ S := fun o ho => pE.mem_iff.mp (List.mem_map_of_mem ho)
    have key : ∀ o ∈ S, o ∈ R.map (·.1) → E o = D o ∧ D o ∈ R.map (·.1) := fun o ho hk => by
      obtain ⟨p, hp, rfl⟩ := List.mem_map.mp hk
      have eD := ag R List.mem_cons_self p hp
      have et := (h2 p hp).2
      have hE := hS _ (inS _ ho)
      have t := top_spec M hl (hl _ (hS _ ho)) hE
      have r := hr _ ho
      rw [eD, et] at r
      rw [eD, et]
      have e : rkW W p.1 (topW W left p.1) = rkW W p.1 (E p.1) := Nat.le_antisymm t.2 r
      refine ⟨(rk_inj ((M.get (hl _ (hS _ ho))).mem_iff.mpr (List.mem_range.mpr (hl _ t.1))) e).symm, ?_⟩
      rw [← et]
      exact h4.mem_iff.mp (List.mem_map_of_mem hp)
    let K := R.map (·.1)
    let S1 := S.filter fun o => decide (o ∈ K)
    let S2 := S.filter fun o => decide (o ∉ K)
    have sp : S.Perm (S1 ++ S2) := by
      have := List.filter_append_perm (fun o => decide (o ∈ K)) S
      refine this.symm.trans (.of_eq ?_)
      show _ ++ _ = S1 ++ S2
      congr 1
      refine List.filter_congr fun o _ => ?_
      simp
    have n1 : S1.Nodup := nS.sublist List.filter_sublist
    have nE : (S1.map E).Nodup := by
      have a : (S.map E).Nodup := pE.nodup_iff.mpr nS
      exact a.sublist (List.filter_sublist.map E)
    have p1 : (S1.map E).Perm S1 := by
      have sub : (S1.map E) ⊆ S1 := fun x hx => by
        obtain ⟨o, ho, rfl⟩ := List.mem_map.mp hx
        obtain ⟨a, b⟩ := List.mem_filter.mp ho
        have b : o ∈ K := by simpa using b
        obtain ⟨c, d⟩ := key o a b
        exact List.mem_filter.mpr ⟨inS o a, by rw [c]; exact decide_eq_true d⟩
      exact nd_sub_perm nE sub (by simp)
    have p2 : (S2.map E).Perm S2 := by
      have a : (S1.map E ++ S2.map E).Perm (S1 ++ S2) := by
        rw [← List.map_append]
        exact ((sp.map E).symm.trans pE).trans sp
      exact (List.perm_append_left_iff S1).mp ((p1.symm.append_right _).trans a)
    intro o ho
    by_cases hk : o ∈ K
    · exact (key o ho hk).1
    · refine ih (fun x hx => hl x (List.mem_filter.mp hx).1) (fun R' hR' => ag R' (List.mem_cons_of_mem _ hR')) S2 (nS.sublist List.filter_sublist) (fun x hx => ?_) p2 (fun x hx => hr x (List.mem_filter.mp hx).1) o (List.mem_filter.mpr ⟨ho, by simpa using hk⟩)
      obtain ⟨a, b⟩ := List.mem_filter.mp hx
      exact List.mem_filter.mpr ⟨hS x a, b⟩
/-- the first ring that another deal does not give breaks it -/
theorem td_breaks {W : List (List Nat)} (M : Mkt W) {left : List Nat} {rs : List (List (Nat × Nat))} (h : TD W left rs) (D' : Nat → Nat) (hl : ∀ x ∈ left, x < W.length) (nl : left.Nodup) (pD : (left.map D').Perm left) :
    ∀ pre R post, rs = pre ++ R :: post → Agr D' pre → ∀ p ∈ R, rkW W p.1 p.2 ≤ rkW W p.1 (D' p.1) := by
  induction h with
  | nil => intro pre R post e; simp at e
  | @cons left R0 rs h1 h2 h3 h4 h5 ih =>
    intro pre R post e ag p hp
    cases pre with
    | nil =>
      simp at e
      obtain ⟨rfl, rfl⟩ := e
      obtain ⟨a, b⟩ := h2 p hp
      rw [b]
      exact (top_spec M hl (hl _ a) (pD.mem_iff.mp (List.mem_map_of_mem a))).2
    | cons R1 pre =>
      simp at e
      obtain ⟨rfl, rfl⟩ := e
      have sp := split_perm left (R0.map (·.1)) nl h3 fun k hk => by
        obtain ⟨p, hp, rfl⟩ := List.mem_map.mp hk
        exact (h2 p hp).1
      refine ih (fun x hx => hl x (List.mem_filter.mp hx).1) (nl.sublist List.filter_sublist) ?_ pre R post rfl (fun R' hR' => ag R' (List.mem_cons_of_mem _ hR')) p hp
      have a := (sp.map D').symm.trans (pD.trans sp)
      rw [List.map_append, ring_map (ag R0 List.mem_cons_self)] at a
      exact (List.perm_append_left_iff _).mp ((h4.symm.append_right _).trans a)
theorem td_own {W : List (List Nat)} (M : Mkt W) {left : List Nat} {rs : List (List (Nat × Nat))} (h : TD W left rs) (hl : ∀ x ∈ left, x < W.length) : ∀ R ∈ rs, ∀ p ∈ R, rkW W p.1 p.2 ≤ rkW W p.1 p.1 := by
  induction h with
  | nil => exact fun _ z => nomatch z
  | @cons left R rs h1 h2 h3 h4 h5 ih =>
    intro R' hR' p hp
    rcases List.mem_cons.mp hR' with rfl | hR'
    · obtain ⟨a, b⟩ := h2 p hp
      rw [b]
      exact (top_spec M hl (hl _ a) a).2
    · exact ih (fun x hx => hl x (List.mem_filter.mp hx).1) R' hR' p hp
theorem td_uniq {W : List (List Nat)} (M : Mkt W) {left : List Nat} {rs rs' : List (List (Nat × Nat))} (h : TD W left rs) (h' : TD W left rs') (D D' : Nat → Nat) (hl : ∀ x ∈ left, x < W.length) (nl : left.Nodup) (ag : Agr D rs) (ag' : Agr D' rs') : ∀ o ∈ left, D o = D' o := by
  have pD' := td_perm h' D' nl ag'
  have all : ∀ post pre, rs = pre ++ post → Agr D' pre → Agr D' rs := by
    intro post
    induction post with
    | nil => intro pre e a; rw [e, List.append_nil]; exact a
    | cons R post ih =>
      intro pre e a
      refine ih (pre ++ [R]) (by rw [e]; simp) fun R' hR' => ?_
      rcases List.mem_append.mp hR' with z | z
      · exact a R' z
      · rw [List.mem_singleton.mp z]
        have hR : R ∈ rs := by rw [e]; simp
        obtain ⟨_, r2, r3⟩ := td_ring h R hR
        have br := td_breaks M h D' hl nl pD' pre R post e a
        have agR := ag R hR
        intro p hp
        have c := td_core M h' D' D hl ag' (R.map (·.1)) r2 (fun o ho => by
          obtain ⟨q, hq, rfl⟩ := List.mem_map.mp ho
          exact td_sub h R hR q hq) (by rw [ring_map agR]; exact r3) (fun o ho => by
          obtain ⟨q, hq, rfl⟩ := List.mem_map.mp ho
          rw [agR q hq]
          exact br q hq) p.1 (List.mem_map_of_mem hp)
        rw [← c, agR p hp]
  have a := all rs [] rfl (fun _ z => nomatch z)
  intro o ho
  obtain ⟨R, hR, p, hp, rfl⟩ := td_keys h o ho
  rw [ag R hR p hp, a R hR p hp]
/-! rings by walking on -/
def itN (f : Nat → Nat) : Nat → Nat → Nat
  | 0, y => y
  | k + 1, y => f (itN f k y)
theorem itN_add (f : Nat → Nat) (a b y : Nat) : itN f (a + b) y = itN f a (itN f b y) := by
  induction a with
  | zero => rw [Nat.zero_add]; rfl
  | succ a ih => rw [Nat.succ_add]; show f _ = f _; rw [ih]
theorem cyc_perm {f : Nat → Nat} {y m : Nat} (hm : 0 < m) (hy : itN f m y = y) : (((List.range m).map fun i => itN f i y).map f).Perm ((List.range m).map fun i => itN f i y) := by
  obtain ⟨k, rfl⟩ : ∃ k, m = k + 1 := ⟨m - 1, by omega⟩
  rw [List.map_map]
  have e1 : (List.range (k + 1)).map (f ∘ fun i => itN f i y) = (List.range k).map (fun i => itN f (i + 1) y) ++ [y] := by
    rw [List.range_succ, List.map_append]
    simp only [List.map_cons, List.map_nil, Function.comp_apply]
    congr 2
  have e2 : (List.range (k + 1)).map (fun i => itN f i y) = y :: (List.range k).map (fun i => itN f (i + 1) y) := by
    rw [List.range_succ_eq_map]
    simp [Function.comp_def, itN]
  rw [e1, e2]
  exact List.perm_append_singleton _ _
/-- of more steps than there are places, two meet -/
theorem meet_again (f : Nat → Nat) (left : List Nat) (hf : ∀ x ∈ left, f x ∈ left) (y : Nat) (hy : y ∈ left) : ∃ p, 0 < p ∧ p ≤ left.length ∧ itN f p (itN f left.length y) = itN f left.length y := by
  have mem : ∀ k, itN f k y ∈ left := fun k => by
    induction k with
    | zero => exact hy
    | succ k ih => exact hf _ ih
  by_cases nd : ((List.range (left.length + 1)).map fun i => itN f i y).Nodup
  · have := nd.length_le_of_subset (l₂ := left) fun x hx => by
      obtain ⟨i, _, rfl⟩ := List.mem_map.mp hx
      exact mem i
    simp at this
    omega
  · have : ∃ i j, i < j ∧ j < left.length + 1 ∧ itN f i y = itN f j y := by
      refine Classical.byContradiction fun hno => nd ?_
      rw [List.Nodup, List.pairwise_map, List.pairwise_iff_getElem]
      intro i j hi hj hij e
      simp at hi hj e
      exact hno ⟨i, j, hij, by omega, e⟩
    obtain ⟨i, j, hij, hj, e⟩ := this
    refine ⟨j - i, by omega, by omega, ?_⟩
    have a : itN f left.length y = itN f (left.length - i) (itN f i y) := by
      rw [← itN_add]; congr 1; omega
    rw [a, ← itN_add, ← itN_add, ← itN_add]
    have b : j - i + (left.length - i) + i = (left.length - i) + j := by omega
    rw [b, itN_add, itN_add, e]
end MT

set_option Elab.async false
set_option linter.all false
set_option maxRecDepth 100000
namespace MT
open PySem PySem.Spec L2 PV GS MA
open PyProof.Rows hiding St
abbrev encM (W : List (List Nat)) : PyData := encT encTN W
theorem market_eq (ns : List Int) (k : Nat) (hk : k ≤ 100) : ∃ W, Mkt W ∧ m_law_market [scrD ns, .int (k : Nat)] = .ok (encM W) := by
  have a1 : ∀ i : Nat, m_law_cell [scrD ns, .int ((k : Int) + 1 + (i : Int))] = .ok (.int (cell ns (k + 1 + i))) := fun i => by
    have := cell_eq ns (k + 1 + i); simpa using this
  obtain ⟨m, em, hm⟩ := emod_nat (cell ns k) 5 (by decide)
  let n := 1 + m
  let fw : Nat → List Nat := fun i => someOf (cell ns (k + 1 + i) + 11 * (i : Int) * i) n true
  refine ⟨(List.range n).map fw, ⟨by simp [n], by simp [n]; omega, fun w hw => ?_⟩, fn_rt rfl ?_⟩
  · obtain ⟨i, _, rfl⟩ := List.mem_map.mp hw
    simpa [fw, someOf] using rowOf_perm _ n
  · have c : compD (tName 3) tTrue (eFn m_law_some (eCons (eOp dAdd (eFn m_law_cell (eCons (eVar 0) (eCons (eOp dAdd (eOp dAdd (eVar 1) (eC (.int 1))) (eVar 3)) eNil))) (eOp dMul (eOp dMul (eC (.int 11)) (eVar 3)) (eVar 3))) (eCons (eVar 2) (eCons (eC (.bool true)) eNil)))) [some (scrD ns), some (.int (k : Nat)), some (.int (n : Nat)), none] ((List.range n).map encN) = .ok ((List.range n).map fun i => encTN (fw i)) := by
      refine compD_map encN _ _ fun i hi => ?_
      have hi' : i < n := List.mem_range.mp hi
      have s1 : small (11 * (i : Int)) = true := small_of (by omega) (by simp only [n] at hi'; omega)
      refine ⟨[some (scrD ns), some (.int (k : Nat)), some (.int (n : Nat)), some (encN i)], by simp, ?_⟩
      simp [encN, a1, show small 11 = true from by decide, s1, some_eq, show n ≤ 100 by simp only [n]; omega, fw]
    have e5 : (1 : Int) + cell ns k % 5 = ((n : Nat) : Int) := by simp only [n]; omega
    have c' := c
    simp [g_law_market, e5, show n ≤ 100000 by simp only [n]; omega]
    rw [c']
    simp [show n ≤ 100000 by simp only [n]; omega, encT, Function.comp_def]
theorem atom_i (z : Int) : atom (.int z) = true := nr rfl
theorem look_map (f : Nat → Nat) (x : Nat) : ∀ l : List Nat, (l.map fun o => (o, some (f o))).lookup x = if x ∈ l then some (some (f x)) else none
  | [] => rfl
  | a :: l => by
    simp only [List.map_cons, List.lookup_cons, List.mem_cons]
    by_cases e : x = a
    · subst e; simp
    · have : (x == a) = false := by simpa using e
      rw [this, look_map f x l]
      simp [e]
abbrev goals (f : Nat → Nat) (left : List Nat) : PyData := encD (left.map fun o => (o, some (f o)))
section
variable {W : List (List Nat)} (M : Mkt W)
include M
theorem wlen {o : Nat} (ho : o < W.length) : (W.getD o []).length ≤ 5 := by
  have := (M.get ho).length_eq
  have := M.w5
  simp at *; omega
theorem top_comp {left : List Nat} (hl : ∀ x ∈ left, x < W.length) {o : Nat} (ho : o ∈ left) : ∃ t, (W.getD o []).filter (fun h => decide (h ∈ left)) = topW W left o :: t := by
  have s := top_spec M hl (hl o ho) ho
  have pm := M.get (hl o ho)
  have hw : o ∈ W.getD o [] := pm.mem_iff.mpr (List.mem_range.mpr (hl o ho))
  unfold topW
  cases e : (W.getD o []).filter fun h => decide (h ∈ left) with
  | nil =>
    have := List.filter_eq_nil_iff.mp e o hw
    simp [ho] at this
  | cons a t => exact ⟨t, rfl⟩
theorem pointed_eq (left : List Nat) (hl : ∀ x ∈ left, x < W.length) (nl : left.Nodup) (h5 : left.length ≤ 5) : m_pointed [encM W, encL encN left] = .ok (goals (topW W left) left) := by
  have w5 := M.w5
  refine fn_rt rfl ?_
  simp [g_pointed, eDict0]
  refine for_pre encN left (fun ys env => ∃ ah j3 j4, ah = (ys.map fun o => (o, some (topW W left o))) ∧ env = [some (encM W), some (encL encN left), some (encD ah), j3, j4]) (by simp [encL]) ⟨[], none, none, rfl, by simp⟩ ?_ ?_
  · rintro ys o zs env e ⟨ah, j3, j4, hah, rfl⟩
    have ho : o ∈ left := e ▸ by simp
    have hoW := hl o ho
    have hny : o ∉ ys := fun z => by
      rw [e] at nl
      exact (List.nodup_append.mp nl).2.2 o z o (by simp) rfl
    obtain ⟨t, et⟩ := top_comp M hl ho
    have wl := wlen M hoW
    have lk : (ah.lookup o).isSome = false := by rw [hah, look_map]; simp [hny]
    have pn : putE (ah.map encKV) (o : Int) (.int (topW W left o : Nat)) = (ah ++ [(o, some (topW W left o))]).map encKV := putE_new ah o (some (topW W left o)) lk
    have ix : dIx (encM W) (.int (o : Nat)) = some (encTN (W.getD o [])) := by
      rw [dIx_T encTN W o [] hoW]
    obtain ⟨w, hw⟩ : ∃ w, w = W.getD o [] := ⟨_, rfl⟩
    rw [← hw] at et wl ix
    have c : ∀ j3 j4, compD (tName 4) (eT (eOp dIn (eVar 4) (eVar 1))) (eFlat (eVar 4)) [some (encM W), some (encL encN left), some (encD ah), j3, j4] (w.map encN) = .ok (((w.filter fun h => decide (h ∈ left))).map encN) := fun j3 j4 => compD_run encN (fun h => decide (h ∈ left)) encN _ fun h hh => by
      refine ⟨[some (encM W), some (encL encN left), some (encD ah), j3, some (encN h)], by simp, ?_⟩
      simp [dIn_L good_N (by decide) h left, encN]
    rw [et] at c
    have yl : ah.length ≤ 5 := by rw [e] at h5; simp at h5; rw [hah]; simp; omega
    have tl : (topW W left o :: t).length ≤ 5 := by rw [← et]; exact Nat.le_trans (List.length_filter_le _ _) wl
    have tl' : t.length + 1 ≤ 100000 := by simp at tl; omega
    have at0' : atI (PyData.int (topW W left o : Nat) :: t.map encN) 0 = some (.int (topW W left o : Nat)) := by simp [atI, ixN]
    simp [ix, c, encN, tl', dictK_enc, show ah.length < 100000 by omega, pn, atom_i]
    simp [hah]
  · rintro env ⟨ah, j3, j4, hah, rfl⟩
    subst hah
    simp
omit M in
theorem nodup_snoc {l : List Nat} {x : Nat} (h : l.Nodup) (hx : x ∉ l) : (l ++ [x]).Nodup := List.nodup_append.mpr ⟨h, by simp, fun a ha b hb e => by simp at hb; subst hb; exact hx (e ▸ ha)⟩
def RingP (f : Nat → Nat) (left : List Nat) (o : Out) : Prop := ∃ y m, 0 < m ∧ itN f m y = y ∧ ((List.range m).map fun i => itN f i y).Nodup ∧ (∀ x ∈ (List.range m).map fun i => itN f i y, x ∈ left) ∧ o = .rt (encL encN ((List.range m).map fun i => itN f i y))
def RingR (f : Nat → Nat) (left : List Nat) (s n : Nat) (env : Lo) : Prop := ∃ k met x, met = ((List.range k).map fun i => itN f i s) ∧ x = itN f k s ∧ met.Nodup ∧ n + k = left.length ∧ env = [some (goals f left), some (.int (x : Nat)), some (.list (met.map encN))]
omit M in
theorem ring_in_eq (f : Nat → Nat) (left : List Nat) (hf : ∀ x ∈ left, f x ∈ left) (s : Nat) (hs : s ∈ left) (h5 : left.length ≤ 5) : RingP f left (g_ring_in ([goals f left, .int (s : Nat)].map some ++ List.replicate 1 none)) := by
  have mem : ∀ k, itN f k s ∈ left := fun k => by
    induction k with
    | zero => exact hs
    | succ k ih => exact hf _ ih
  simp [g_ring_in]
  refine while_runP (P := RingP f left) (RingR f left s) left.length ⟨0, [], s, rfl, rfl, List.nodup_nil, by omega, by simp⟩ (by simp only [FUEL]; omega) ?_
  rintro n env ⟨k, met, x, hmet, hx, nd, hn, rfl⟩
  have hxl : x ∈ left := hx ▸ mem k
  have ml : met.length = k := by rw [hmet]; simp
  have msub : ∀ z ∈ met, z ∈ left := fun z hz => by
    rw [hmet] at hz
    obtain ⟨i, _, rfl⟩ := List.mem_map.mp hz
    exact mem i
  have ni : dNotIn (.int (x : Nat)) (.list (met.map encN)) = some (.bool (!decide (x ∈ met))) := dNotIn_L good_N (by decide) x met
  by_cases hm : x ∈ met
  · refine ⟨false, by simp [ni, hm], by simp, fun _ => ?_⟩
    have ixo : dIndex (.list (met.map encN)) (.int (x : Nat)) = some (.int (met.idxOf x : Nat)) := dIndex_L good_N (fun _ => rfl) x met hm
    have sl := dSlL_from encN met (met.idxOf x)
    have il : met.idxOf x < k := by rw [← ml]; exact List.idxOf_lt_length_iff.mpr hm
    have ei : itN f (met.idxOf x) s = x := by
      have : met[met.idxOf x]'(by omega) = x := List.getElem_idxOf (by omega)
      have e2 : met[met.idxOf x]'(by omega) = itN f (met.idxOf x) s := by
        simp only [hmet, List.getElem_map, List.getElem_range]
      rw [← e2]; exact this
    generalize met.idxOf x = i at *
    have ed : met.drop i = (List.range (k - i)).map fun j => itN f j x := by
      rw [hmet]
      refine List.ext_getElem (by simp) fun j h1 h2 => ?_
      simp only [List.getElem_drop, List.getElem_map, List.getElem_range]
      rw [Nat.add_comm, itN_add, ei]
    have fin : RingP f left (.rt (encL encN (met.drop i))) := by
      refine ⟨x, k - i, by omega, ?_, ?_, fun z hz => ?_, by rw [ed]⟩
      · have : itN f (k - i) x = itN f k s := by rw [← ei, ← itN_add]; congr 1; omega
        rw [this, hx]
      · rw [← ed]; exact nd.sublist (List.drop_sublist _ _)
      · rw [← ed] at hz; exact msub z (List.mem_of_mem_drop hz)
    have sl' : dSl (.list (met.map encN)) (some (i : Int)) none = some (encL encN (met.drop i)) := sl
    simp [ixo, sl']
    simpa using fin
  · refine ⟨true, by simp [ni, hm], fun _ => ?_, by simp⟩
    have nd' := nodup_snoc nd hm
    have kl : k + 1 ≤ left.length := by
      have := nd'.length_le_of_subset (l₂ := left) fun z hz => by
        rcases List.mem_append.mp hz with z1 | z1
        · exact msub z z1
        · simp at z1; subst z1; exact hxl
      simp at this; omega
    have lk := look_map f x left
    rw [if_pos hxl] at lk
    refine ⟨[some (goals f left), some (.int (f x : Nat)), some (.list ((met ++ [x]).map encN))], n - 1, ?_, by omega, k + 1, met ++ [x], f x, ?_, ?_, nd', by omega, rfl⟩
    · simp [lk, encO, show met.length < 100000 by omega, encN]
    · rw [List.range_succ, List.map_append, ← hmet, hx]; simp
    · rw [hx]; rfl
end
end MT

set_option Elab.async false
set_option linter.all false
set_option maxRecDepth 100000
namespace MT
open PySem PySem.Spec L2 PV GS MA
open PyProof.Rows hiding St
abbrev encRing (R : List (Nat × Nat)) : PyData := encD (R.map fun p => (p.1, some p.2))
theorem updE_new : ∀ (l ah : List (Nat × Option Nat)), (l.map (·.1)).Nodup → (∀ p ∈ l, p.1 ∉ ah.map (·.1)) → updE (ah.map encKV) (l.map encKV) = (ah ++ l).map encKV
  | [], ah, _, _ => by simp [updE]
  | p :: l, ah, nd, h => by
    obtain ⟨n1, n2⟩ := List.nodup_cons.mp (show (p.1 :: l.map (·.1)).Nodup from nd)
    have hp := h p List.mem_cons_self
    have lk : (ah.lookup p.1).isSome = false := by
      rw [Bool.eq_false_iff]
      intro z
      rw [List.lookup_isSome_iff] at z
      obtain ⟨q, hq, e⟩ := z
      exact hp (List.mem_map.mpr ⟨q, hq, by simp at e; exact e.symm⟩)
    show updE (putE (ah.map encKV) (p.1 : Int) (encO p.2)) (l.map encKV) = _
    rw [putE_new ah p.1 p.2 lk, updE_new l (ah ++ [(p.1, p.2)]) n2 fun q hq => ?_]
    · simp
    · rw [List.map_append, List.mem_append]
      rintro (z | z)
      · exact h q (List.mem_cons_of_mem _ hq) z
      · simp at z
        exact n1 (z ▸ List.mem_map_of_mem hq)
theorem pairsOf_enc : ∀ l : List (Nat × Option Nat), PV.pairsOf (l.map fun p => .tuple [encN p.1, encO p.2]) = some (l.map encKV)
  | [] => rfl
  | p :: l => by simp only [List.map_cons, PV.pairsOf, pairsOf_enc l, Option.map_some]; rfl
theorem dictP_enc (l : List (Nat × Option Nat)) (nd : (l.map (·.1)).Nodup) : gDictP [.list (l.map fun p => .tuple [encN p.1, encO p.2])] = some (encD l) := by
  have u := updE_new l [] nd (fun _ _ z => nomatch z)
  have u : updE [] (l.map encKV) = l.map encKV := u
  simp only [gDictP, pairsOf_enc, dictK_enc, if_true, u]
@[simp] theorem sForUpd_d (i1 i2 k j env) : sForUpd i1 i2 k j env = match slotD j env, slotD k env with
  | some kvs, some fvs => if decide (i1 < env.length) && decide (i2 < env.length) && decide (i1 ≠ i2) && decide (i1 ≠ k) && decide (i2 ≠ k) && decide (j ≠ k) && decide (fvs.length + kvs.length < 100000) then .nx (((env.set k (some (.dict (updE fvs kvs)))).set i1 none).set i2 none) else .bad
  | _, _ => .bad := nr rfl
def RoundsP (W : List (List Nat)) (o : Out) : Prop := ∃ rs, TD W (List.range W.length) rs ∧ o = .rt (.list (rs.map encRing))
def RoundsR (W : List (List Nat)) (n : Nat) (env : Lo) : Prop := ∃ left pre j3 j4, n = left.length ∧ left.Nodup ∧ (∀ x ∈ left, x < W.length) ∧ pre.length + left.length ≤ W.length ∧ (∀ rs, TD W left rs → TD W (List.range W.length) (pre ++ rs)) ∧ env = [some (encM W), some (encL encN left), some (.list (pre.map encRing)), j3, j4, none]
/-- a ring goes -/
theorem td_step {W : List (List Nat)} {left : List Nat} {y m : Nat} (hm : 0 < m) (hy : itN (topW W left) m y = y) (nd : ((List.range m).map fun i => itN (topW W left) i y).Nodup) (hs : ∀ x ∈ (List.range m).map fun i => itN (topW W left) i y, x ∈ left) {rs : List (List (Nat × Nat))}
    (h : TD W (left.filter fun o => decide (o ∉ (List.range m).map fun i => itN (topW W left) i y)) rs) : TD W left ((((List.range m).map fun i => itN (topW W left) i y).map fun o => (o, topW W left o)) :: rs) := by
  have cp := cyc_perm (f := topW W left) hm hy
  generalize er : ((List.range m).map fun i => itN (topW W left) i y) = ring at *
  have e1 : (ring.map fun o => (o, topW W left o)).map (·.1) = ring := by rw [List.map_map]; simp [Function.comp_def]
  have e2 : (ring.map fun o => (o, topW W left o)).map (·.2) = ring.map (topW W left) := by rw [List.map_map]; rfl
  refine .cons ?_ (fun p hp => ?_) (by rw [e1]; exact nd) (by rw [e1, e2]; exact cp) (by rw [e1]; exact h)
  · rw [← er]
    intro z
    simp at z
    omega
  · obtain ⟨o, ho, rfl⟩ := List.mem_map.mp hp
    exact ⟨hs o ho, rfl⟩
section
variable {W : List (List Nat)} (M : Mkt W)
include M
theorem rounds_run : RoundsP W (g_rounds ([encM W].map some ++ List.replicate 5 none)) := by
  have w5 := M.w5
  simp [g_rounds, show W.length ≤ 100000 by omega]
  refine while_runP (P := RoundsP W) (RoundsR W) W.length ⟨List.range W.length, [], none, none, by simp, List.nodup_range, fun x hx => List.mem_range.mp hx, by simp, fun rs h => h, by simp [encL]⟩ (by simp only [FUEL]; omega) ?_
  rintro n env ⟨left, pre, j3, j4, rfl, nl, hl, hlen, hpre, rfl⟩
  cases hc : left with
  | nil =>
    subst hc
    refine ⟨false, by simp, by simp, fun _ => ?_⟩
    exact ⟨pre, by simpa using hpre [] .nil, by simp⟩
  | cons a t =>
    rw [← hc]
    have ha : a ∈ left := by rw [hc]; simp
    refine ⟨true, by simp [hc], fun _ => ?_, by simp⟩
    have hf : ∀ x ∈ left, topW W left x ∈ left := fun x hx => (top_spec M hl (hl x hx) hx).1
    have pq := pointed_eq M left hl nl (by omega)
    obtain ⟨y, m, hm, hy, nd, hs, er⟩ := ring_in_eq (topW W left) left hf a ha (by omega)
    have er' : m_ring_in [goals (topW W left) left, .int (a : Nat)] = .ok (encL encN ((List.range m).map fun i => itN (topW W left) i y)) := fn_rt rfl er
    have st := fun rs => td_step (W := W) (left := left) (rs := rs) hm hy nd hs
    have ix0 : dIx (encL encN left) (.int 0) = some (.int (a : Nat)) := by rw [hc]; simp [encL, encN]
    have mle : m ≤ left.length := by
      have := nd.length_le_of_subset hs
      simpa using this
    have hr0 : ((List.range m).map fun i => itN (topW W left) i y) ≠ [] := by
      intro z; simp at z; omega
    obtain ⟨ring, hring⟩ : ∃ ring, ring = ((List.range m).map fun i => itN (topW W left) i y) := ⟨_, rfl⟩
    have rl : ring.length = m := by rw [hring]; simp
    rw [← hring] at er' st nd hs hr0
    have c1 : ∀ j2 j4, compD (tName 5) tTrue (eFlat (eTup (eCons (eVar 5) (eCons (eOp dIx (eVar 3) (eVar 5)) eNil)))) [some (encM W), some (encL encN left), j2, some (goals (topW W left) left), j4, none] (ring.map encN) = .ok (ring.map fun o => .tuple [encN o, .int (topW W left o : Nat)]) := fun j2 j4 => compD_map encN _ ring fun o ho => by
      have lk := look_map (topW W left) o left
      rw [if_pos (hs o ho)] at lk
      refine ⟨[some (encM W), some (encL encN left), j2, some (goals (topW W left) left), j4, some (encN o)], by simp, ?_⟩
      simp [encN, lk, encO]
    have gp := dictP_enc (ring.map fun o => (o, some (topW W left o))) (by rw [List.map_map]; simpa [Function.comp_def] using nd)
    have gp' : gDictP [.list (ring.map fun o => .tuple [encN o, .int (topW W left o : Nat)])] = some (encRing (ring.map fun o => (o, topW W left o))) := by
      rw [List.map_map] at gp
      rw [encRing, List.map_map]
      exact gp
    have c2 : ∀ j2 j3, compD (tName 5) (eT (eOp dNotIn (eVar 5) (eVar 4))) (eFlat (eVar 5)) [some (encM W), some (encL encN left), j2, j3, some (encL encN ring), none] (left.map encN) = .ok ((left.filter fun o => decide (o ∉ ring)).map encN) := fun j2 j3 => compD_run encN (fun o => decide (o ∉ ring)) encN left fun o ho => by
      have ni : dNotIn (.int (o : Nat)) (encL encN ring) = some (.bool (!decide (o ∈ ring))) := dNotIn_L good_N (by decide) o ring
      refine ⟨[some (encM W), some (encL encN left), j2, j3, some (encL encN ring), some (encN o)], by simp, ?_⟩
      simp [encN, ni]
    have fl : (left.filter fun o => decide (o ∉ ring)).length < left.length := by
      have sp := (split_perm left ring nl nd hs).length_eq
      rw [List.length_append] at sp
      omega
    refine ⟨[some (encM W), some (encL encN (left.filter fun o => decide (o ∉ ring))), some (.list ((pre ++ [ring.map fun o => (o, topW W left o)]).map encRing)), some (goals (topW W left) left), some (encL encN ring), none], (left.filter fun o => decide (o ∉ ring)).length, ?_, fl, left.filter (fun o => decide (o ∉ ring)), pre ++ [ring.map fun o => (o, topW W left o)], _, _, rfl, nl.sublist List.filter_sublist, fun x hx => hl x (List.mem_filter.mp hx).1, ?_, fun rs h => ?_, rfl⟩
    · generalize left.filter (fun o => decide (o ∉ ring)) = left2 at *
      simp [pq, ix0, er', c1, gp', c2, rl, show m ≤ 100000 by omega, show pre.length < 100000 by omega, show left2.length ≤ 100000 by omega]
      rfl
    · rw [List.length_append]; show _ + 1 + _ ≤ _; omega
    · rw [List.append_assoc]
      exact hpre _ (st rs h)
theorem rounds_eq : ∃ rs, TD W (List.range W.length) rs ∧ m_rounds [encM W] = .ok (.list (rs.map encRing)) := by
  obtain ⟨rs, h, e⟩ := rounds_run M
  exact ⟨rs, h, fn_rt rfl e⟩
omit M in
theorem td_nodup {left : List Nat} {rs : List (List (Nat × Nat))} (h : TD W left rs) : (rs.flatten.map (·.1)).Nodup := by
  induction h with
  | nil => exact List.nodup_nil
  | @cons left R rs h1 h2 h3 h4 h5 ih =>
    rw [List.flatten_cons, List.map_append]
    refine List.nodup_append.mpr ⟨h3, ih, fun a ha b hb e => ?_⟩
    subst e
    obtain ⟨p, hp, rfl⟩ := List.mem_map.mp hb
    obtain ⟨R', hR', hp⟩ := List.mem_flatten.mp hp
    have := td_sub h5 R' hR' p hp
    have := (List.mem_filter.mp this).2
    simp at this
    obtain ⟨q, hq, e⟩ := List.mem_map.mp ha
    exact this q.2 (by rw [← e]; exact hq)
omit M in
theorem look_in {β : Type} : ∀ {l : List (Nat × β)} {p : Nat × β}, (l.map (·.1)).Nodup → p ∈ l → l.lookup p.1 = some p.2
  | q :: l, p, nd, hp => by
    obtain ⟨n1, n2⟩ := List.nodup_cons.mp (show (q.1 :: l.map (·.1)).Nodup from nd)
    rw [show q :: l = (q.1, q.2) :: l from rfl, List.lookup_cons]
    rcases List.mem_cons.mp hp with rfl | hp
    · simp
    · have : (p.1 == q.1) = false := by
        simp
        intro e
        exact n1 (e ▸ List.mem_map_of_mem hp)
      rw [this]
      exact look_in n2 hp
def DealOf (W : List (List Nat)) (L : List Nat) : Prop := L.length = W.length ∧ ∃ rs, TD W (List.range W.length) rs ∧ Agr (fun o => L.getD o 0) rs
theorem deal_of_eq : ∃ L rs, L.length = W.length ∧ TD W (List.range W.length) rs ∧ m_rounds [encM W] = .ok (.list (rs.map encRing)) ∧ Agr (fun o => L.getD o 0) rs ∧ m_deal_of [encM W] = .ok (encTN L) := by
  have w5 := M.w5
  obtain ⟨rs, h, e⟩ := rounds_eq M
  have nd := td_nodup h
  let L := (List.range W.length).map fun o => (rs.flatten.lookup o).getD 0
  have ll : L.length = W.length := by simp [L]
  have lo : ∀ o, o < W.length → L.getD o 0 = (rs.flatten.lookup o).getD 0 := fun o ho => by simp [L, ho]
  have lk : ∀ R ∈ rs, ∀ p ∈ R, rs.flatten.lookup p.1 = some p.2 := fun R hR p hp => look_in nd (List.mem_flatten.mpr ⟨R, hR, hp⟩)
  have ag : Agr (fun o => L.getD o 0) rs := fun R hR p hp => by
    have := td_sub h R hR p hp
    show L.getD p.1 0 = _
    rw [lo _ (List.mem_range.mp this), lk R hR p hp]; rfl
  have fl : (rs.flatten).length ≤ 5 := by
    have := nd.length_le_of_subset (l₂ := List.range W.length) fun x hx => by
      obtain ⟨p, hp, rfl⟩ := List.mem_map.mp hx
      obtain ⟨R, hR, hp⟩ := List.mem_flatten.mp hp
      exact td_sub h R hR p hp
    rw [List.length_map, List.length_range] at this
    omega
  refine ⟨L, rs, ll, h, e, ag, fn_rt rfl ?_⟩
  simp [g_deal_of, eDict0]
  refine for_pre encRing rs (fun ys env => ∃ ah j2 j3 j4, ah = ys.flatten.map (fun p => (p.1, some p.2)) ∧ env = [some (encM W), some (encD ah), j2, j3, j4]) (by simp [e]) ⟨[], none, none, none, rfl, by simp⟩ ?_ ?_
  · rintro ys R zs env er ⟨ah, j2, j3, j4, hah, rfl⟩
    have e1 : (R.map fun p => (p.1, some p.2)).map (fun q : Nat × Option Nat => q.1) = R.map (·.1) := by rw [List.map_map]; rfl
    have e2 : ah.map (·.1) = ys.flatten.map (·.1) := by rw [hah, List.map_map]; rfl
    rw [er] at nd fl
    have nd2 : (ys.flatten.map (·.1) ++ R.map (·.1)).Nodup := by
      have : (ys ++ R :: zs).flatten.map (·.1) = (ys.flatten.map (·.1) ++ R.map (·.1)) ++ zs.flatten.map (fun p : Nat × Nat => p.1) := by simp [List.append_assoc]
      rw [this] at nd
      exact (List.nodup_append.mp nd).1
    have u := updE_new (R.map fun p => (p.1, some p.2)) ah (by rw [e1]; exact (List.nodup_append.mp nd2).2.1) fun p hp z => by
      rw [e2] at z
      have : p.1 ∈ R.map (·.1) := by rw [← e1]; exact List.mem_map_of_mem hp
      exact (List.nodup_append.mp nd2).2.2 _ z _ this rfl
    have hl : ah.length + R.length ≤ 5 := by
      have a1 : ah.length = ys.flatten.length := by rw [hah, List.length_map]
      rw [List.flatten_append, List.flatten_cons, List.length_append, List.length_append] at fl
      omega
    obtain ⟨Re, hRe⟩ : ∃ Re, Re = (R.map fun p => (p.1, some p.2)) := ⟨_, rfl⟩
    have hr : Re.length = R.length := by rw [hRe]; simp
    rw [← hRe] at u
    show ∃ env1 env2, _
    refine ⟨[some (encM W), some (encD ah), some (encD Re), j3, j4], [some (encM W), some (encD (ah ++ Re)), some (encD Re), none, none], by simp [encRing, ← hRe], ?_, ah ++ Re, _, _, _, by rw [hah, hRe]; simp, rfl⟩
    simp [dictK_enc, u, hr, show ah.length + R.length < 100000 by omega]
  · rintro env ⟨ah, j2, j3, j4, hah, rfl⟩
    have la : ∀ o, o < W.length → ah.lookup o = some (some (L.getD o 0)) := fun o ho => by
      obtain ⟨R, hR, p, hp, rfl⟩ := td_keys h o (List.mem_range.mpr ho)
      have e2 : ah.map (·.1) = rs.flatten.map (·.1) := by rw [hah, List.map_map]; rfl
      have : (p.1, some p.2) ∈ ah := by rw [hah]; exact List.mem_map.mpr ⟨p, List.mem_flatten.mpr ⟨R, hR, hp⟩, rfl⟩
      have q := look_in (by rw [e2]; exact nd) this
      rw [q, lo _ ho, lk R hR p hp]; rfl
    have c : ∀ j2 j4, compD (tName 3) tTrue (eFlat (eOp dIx (eVar 1) (eVar 3))) [some (encM W), some (encD ah), j2, none, j4] ((List.range W.length).map encN) = .ok ((List.range W.length).map fun o => encN (L.getD o 0)) := fun j2 j4 => compD_map encN _ _ fun o ho => by
      have q := la o (List.mem_range.mp ho)
      refine ⟨[some (encM W), some (encD ah), j2, some (encN o), j4], by simp, ?_⟩
      obtain ⟨v, hv⟩ : ∃ v, v = L.getD o 0 := ⟨_, rfl⟩
      rw [← hv] at q ⊢
      simp [encN, q, encO]
    have eL : (List.range W.length).map (fun o => encN (L.getD o 0)) = L.map encN := by
      refine List.ext_getElem (by simp [ll]) fun i h1 h2 => ?_
      simp at h1 h2
      simp [h2]
    rw [eL] at c
    generalize L = L' at *
    simp [c, ll, show W.length ≤ 100000 by omega]
    rfl
end
end MT

set_option Elab.async false
set_option linter.all false
set_option maxRecDepth 100000
namespace MT
open PySem PySem.Spec L2 PV GS MA
open PyProof.Rows hiding St
theorem orbit_nodup {f : Nat → Nat} {y k : Nat} (h : ∀ i, 0 < i → i < k → itN f i y ≠ y) (hk : itN f k y = y) : ((List.range k).map fun i => itN f i y).Nodup := by
  rw [List.Nodup, List.pairwise_map, List.pairwise_iff_getElem]
  intro i j hi hj hij e
  simp at hi hj e
  refine h (k - j + i) (by omega) (by omega) ?_
  rw [itN_add, e, ← itN_add, show k - j + j = k by omega, hk]
theorem dIx_last (l : List Nat) (x : Nat) : dIx (.list ((l ++ [x]).map encN)) (.int (-1)) = some (.int (x : Nat)) := by
  have e : ixN ((l ++ [x]).map encN).length (-1) = some l.length := by
    simp [ixN]
    omega
  show atI _ (-1) = _
  unfold atI
  rw [e]
  simp [encN]
theorem dIx_ring (f : Nat → Nat) (y k : Nat) : dIx (.list (((List.range (k + 1)).map fun i => itN f i y).map encN)) (.int (-1)) = some (.int (itN f k y : Nat)) := by
  rw [List.range_succ, List.map_append]
  exact dIx_last _ _
def setL (f : Nat → Nat) (l : List Nat) (ys : List Nat) : List Nat := ys.foldl (fun l o => l.set o (f o)) l
theorem setL_len (f : Nat → Nat) : ∀ (ys l : List Nat), (setL f l ys).length = l.length
  | [], _ => rfl
  | y :: ys, l => by show (setL f (l.set y (f y)) ys).length = _; rw [setL_len f ys]; simp
theorem setL_get (f : Nat → Nat) (x : Nat) : ∀ (ys l : List Nat), (∀ y ∈ ys, y < l.length) → (setL f l ys).getD x 0 = if x ∈ ys then f x else l.getD x 0
  | [], _, _ => rfl
  | y :: ys, l, h => by
    show (setL f (l.set y (f y)) ys).getD x 0 = _
    rw [setL_get f x ys _ fun z hz => by rw [List.length_set]; exact h z (List.mem_cons_of_mem _ hz)]
    have hy := h y List.mem_cons_self
    by_cases e : x ∈ ys
    · simp [e]
    · rw [if_neg e]
      by_cases e2 : x = y
      · subst e2; simp [hy]
      · have : ¬ x ∈ y :: ys := by simp [e, e2]
        rw [if_neg this]
        simp only [List.getD_eq_getElem?_getD]
        rw [List.getElem?_set_ne (Ne.symm e2)]
def LoopR (pre suf : Lo) (f : Nat → Nat) (y p n : Nat) (env : Lo) : Prop := ∃ k, k + 1 + n = p ∧ (∀ i, 0 < i → i < k + 1 → itN f i y ≠ y) ∧ env = pre ++ [some (.int (y : Nat))] ++ suf ++ [some (.list (((List.range (k + 1)).map fun i => itN f i y).map encN)), none]
def DealP (W : List (List Nat)) (o : Out) : Prop := ∃ L, DealOf W L ∧ o = .rt (encTN L)
def DealR (W : List (List Nat)) (n : Nat) (env : Lo) : Prop := ∃ left pre fnd j3 j4 j5 j6 j7, n = left.length ∧ left.Nodup ∧ (∀ x ∈ left, x < W.length) ∧ left.length ≤ W.length ∧ (∀ rs, TD W left rs → TD W (List.range W.length) (pre ++ rs)) ∧ List.length fnd = W.length ∧ Agr (fun o => fnd.getD o 0) pre ∧ (∀ R ∈ pre, ∀ p ∈ R, p.1 ∉ left) ∧
  env = [some (encM W), some (encL encN left), some (.list (fnd.map encN)), j3, j4, j5, j6, j7, none]
section
variable {W : List (List Nat)} (M : Mkt W)
include M
theorem law_deal_run : DealP W (g_law_deal ([encM W].map some ++ List.replicate 8 none)) := by
  have w5 := M.w5
  have gf : gListF [.list ((List.range W.length).map encN)] = some (.list ((List.range W.length).map encN)) := by simp [gListF, flatL_map flat_encN]
  simp [g_law_deal, show W.length ≤ 100000 by omega, gf]
  refine while_runP (P := DealP W) (DealR W) W.length ⟨List.range W.length, [], List.range W.length, none, none, none, none, none, by simp, List.nodup_range, fun x hx => List.mem_range.mp hx, by simp, fun rs h => h, by simp, fun _ z => (nomatch z), fun _ z => (nomatch z), by simp [encL]⟩ (by simp only [FUEL]; omega) ?_
  rintro n env ⟨left, pre, fnd, j3, j4, j5, j6, j7, rfl, nl, hl, hlen, hpre, hfn, ag, dj, rfl⟩
  by_cases hc : left = []
  · subst hc
    refine ⟨false, by simp, by simp, fun _ => ?_⟩
    refine ⟨fnd, ⟨hfn, pre, by simpa using hpre [] .nil, ag⟩, by simp [encT]⟩
  · have hpos : 0 < left.length := List.length_pos_iff.mpr hc
    refine ⟨true, by cases left with | nil => exact absurd rfl hc | cons a b => simp, fun _ => ?_, by simp⟩
    have hf : ∀ x ∈ left, topW W left x ∈ left := fun x hx => (top_spec M hl (hl x hx) hx).1
    show ∃ env2, ∃ n', _
    have key : Nx (fun env2 => ∃ n', n' < left.length ∧ DealR W n' env2) ((sSeq (sSet 3 eDict0) (sSeq (sFor (iSeq (eVar 1)) (tName 4) (sSeq (sDPutD 3 (eOp dIx (eComp (iSeq (eOp dIx (eVar 0) (eVar 4))) (tName 8) [8] (eT (eOp dIn (eVar 8) (eVar 1))) (eFlat (eVar 8))) (eC (.int 0))) (eVar 4)) .nx)) (sSeq (sSet 5 (eOp dIx (eVar 1) (eNeg (eC (.int 1))))) (sSeq (sFor (iRange (eCons (eCall gLen (eCons (eVar 1) eNil)) eNil)) (tName 6) (sSeq (sSet 5 (eFlat (eOp dIx (eVar 3) (eVar 5)))) .nx)) (sSeq (sSet 7 (eLst (eCons (eFlat (eVar 5)) eNil))) (sSeq (sWhile FUEL (eT (eOp dNe (eOp dIx (eVar 3) (eOp dIx (eVar 7) (eNeg (eC (.int 1))))) (eVar 5))) (sSeq (sApp 7 (eFlat (eOp dIx (eVar 3) (eOp dIx (eVar 7) (eNeg (eC (.int 1))))))) .nx)) (sSeq (sFor (iSeq (eVar 7)) (tName 4) (sSeq (sPut 2 (eOp dIx (eVar 3) (eVar 4)) (eVar 4)) .nx)) (sSeq (sSet 1 (eComp (iSeq (eVar 1)) (tName 4) [4] (eT (eOp dNotIn (eVar 4) (eVar 7))) (eFlat (eVar 4)))) .nx)))))))) [some (encM W), some (encL encN left), some (.list (fnd.map encN)), j3, j4, j5, j6, j7, none]) := by
      simp [eDict0]
      refine for_preP (P := Nx _) encN left (fun ys env => ∃ ah j4, ah = (ys.map fun o => (o, some (topW W left o))) ∧ env = [some (encM W), some (encL encN left), some (.list (fnd.map encN)), some (encD ah), j4, j5, j6, j7, none]) (by simp [encL]) ⟨[], j4, rfl, by simp⟩ ?_ ?_
      · rintro ys o zs env e ⟨ah, j4, hah, rfl⟩
        have ho : o ∈ left := e ▸ by simp
        have hoW := hl o ho
        have hny : o ∉ ys := fun z => by
          rw [e] at nl
          exact (List.nodup_append.mp nl).2.2 o z o (by simp) rfl
        obtain ⟨t, et⟩ := top_comp M hl ho
        have wl := wlen M hoW
        have lk : (ah.lookup o).isSome = false := by rw [hah, look_map]; simp [hny]
        have pn : putE (ah.map encKV) (o : Int) (.int (topW W left o : Nat)) = (ah ++ [(o, some (topW W left o))]).map encKV := putE_new ah o (some (topW W left o)) lk
        have ix : dIx (encM W) (.int (o : Nat)) = some (encTN (W.getD o [])) := by
          rw [dIx_T encTN W o [] hoW]
        obtain ⟨w, hw⟩ : ∃ w, w = W.getD o [] := ⟨_, rfl⟩
        rw [← hw] at et wl ix
        have c : ∀ j2 j4, compD (tName 8) (eT (eOp dIn (eVar 8) (eVar 1))) (eFlat (eVar 8)) [some (encM W), some (encL encN left), j2, some (encD ah), j4, j5, j6, j7, none] (w.map encN) = .ok (((w.filter fun h => decide (h ∈ left))).map encN) := fun j2 j4 => compD_run encN (fun h => decide (h ∈ left)) encN _ fun h hh => by
          refine ⟨[some (encM W), some (encL encN left), j2, some (encD ah), j4, j5, j6, j7, some (encN h)], by simp, ?_⟩
          simp [dIn_L good_N (by decide) h left, encN]
        rw [et] at c
        have yl : ah.length ≤ 5 := by rw [e] at hlen; simp at hlen; rw [hah]; simp; omega
        have tl : (topW W left o :: t).length ≤ 5 := by rw [← et]; exact Nat.le_trans (List.length_filter_le _ _) wl
        have tl' : t.length + 1 ≤ 100000 := by simp at tl; omega
        simp [ix, c, encN, tl', dictK_enc, show ah.length < 100000 by omega, pn, atom_i]
        simp [hah]
      · rintro env ⟨ah, j4, hah, rfl⟩
        have gx : ∀ o ∈ left, dIx (encD ah) (.int (o : Nat)) = some (.int (topW W left o : Nat)) := fun o ho => by
          have lk := look_map (topW W left) o left
          rw [if_pos ho, ← hah] at lk
          rw [dIx_enc, lk]; rfl
        generalize encD ah = gd at *
        clear hah
        generalize hfe : topW W left = f at *
        have mem : ∀ x, x ∈ left → ∀ k, itN f k x ∈ left := fun x hx k => by
          induction k with
          | zero => exact hx
          | succ k ih => exact hf _ ih
        obtain ⟨l', x0, hx0⟩ : ∃ l' x0, left = l' ++ [x0] := by
          rcases List.eq_nil_or_concat left with z | ⟨l', x0, z⟩
          · exact absurd z hc
          · exact ⟨l', x0, by simpa using z⟩
        have x0l : x0 ∈ left := by rw [hx0]; simp
        have lst : dIx (encL encN left) (.int (-1)) = some (.int (x0 : Nat)) := by rw [hx0]; exact dIx_last l' x0
        obtain ⟨p, p1, p2, p3⟩ := meet_again f left hf x0 x0l
        simp [lst]
        refine for_preP (P := Nx _) encN (List.range left.length) (fun ys env => ∃ j6, env = [some (encM W), some (encL encN left), some (.list (fnd.map encN)), some gd, j4, some (.int (itN f ys.length x0 : Nat)), j6, j7, none]) (by simp [show left.length ≤ 100000 by omega]) ⟨j6, by simp [itN]⟩ ?_ ?_
        · rintro ys o zs env e ⟨j6, rfl⟩
          have q := gx _ (mem x0 x0l ys.length)
          simp [q, itN]
        · rintro env ⟨j6, rfl⟩
          simp only [List.length_range]
          have y0l := mem x0 x0l left.length
          generalize itN f left.length x0 = y at *
          simp
          refine while_runP (P := Nx _) (LoopR [some (encM W), some (encL encN left), some (.list (fnd.map encN)), some gd, j4] [j6] f y p) (p - 1) ⟨0, by omega, fun i a b => by omega, by simp [itN, encN]⟩ (by simp only [FUEL]; omega) ?_
          rintro n env ⟨k, hk, hmin, rfl⟩
          have q : dIx gd (.int (itN f k y : Nat)) = some (.int (itN f (k + 1) y : Nat)) := gx _ (mem y y0l k)
          have ringl : ∀ z ∈ (List.range (k + 1)).map (fun i => itN f i y), z ∈ left := fun z hz => by
            obtain ⟨i, _, rfl⟩ := List.mem_map.mp hz
            exact mem y y0l i
          obtain ⟨ring, hring⟩ : ∃ ring, ring = ((List.range (k + 1)).map fun i => itN f i y) := ⟨_, rfl⟩
          have lr : atI (ring.map encN) (-1) = some (.int (itN f k y : Nat)) := by rw [hring]; exact dIx_ring f y k
          have rl : ring.length = k + 1 := by rw [hring]; simp
          have snoc : ring ++ [itN f (k + 1) y] = (List.range (k + 1 + 1)).map fun i => itN f i y := by rw [List.range_succ (n := k + 1), List.map_append, ← hring]; rfl
          by_cases hd : itN f (k + 1) y = y
          · have nd := orbit_nodup hmin hd
            have st := fun rs => td_step (W := W) (left := left) (rs := rs) (y := y) (m := k + 1) (by omega) (by rw [hfe]; exact hd) (by rw [hfe]; exact nd) (by rw [hfe]; exact ringl)
            rw [hfe] at st
            rw [← hring] at nd st ringl ⊢
            refine ⟨false, by simp [lr, q, hd], by simp, fun _ => ?_⟩
            simp
            refine for_preP (P := Nx _) encN ring (fun ys env => ∃ j4, env = [some (encM W), some (encL encN left), some (.list ((setL f fnd ys).map encN)), some gd, j4, some (.int (y : Nat)), j6, some (.list (ring.map encN)), none]) (by simp) ⟨j4, by simp [setL]⟩ ?_ ?_
            · rintro ys o zs env e ⟨j4, rfl⟩
              have ho : o ∈ ring := e ▸ by simp
              have hol := ringl o ho
              have q2 := gx o hol
              have e1 : setL f fnd (ys ++ [o]) = (setL f fnd ys).set o (f o) := by simp [setL, List.foldl_append]
              have pl : PV.putAt ((setL f fnd ys).map encN) (.int (o : Nat)) (.int (f o : Nat)) = some ((setL f fnd (ys ++ [o])).map encN) := by
                rw [putAt_nat _ _ _ (by rw [List.length_map, setL_len, hfn]; exact hl o hol), e1, List.map_set]; rfl
              simp [encN, q2, pl, flatL_map flat_encN]
            · rintro env ⟨j4, rfl⟩
              have c2 : ∀ j2 j3 j5, compD (tName 4) (eT (eOp dNotIn (eVar 4) (eVar 7))) (eFlat (eVar 4)) [some (encM W), some (encL encN left), j2, j3, none, j5, j6, some (encL encN ring), none] (left.map encN) = .ok ((left.filter fun o => decide (o ∉ ring)).map encN) := fun j2 j3 j5 => compD_run encN (fun o => decide (o ∉ ring)) encN left fun o ho => by
                have ni : dNotIn (.int (o : Nat)) (encL encN ring) = some (.bool (!decide (o ∈ ring))) := dNotIn_L good_N (by decide) o ring
                refine ⟨[some (encM W), some (encL encN left), j2, j3, some (encN o), j5, j6, some (encL encN ring), none], by simp, ?_⟩
                simp [encN, ni]
              have fl : (left.filter fun o => decide (o ∉ ring)).length + ring.length = left.length := by
                have sp := (split_perm left ring nl nd ringl).length_eq
                rw [List.length_append] at sp
                omega
              have sub : ∀ x ∈ left.filter (fun o => decide (o ∉ ring)), x ∈ left ∧ x ∉ ring := fun x hx => by
                obtain ⟨a, b⟩ := List.mem_filter.mp hx
                exact ⟨a, by simpa using b⟩
              have nl2 : (left.filter fun o => decide (o ∉ ring)).Nodup := nl.sublist List.filter_sublist
              generalize left.filter (fun o => decide (o ∉ ring)) = left2 at *
              have c2' : ∀ j2 j3 j5, compD (tName 4) (eT (eOp dNotIn (eVar 4) (eVar 7))) (eFlat (eVar 4)) [some (encM W), some (encL encN left), j2, j3, none, j5, j6, some (.list (ring.map encN)), none] (left.map encN) = .ok (left2.map encN) := c2
              simp [c2', show left2.length ≤ 100000 by omega]
              refine ⟨left2.length, by omega, left2, pre ++ [ring.map fun o => (o, f o)], setL f fnd ring, _, _, _, _, _, rfl, nl2, fun x hx => hl x (sub x hx).1, by omega, fun rs h => ?_, by rw [setL_len, hfn], fun R hR p hp => ?_, fun R hR p hp z => ?_, rfl⟩
              · rw [List.append_assoc]
                exact hpre _ (st rs h)
              · show (setL f fnd ring).getD p.1 0 = p.2
                rw [setL_get f p.1 ring fnd fun x hx => by rw [hfn]; exact hl x (ringl x hx)]
                rcases List.mem_append.mp hR with hR | hR
                · rw [if_neg fun z => dj R hR p hp (ringl _ z)]
                  exact ag R hR p hp
                · rw [List.mem_singleton.mp hR] at hp
                  obtain ⟨o, ho, rfl⟩ := List.mem_map.mp hp
                  rw [if_pos ho]
              · rcases List.mem_append.mp hR with hR | hR
                · exact dj R hR p hp (sub _ z).1
                · rw [List.mem_singleton.mp hR] at hp
                  obtain ⟨o, ho, rfl⟩ := List.mem_map.mp hp
                  exact (sub _ z).2 ho
          · rw [← hring]
            refine ⟨true, by simp [lr, q, hd], fun _ => ?_, by simp⟩
            have hkp : k + 1 < p := by
              rcases Nat.lt_or_ge (k + 1) p with z | z
              · exact z
              · have : k + 1 = p := by omega
                rw [this] at hd
                exact absurd p3 hd
            refine ⟨_, n - 1, by simp [lr, q, rl, show k + 1 < 100000 by omega]; rfl, by omega, k + 1, by omega, fun i a b => ?_, ?_⟩
            · rcases Nat.lt_or_ge i (k + 1) with z | z
              · exact hmin i a z
              · have : i = k + 1 := by omega
                rw [this]; exact hd
            · rw [← snoc]
              simp [encN]
    obtain ⟨env2, e1, n', e2, e3⟩ := key
    exact ⟨env2, n', e1, e2, e3⟩
end
end MT

set_option Elab.async false
set_option linter.all false
set_option maxRecDepth 100000
namespace MT
open PySem PySem.Spec L2 PV GS MA
open PyProof.Rows hiding St
theorem law_deal_eq {W : List (List Nat)} (M : Mkt W) : ∃ L, DealOf W L ∧ m_law_deal [encM W] = .ok (encTN L) := by
  obtain ⟨L, h, e⟩ := law_deal_run M
  exact ⟨L, h, fn_rt rfl e⟩
theorem DealOf.perm {W : List (List Nat)} {L : List Nat} (h : DealOf W L) : L.Perm (List.range W.length) ∧ ((List.range W.length).map fun o => L.getD o 0).Perm (List.range W.length) := by
  obtain ⟨hl, rs, ht, ag⟩ := h
  have p := td_perm ht (fun o => L.getD o 0) List.nodup_range ag
  refine ⟨?_, p⟩
  have : (List.range W.length).map (fun o => L.getD o 0) = L := by
    refine List.ext_getElem (by simp [hl]) fun i h1 h2 => ?_
    simp [h2]
  rw [this] at p
  exact p
theorem DealOf.uniq {W : List (List Nat)} (M : Mkt W) {L L' : List Nat} (h : DealOf W L) (h' : DealOf W L') : L = L' := by
  obtain ⟨hl, rs, ht, ag⟩ := h
  obtain ⟨hl', rs', ht', ag'⟩ := h'
  have := td_uniq M ht ht' _ _ (fun x hx => List.mem_range.mp hx) List.nodup_range ag ag'
  refine List.ext_getElem (by omega) fun i h1 h2 => ?_
  have := this i (List.mem_range.mpr (by omega))
  simpa [h1, h2] using this
/-! ### are_unlike -/
theorem ddp_le : ∀ l : List Int, (ddp l).length ≤ l.length
  | [] => Nat.le_refl _
  | x :: xs => by
    have := ddp_le xs
    unfold ddp
    split <;> simp <;> omega
theorem ddp_nd : ∀ l : List Int, (ddp l).length = l.length ↔ l.Nodup
  | [] => by simp [ddp]
  | x :: xs => by
    have h1 := ddp_nd xs
    have h2 := ddp_le xs
    unfold ddp
    split
    · rename_i h
      simp [h]; omega
    · rename_i h
      simp [h, h1]
def lenSetOf (d : PyData) : Res PyData := match intsT d with
  | some ns => if ns.length ≤ 1000 then .ok (.int (ddp ns).length) else .bad
  | none => .bad
@[simp] theorem eLenSet_d (f env) : eLenSet f env = (f env).bind lenSetOf := nr rfl
theorem intsT_N (ns : List Nat) : intsT (.tuple (ns.map encN)) = some (ns.map fun n : Nat => (n : Int)) := by
  have e : (ns.map encN).all isI = true := by simp [encN, isI]
  simp [intsT, e, encN, Function.comp_def]
theorem nd_ofNat (ns : List Nat) : (ns.map fun n : Nat => (n : Int)).Nodup ↔ ns.Nodup := by
  rw [List.Nodup, List.pairwise_map]
  refine ⟨fun h => h.imp fun h e => h (by rw [e]), fun h => h.imp fun h e => h (by omega)⟩
theorem lenSetOf_N (ns : List Nat) (h : ns.length ≤ 1000) : lenSetOf (.tuple (ns.map encN)) = .ok (.int (ddp (ns.map fun n : Nat => (n : Int))).length) := by
  simp only [lenSetOf, intsT_N, List.length_map, if_pos h]
theorem unlike_no (d : PyData) (m : Int) (h : nxc d = true) (ht : PV.isTup d = false) : m_are_unlike [d, .int m] = .ok (.bool false) := by
  refine fn_rt rfl ?_
  simp [g_are_unlike, h, ht]
theorem unlike_bad (ds : List PyData) (m : Nat) (hn : ∀ d ∈ ds, nxc d = true) (hb : ∃ d ∈ ds, wn 0 ((m : Int) - 1) d = false) : m_are_unlike [.tuple ds, .int (m : Nat)] = .ok (.bool false) := by
  refine fn_rt rfl ?_
  simp [g_are_unlike]
  refine for_find id ds (fun d => !wn 0 ((m : Int) - 1) d) (fun _ => .bool false) (fun _ env => ∃ j, env = [some (.tuple ds), some (.int (m : Nat)), j]) (by simp) ⟨none, rfl⟩ ?_ ?_ ?_
  · rintro ys d zs env e ⟨j, rfl⟩
    have hd : d ∈ ds := e ▸ by simp
    have w := within_gen d 0 ((m : Int) - 1) (hn d hd)
    refine ⟨[some (.tuple ds), some (.int (m : Nat)), some d], by simp, fun h => ?_, fun h => ?_⟩
    · have h' : wn 0 ((m : Int) - 1) d = false := by simpa using h
      rw [h'] at w
      simp [w]
    · have h' : wn 0 ((m : Int) - 1) d = true := by simpa using h
      rw [h'] at w
      simp [w]
  · intro x _
    rfl
  · intro e
    obtain ⟨d, hd, hw⟩ := hb
    have := (find_all _ _).mp e d hd
    simp [hw] at this
theorem unlike_ok (ns : List Nat) (m : Nat) (hm : ∀ x ∈ ns, x < m) (hl : ns.length ≤ 1000) : m_are_unlike [encTN ns, .int (m : Nat)] = .ok (.bool (decide ns.Nodup)) := by
  refine fn_rt rfl ?_
  have ls := lenSetOf_N ns hl
  simp [g_are_unlike]
  refine for_pre encN ns (fun _ env => ∃ j, env = [some (encTN ns), some (.int (m : Nat)), j]) (by simp [encT]) ⟨none, rfl⟩ ?_ ?_
  · rintro ys x zs env e ⟨j, rfl⟩
    have hx := hm x (e ▸ by simp)
    have w := within_gen (encN x) 0 ((m : Int) - 1) rfl
    have w' : wn 0 ((m : Int) - 1) (encN x) = true := by simp [wn, encN]; omega
    rw [w'] at w
    simp [w]
  · rintro env ⟨j, rfl⟩
    simp [encT, ls]
    have a := ddp_nd (ns.map fun n : Nat => (n : Int))
    rw [nd_ofNat, List.length_map] at a
    by_cases h : ns.Nodup
    · simp [h, a.mpr h]
    · have b : ¬ (ddp (ns.map fun n : Nat => (n : Int))).length = ns.length := fun z => h (a.mp z)
      simp [h]
      exact b
/-! ### wishes -/
def GoodW (n : Nat) (d : PyData) : Prop := ∃ w, d = encTN w ∧ w.Perm (List.range n)
def BadW (n : Nat) (d : PyData) : Prop := m_are_unlike [d, .int (n : Nat)] = .ok (.bool false) ∨ ∃ w : List Nat, d = encTN w ∧ w.length ≠ n ∧ m_are_unlike [d, .int (n : Nat)] = .ok (.bool true)
theorem perm_range {n : Nat} {w : List Nat} (h : w.Perm (List.range n)) : w.Nodup ∧ (∀ x ∈ w, x < n) ∧ w.length = n :=
  ⟨h.nodup_iff.mpr List.nodup_range, fun x hx => List.mem_range.mp (h.mem_iff.mp hx), by simpa using h.length_eq⟩
theorem good_unlike {n : Nat} {w : List Nat} (h : w.Perm (List.range n)) (hn : n ≤ 1000) : m_are_unlike [encTN w, .int (n : Nat)] = .ok (.bool true) := by
  obtain ⟨a, b, c⟩ := perm_range h
  rw [unlike_ok w n b (by omega)]
  simp [a]
theorem market_no (d : PyData) (h : nxc d = true) (ht : PV.isTup d = false) : m_checked_market [d] = .exc 3 .none := by
  refine fn_exP rfl ?_
  simp [g_checked_market, h, ht]
theorem market_len (ds : List PyData) (h : ds.length = 0 ∨ 5 < ds.length) : m_checked_market [.tuple ds] = .exc 3 .none := by
  refine fn_exP rfl ?_
  by_cases h1 : 1 ≤ ds.length
  · have h5 : ¬ ds.length ≤ 5 := by omega
    simp [g_checked_market, show (1 : Int) ≤ ds.length by omega, show ¬ (ds.length : Int) ≤ 5 by omega]
  · simp [g_checked_market, show ¬ (1 : Int) ≤ ds.length by omega]
theorem market_bad (ds : List PyData) (h1 : 1 ≤ ds.length) (h5 : ds.length ≤ 5) (hc : ∀ d ∈ ds, GoodW ds.length d ∨ BadW ds.length d) (hb : ∃ d ∈ ds, ¬ GoodW ds.length d) : m_checked_market [.tuple ds] = .exc 3 .none := by
  refine fn_exP rfl ?_
  show ExP 3 _
  simp [g_checked_market, show (1 : Int) ≤ ds.length by omega, show (ds.length : Int) ≤ 5 by omega]
  refine for_stopP (P := ExP 3) id ds (fun ys env => ∃ j, env = [some (.tuple ds), j] ∧ ∀ d ∈ ys, GoodW ds.length d) (by simp) ⟨none, rfl, fun _ z => nomatch z⟩ ?_ ?_
  · rintro ys d zs env e ⟨j, rfl, hy⟩
    have hd : d ∈ ds := e ▸ by simp
    refine ⟨[some (.tuple ds), some d], by simp, ?_⟩
    rcases hc d hd with ⟨w, rfl, hw⟩ | hbad | ⟨w, rfl, hl, hu⟩
    · left
      have u := good_unlike hw (by omega)
      refine ⟨[some (.tuple ds), some (encTN w)], ?_, _, rfl, fun x hx => ?_⟩
      · have gl : gLen [encTN w] = some (.int (ds.length : Nat)) := by simp [encT, (perm_range hw).2.2]
        simp [u, gl]
      · rcases List.mem_append.mp hx with hx | hx
        · exact hy x hx
        · rw [List.mem_singleton.mp hx]; exact ⟨w, rfl, hw⟩
    · right
      simp [hbad, isStop]
      exact ⟨_, rfl⟩
    · right
      have gl : gLen [encTN w] = some (.int (w.length : Nat)) := by simp [encT]
      simp [hu, gl, isStop, hl]
      exact ⟨_, rfl⟩
  · rintro env ⟨j, rfl, hy⟩
    obtain ⟨d, hd, hn⟩ := hb
    exact absurd (hy d hd) hn
section
variable {W : List (List Nat)} (M : Mkt W)
include M
theorem market_ok : m_checked_market [encM W] = .ok (encM W) := by
  have w1 := M.w1
  have w5 := M.w5
  refine fn_rt rfl ?_
  have gl : gLen [encM W] = some (.int (W.length : Nat)) := by simp [encT]
  have fl : flat (encM W) = true := by simp only [encT, flat_t]; exact flatL_map flat_encTN W
  have nx : nxc (encM W) = true := rfl
  have it : PV.isTup (encM W) = true := rfl
  simp [g_checked_market, gl, nx, it, show (1 : Int) ≤ W.length by omega, show (W.length : Int) ≤ 5 by omega]
  refine for_pre encTN W (fun _ env => ∃ j, env = [some (encM W), j]) (by simp [encT]) ⟨none, rfl⟩ ?_ ?_
  · rintro ys w zs env e ⟨j, rfl⟩
    have hw := M.pm w (e ▸ by simp)
    have u := good_unlike hw (by omega)
    have gl2 : gLen [encTN w] = some (.int (W.length : Nat)) := by simp [encT, (perm_range hw).2.2]
    simp [u, gl, gl2]
  · rintro env ⟨j, rfl⟩
    simp [fl]
theorem fair_deal_eq : ∃ L rs, L.length = W.length ∧ TD W (List.range W.length) rs ∧ m_rounds [encM W] = .ok (.list (rs.map encRing)) ∧ Agr (fun o => L.getD o 0) rs ∧ m_fair_deal [encM W] = .ok (encTN L) := by
  obtain ⟨L, rs, a, b, c, d, e⟩ := deal_of_eq M
  refine ⟨L, rs, a, b, c, d, fn_rt rfl ?_⟩
  simp [g_fair_deal, market_ok M, e]
end
end MT

set_option Elab.async false
set_option linter.all false
set_option maxRecDepth 100000
namespace MT
open PySem PySem.Spec L2 PV GS MA
open PyProof.Rows hiding St
def frzE : PyData → Res PyData
  | .list _ => .ok olD
  | _ => .bad
@[simp] theorem eFrz_e (f env) : eFrz f env = (f env).bind frzE := nr rfl
@[simp] theorem frzE_l (l) : frzE (.list l) = .ok olD := nr rfl
theorem flat_olE : flat olD = true := by rw [flat]; rfl
@[simp] theorem sRaiseAt_d (f env) : sRaiseAt f env = (f env).out env fun x => if flat x then .ex env 0 x else .bad := nr rfl
/-- raised with its place -/
def ExAtP (x : PyData) (o : Out) : Prop := ∃ e, o = .ex e 0 x
theorem for_run {α : Type} {src : Lo → Res (List PyData)} {tgt : PyData → Lo → Option Lo} {body rest : Lo → Out} {env : Lo} (P : Out → Prop) (enc : α → PyData) (xs : List α) (R : Lo → Prop) (hsrc : src env = .ok (xs.map enc)) (h0 : R env)
    (hs : ∀ x ∈ xs, ∀ env, R env → ∃ env1, tgt (enc x) env = some env1 ∧ ∃ env2, body env1 = .nx env2 ∧ R env2)
    (hk : ∀ env', R env' → P (rest env')) : P ((sFor src tgt body env).seq rest) :=
  for_stopP P enc xs (fun _ => R) hsrc h0 (fun ys x zs env e h => by
    obtain ⟨env1, a, b⟩ := hs x (e ▸ by simp) env h
    exact ⟨env1, a, .inl b⟩) hk
theorem zip_at {xs : List PyData} {ys zs : List (PyData × Nat)} {q : PyData × Nat} (e : xs.zipIdx 0 = ys ++ q :: zs) : q.2 = ys.length ∧ xs[ys.length]? = some q.1 := by
  have h : (xs.zipIdx 0)[ys.length]? = some q := by rw [e]; simp
  rw [List.getElem?_zipIdx] at h
  cases h1 : xs[ys.length]? with
  | none => rw [h1] at h; cases h
  | some d =>
    rw [h1] at h
    simp at h
    rw [← h]
    simp
theorem enumD_id (xs : List PyData) : enumD xs 0 = (xs.zipIdx 0).map fun q => .tuple [.int (q.2 : Nat), q.1] := by
  have := enumD_map id xs 0
  simpa using this
/-! ### is_frame -/
theorem part_ok (ws : List PyData) (h1 : 1 ≤ ws.length) (h5 : ws.length ≤ 5) : (1 : Int) ≤ ws.length ∧ (ws.length : Int) ≤ 5 := by omega
theorem frame_gen (ws hs : List PyData) (w1 : 1 ≤ ws.length) (w5 : ws.length ≤ 5) (r1 : 1 ≤ hs.length) (r5 : hs.length ≤ 5) : m_is_frame [.tuple [.tuple ws, .tuple hs]] = .ok (.bool true) := by
  refine fn_rt rfl ?_
  simp [g_is_frame]
  refine for_run (P := fun o => o = .rt (.bool true)) id [PyData.tuple ws, .tuple hs] (fun env => ∃ j, env = [some (.tuple [.tuple ws, .tuple hs]), j]) (by simp) ⟨none, rfl⟩ ?_ ?_
  · rintro x hx env ⟨j, rfl⟩
    refine ⟨_, by simp; rfl, ?_⟩
    simp only [List.mem_cons, List.not_mem_nil, or_false] at hx
    rcases hx with rfl | rfl
    · simp [show (1 : Int) ≤ ws.length by omega, show (ws.length : Int) ≤ 5 by omega]
    · simp [show (1 : Int) ≤ hs.length by omega, show (hs.length : Int) ≤ 5 by omega]
  · rintro env ⟨j, rfl⟩
    simp
theorem frame_no (d : PyData) (h : nxc d = true) (ht : PV.isTup d = false) : m_is_frame [d] = .ok (.bool false) := by
  refine fn_rt rfl ?_
  simp [g_is_frame, h, ht]
theorem frame_len (ds : List PyData) (h : ds.length ≠ 2) : m_is_frame [.tuple ds] = .ok (.bool false) := by
  refine fn_rt rfl ?_
  have e : ¬ (ds.length : Int) = 2 := by omega
  simp [g_is_frame, e]
/-- no part of a fair -/
def BadP (d : PyData) : Prop := (nxc d = true ∧ PV.isTup d = false) ∨ ∃ ds, d = .tuple ds ∧ (ds.length = 0 ∨ 5 < ds.length)
def GoodP (d : PyData) : Prop := ∃ ds, d = .tuple ds ∧ 1 ≤ ds.length ∧ ds.length ≤ 5
theorem frame_bad (a b : PyData) (h : (BadP a) ∨ (GoodP a ∧ BadP b)) : m_is_frame [.tuple [a, b]] = .ok (.bool false) := by
  refine fn_rt rfl ?_
  simp [g_is_frame]
  refine for_stopP (P := fun o => o = .rt (.bool false)) id [a, b] (fun ys env => (∃ j, env = [some (.tuple [a, b]), j]) ∧ ∀ d ∈ ys, GoodP d) (by simp) ⟨⟨none, rfl⟩, by simp⟩ ?_ ?_
  · rintro ys d zs env e ⟨⟨j, rfl⟩, hy⟩
    refine ⟨[some (.tuple [a, b]), some d], by simp, ?_⟩
    have key : GoodP d ∨ BadP d := by
      rcases ys with _ | ⟨y, _ | ⟨y2, ys⟩⟩
      · simp at e
        rw [← e.1]
        rcases h with h | h
        · exact .inr h
        · exact .inl h.1
      · simp at e
        obtain ⟨rfl, rfl, _⟩ := e
        rcases h with h | h
        · exfalso
          obtain ⟨ds, e1, e2, e3⟩ := hy a (by simp)
          rcases h with ⟨_, h⟩ | ⟨ds', e4, h⟩
          · rw [e1] at h; cases h
          · rw [e1] at e4; cases e4; omega
        · exact .inr h.2
      · have := congrArg List.length e
        simp at this
    rcases key with ⟨ds, rfl, e2, e3⟩ | ⟨h1, h2⟩ | ⟨ds, rfl, h2⟩
    · left
      refine ⟨[some (.tuple [a, b]), some (.tuple ds)], ?_, ⟨_, rfl⟩, ?_⟩
      · simp [show (1 : Int) ≤ ds.length by omega, show (ds.length : Int) ≤ 5 by omega]
      · intro x hx
        rcases List.mem_append.mp hx with z | z
        · exact hy x z
        · rw [List.mem_singleton.mp z]; exact ⟨ds, rfl, e2, e3⟩
    · right
      simp [h1, h2, isStop]
    · right
      by_cases h3 : 1 ≤ ds.length
      · simp [show (1 : Int) ≤ ds.length by omega, show ¬ (ds.length : Int) ≤ 5 by omega, isStop]
      · simp [show ¬ (1 : Int) ≤ ds.length by omega, isStop]
  · rintro env ⟨⟨j, rfl⟩, hy⟩
    exfalso
    have bad : ∀ x, GoodP x → BadP x → False := by
      rintro x ⟨ds, rfl, e1, e2⟩ (⟨_, h⟩ | ⟨ds', h, h2⟩)
      · cases h
      · cases h; omega
    rcases h with h | h
    · exact bad a (hy a (by simp)) h
    · exact bad b (hy b (by simp)) h.2
/-! ### is_house -/
theorem house_no (d : PyData) (m : Int) (h : nxc d = true) (ht : PV.isTup d = false) : m_is_house [d, .int m] = .ok (.bool false) := by
  refine fn_rt rfl ?_
  simp [g_is_house, h, ht]
theorem house_len (ds : List PyData) (m : Int) (h : ds.length ≠ 2) : m_is_house [.tuple ds, .int m] = .ok (.bool false) := by
  refine fn_rt rfl ?_
  have e : ¬ (ds.length : Int) = 2 := by omega
  simp [g_is_house, e]
theorem house_gen (a b : PyData) (m : Int) (u : Bool) (ha : nxc a = true) (hb : m_are_unlike [b, .int m] = .ok (.bool u)) : m_is_house [.tuple [a, b], .int m] = .ok (.bool (wn 0 5 a && u)) := by
  have w := within_gen a 0 5 ha
  refine fn_rt rfl ?_
  simp [g_is_house, w, hb]
  cases wn 0 5 a <;> simp
/-! ### checked -/
section
variable {ws hs : List PyData} (w1 : 1 ≤ ws.length) (w5 : ws.length ≤ 5) (r1 : 1 ≤ hs.length) (r5 : hs.length ≤ 5)
include w1 w5 r1 r5
theorem checked_gen (P : Out → Prop) (bad : Nat → Bool) (hw : ∀ j, (h : j < ws.length) → m_are_unlike [ws[j], .int (hs.length : Nat)] = .ok (.bool (!bad j)))
    (hbad : ∀ j, j < ws.length → bad j = true → (∀ i, i < j → bad i = false) → ∀ e, P (.ex e 0 (.tuple [.str "guest", .int (j : Nat)])))
    (rest : ∀ j3 j4, (∀ j, j < ws.length → bad j = false) → P ((sSeq (sFor (iEnumD (eVar 2)) (tPair 5 6) (sSeq (sIf (tNotB (eT (eFn m_is_house (eCons (eVar 6) (eCons (eCall gLen (eCons (eVar 1) eNil)) eNil))))) (sSeq (sRaiseAt (eTup (eCons (eC (.str "house")) (eCons (eVar 5) eNil)))) .nx) .nx) .nx)) (sSeq (sRet (eFlat (eVar 0))) .nx)) [some (.tuple [.tuple ws, .tuple hs]), some (.tuple ws), some (.tuple hs), j3, j4, none, none])) :
    P (g_checked_k18 [some (.tuple [.tuple ws, .tuple hs]), none, none, none, none, none, none]) := by
  have fr := frame_gen ws hs w1 w5 r1 r5
  simp [g_checked_k18, fr]
  refine for_stopP (P := P) (fun q : PyData × Nat => .tuple [.int (q.2 : Nat), q.1]) (ws.zipIdx 0) (fun ys env => (∃ j3 j4, env = [some (.tuple [.tuple ws, .tuple hs]), some (.tuple ws), some (.tuple hs), j3, j4, none, none]) ∧ ∀ j, j < ys.length → bad j = false) (by simp [enumD_id]) ⟨⟨none, none, rfl⟩, by simp⟩ ?_ ?_
  · rintro ys q zs env e ⟨⟨j3, j4, rfl⟩, hy⟩
    obtain ⟨e1, e2⟩ := zip_at e
    obtain ⟨hl, e3⟩ := List.getElem?_eq_some_iff.mp e2
    have u := hw ys.length hl
    rw [e3] at u
    refine ⟨[some (.tuple [.tuple ws, .tuple hs]), some (.tuple ws), some (.tuple hs), some (.int (q.2 : Nat)), some q.1, none, none], by simp, ?_⟩
    cases hb : bad ys.length
    · rw [hb] at u
      left
      refine ⟨[some (.tuple [.tuple ws, .tuple hs]), some (.tuple ws), some (.tuple hs), some (.int (q.2 : Nat)), some q.1, none, none], by simp [u], ⟨_, _, rfl⟩, fun j hj => ?_⟩
      simp at hj
      rcases Nat.lt_or_ge j ys.length with z | z
      · exact hy j z
      · obtain rfl : j = ys.length := by omega
        exact hb
    · rw [hb] at u
      right
      simp [u, isStop, e1]
      exact hbad ys.length hl hb hy _
  · rintro env ⟨⟨j3, j4, rfl⟩, hy⟩
    have := rest j3 j4 (fun j hj => hy j (by simpa using hj))
    simpa using this
end
end MT

set_option Elab.async false
set_option linter.all false
set_option maxRecDepth 100000
namespace MT
open PySem PySem.Spec L2 PV GS MA
open PyProof.Rows hiding St
theorem checked_frame (d : PyData) (h : m_is_frame [d] = .ok (.bool false)) : m_checked_k18 [d] = .exc 0 .none := by
  refine fn_exP rfl ?_
  simp [g_checked_k18, h]
section
variable {ws hs : List PyData} (w1 : 1 ≤ ws.length) (w5 : ws.length ≤ 5) (r1 : 1 ≤ hs.length) (r5 : hs.length ≤ 5)
include w1 w5 r1 r5
theorem houses_gen (P : Out → Prop) (bad : Nat → Bool) (j3 j4 : Option PyData) (hh : ∀ j, (h : j < hs.length) → m_is_house [hs[j], .int (ws.length : Nat)] = .ok (.bool (!bad j)))
    (hbad : ∀ j, j < hs.length → bad j = true → (∀ i, i < j → bad i = false) → ∀ e, P (.ex e 0 (.tuple [.str "house", .int (j : Nat)])))
    (rest : (∀ j, j < hs.length → bad j = false) → P (if flat (.tuple [.tuple ws, .tuple hs]) then .rt (.tuple [.tuple ws, .tuple hs]) else .bad)) :
    P ((sSeq (sFor (iEnumD (eVar 2)) (tPair 5 6) (sSeq (sIf (tNotB (eT (eFn m_is_house (eCons (eVar 6) (eCons (eCall gLen (eCons (eVar 1) eNil)) eNil))))) (sSeq (sRaiseAt (eTup (eCons (eC (.str "house")) (eCons (eVar 5) eNil)))) .nx) .nx) .nx)) (sSeq (sRet (eFlat (eVar 0))) .nx)) [some (.tuple [.tuple ws, .tuple hs]), some (.tuple ws), some (.tuple hs), j3, j4, none, none]) := by
  simp only [sSeq_d]
  refine for_stopP (P := P) (fun q : PyData × Nat => .tuple [.int (q.2 : Nat), q.1]) (hs.zipIdx 0) (fun ys env => (∃ j5 j6, env = [some (.tuple [.tuple ws, .tuple hs]), some (.tuple ws), some (.tuple hs), j3, j4, j5, j6]) ∧ ∀ j, j < ys.length → bad j = false) (by simp [enumD_id]) ⟨⟨none, none, rfl⟩, by simp⟩ ?_ ?_
  · rintro ys q zs env e ⟨⟨j5, j6, rfl⟩, hy⟩
    obtain ⟨e1, e2⟩ := zip_at e
    obtain ⟨hl, e3⟩ := List.getElem?_eq_some_iff.mp e2
    have u := hh ys.length hl
    rw [e3] at u
    refine ⟨[some (.tuple [.tuple ws, .tuple hs]), some (.tuple ws), some (.tuple hs), j3, j4, some (.int (q.2 : Nat)), some q.1], by simp, ?_⟩
    cases hb : bad ys.length
    · rw [hb] at u
      left
      refine ⟨[some (.tuple [.tuple ws, .tuple hs]), some (.tuple ws), some (.tuple hs), j3, j4, some (.int (q.2 : Nat)), some q.1], by simp [u], ⟨_, _, rfl⟩, fun j hj => ?_⟩
      simp at hj
      rcases Nat.lt_or_ge j ys.length with z | z
      · exact hy j z
      · obtain rfl : j = ys.length := by omega
        exact hb
    · rw [hb] at u
      right
      simp [u, isStop, e1]
      exact hbad ys.length hl hb hy _
  · rintro env ⟨⟨j5, j6, rfl⟩, hy⟩
    have h := rest (fun j hj => hy j (by simpa using hj))
    by_cases f : flat (.tuple [.tuple ws, .tuple hs]) = true
    · rw [if_pos f] at h
      simpa [f] using h
    · have f : flat (.tuple [.tuple ws, .tuple hs]) = false := by simpa using f
      rw [f] at h
      simp only [Bool.false_eq_true, if_false] at h
      have e : sSeq (sRet (eFlat (eVar 0))) Out.nx [some (.tuple [.tuple ws, .tuple hs]), some (.tuple ws), some (.tuple hs), j3, j4, j5, j6] = .bad := by
        rw [sSeq_d, sRet_d, eFlat_d, eVar_d]
        simp only [List.getElem?_cons_zero, bind_ok, f]
        rfl
      rw [← e] at h
      exact h
theorem checked_guest (i : Nat) (hi : i < ws.length) (hg : ∀ j, (h : j < ws.length) → j ≠ i → m_are_unlike [ws[j], .int (hs.length : Nat)] = .ok (.bool true)) (hb : m_are_unlike [ws[i], .int (hs.length : Nat)] = .ok (.bool false)) :
    m_checked_k18 [.tuple [.tuple ws, .tuple hs]] = .exc 0 (.tuple [.str "guest", .int (i : Nat)]) := by
  refine fn_exP rfl ?_
  refine checked_gen w1 w5 r1 r5 (P := fun o => ∃ e, o = .ex e 0 (.tuple [.str "guest", .int (i : Nat)])) (fun j => decide (j = i)) (fun j hj => ?_) (fun j hj hb _ e => ?_) fun j3 j4 h => ?_
  · by_cases e : j = i
    · subst e; simpa using hb
    · simpa [e] using hg j hj e
  · simp at hb; subst hb; exact ⟨_, rfl⟩
  · have := h i hi
    simp at this
theorem checked_house (i : Nat) (hi : i < hs.length) (hg : ∀ j, (h : j < ws.length) → m_are_unlike [ws[j], .int (hs.length : Nat)] = .ok (.bool true)) (bad : Nat → Bool) (hh : ∀ j, (h : j < hs.length) → m_is_house [hs[j], .int (ws.length : Nat)] = .ok (.bool (!bad j)))
    (hb : bad i = true) (hb2 : ∀ j, j < i → bad j = false) : m_checked_k18 [.tuple [.tuple ws, .tuple hs]] = .exc 0 (.tuple [.str "house", .int (i : Nat)]) := by
  refine fn_exP rfl ?_
  refine checked_gen w1 w5 r1 r5 (P := fun o => ∃ e, o = .ex e 0 (.tuple [.str "house", .int (i : Nat)])) (fun _ => false) (fun j hj => hg j hj) (fun j hj hb _ e => nomatch hb) fun j3 j4 h => ?_
  refine houses_gen w1 w5 r1 r5 (P := fun o => ∃ e, o = .ex e 0 (.tuple [.str "house", .int (i : Nat)])) bad j3 j4 hh (fun j hj h1 h2 e => ?_) fun h => ?_
  · rcases Nat.lt_trichotomy j i with z | z | z
    · rw [hb2 j z] at h1; cases h1
    · subst z; exact ⟨_, rfl⟩
    · rw [h2 i z] at hb; cases hb
  · rw [h i hi] at hb; cases hb
theorem checked_good (hg : ∀ j, (h : j < ws.length) → m_are_unlike [ws[j], .int (hs.length : Nat)] = .ok (.bool true)) (hh : ∀ j, (h : j < hs.length) → m_is_house [hs[j], .int (ws.length : Nat)] = .ok (.bool true)) (fl : flat (.tuple [.tuple ws, .tuple hs]) = true) :
    m_checked_k18 [.tuple [.tuple ws, .tuple hs]] = .ok (.tuple [.tuple ws, .tuple hs]) := by
  refine fn_rt rfl ?_
  refine checked_gen w1 w5 r1 r5 (P := fun o => o = .rt (.tuple [.tuple ws, .tuple hs])) (fun _ => false) (fun j hj => hg j hj) (fun j hj hb _ e => nomatch hb) fun j3 j4 h => ?_
  refine houses_gen w1 w5 r1 r5 (P := fun o => o = .rt (.tuple [.tuple ws, .tuple hs])) (fun _ => false) j3 j4 hh (fun j hj h1 h2 e => nomatch h1) fun h => ?_
  rw [if_pos fl]
end
section
variable {F : Fair} (ok : F.Ok)
include ok
theorem wish_good (w : List Nat) (hw : w ∈ F.W) : m_are_unlike [encTN w, .int (F.R.length : Nat)] = .ok (.bool true) := by
  have r5 := ok.r5
  obtain ⟨a, b⟩ := ok.w w hw
  have u := unlike_ok w F.R.length b (by have := nodup_len a b; omega)
  rwa [decide_eq_true a] at u
theorem row_good (p : Nat × List Nat) (hp : p ∈ F.R) : m_are_unlike [encTN p.2, .int (F.W.length : Nat)] = .ok (.bool true) := by
  have w5 := ok.w5
  obtain ⟨_, a, b⟩ := ok.r p hp
  have u := unlike_ok p.2 F.W.length b (by have := nodup_len a b; omega)
  rwa [decide_eq_true a] at u
theorem house_good (p : Nat × List Nat) (hp : p ∈ F.R) : m_is_house [encR p, .int (F.W.length : Nat)] = .ok (.bool true) := by
  have u := house_gen (encN p.1) (encTN p.2) F.W.length true rfl (row_good ok p hp)
  have w' : wn 0 5 (encN p.1) = true := by have := (ok.r p hp).1; simp [wn, encN]; omega
  rw [w'] at u
  exact u
theorem fair_flat : flat (encF F) = true := by
  have a : flatL (F.W.map encTN) = true := flatL_map flat_encTN F.W
  have b : flatL (F.R.map encR) = true := flatL_map (fun p => by simp [encR, encP, encN, encT, flatL_map flat_encN]) F.R
  simp [encF, encT, a, b]
theorem checked_fair : m_checked_k18 [encF F] = .ok (encF F) := by
  have w1 := ok.w1
  have w5 := ok.w5
  have r1 := ok.r1
  have r5 := ok.r5
  refine checked_good (ws := F.W.map encTN) (hs := F.R.map encR) (by simpa) (by simpa) (by simpa) (by simpa) (fun j h => ?_) (fun j h => ?_) (fair_flat ok)
  · simp only [List.getElem_map, List.length_map]
    exact wish_good ok _ (List.getElem_mem _)
  · simp only [List.getElem_map, List.length_map]
    exact house_good ok _ (List.getElem_mem _)
end
/-! ### told -/
theorem told_ok (d d' : PyData) (h : m_checked_k18 [d] = .ok d') : m_law_told_k01 [d] = .ok (.tuple [.list [], .int 0]) := by
  refine fn_rt rfl ?_
  simp only [g_law_told_k01, sSeq_d]
  simp
  rw [try_ok (o := .nx [some d, some (.int 0), some (.list []), none])]
  · simp
  · simp [h]
  · intro e c x z; cases z
theorem told_exc (d x : PyData) (h : m_checked_k18 [d] = .exc 0 x) (hx : atOk x = true) (hf : flat x = true) : m_law_told_k01 [d] = .ok (.tuple [.list [.bool true, .bool true], x]) := by
  refine fn_rt rfl ?_
  simp only [g_law_told_k01, sSeq_d]
  simp
  rw [try_ex (env' := [some d, some (.int 0), some (.list []), none]) (c := 0) (x := x) (o := .nx [some d, some x, some (.list [.bool true, .bool true]), none])]
  · simp [hf]
  · simp [h]
  · simp [hx]
  · rfl
  · intro a e
    have i0 : dIx0 (.list [.bool true, .bool true]) (.int 0) = some (.bool true) := rfl
    have fa : fldAt (.dict (hdl 0 a e x)) = some x := rfl
    have ea : ∀ env : Lo, eAt 0 a e (eVar 3) env = (eVar 3 env).bind fun v => if isHd 0 a e v then .of (fldAt v) else .bad := fun env => rfl
    simp [isHd_hdl, PV.under, fin, i0, ea, fa]
end MT

set_option Elab.async false
set_option linter.all false
set_option maxRecDepth 100000
namespace MT
open PySem PySem.Spec L2 PV GS MA
open PyProof.Rows hiding St
section
variable {F : Fair} (ok : F.Ok)
include ok
theorem wf_W : flat (.tuple (F.W.map encTN)) = true := by
  rw [flat_t]; exact flatL_map flat_encTN F.W
theorem wf_R : flat (.tuple (F.R.map encR)) = true := by
  rw [flat_t]; exact flatL_map (fun p => by simp [encR, encP, encN, encT, flatL_map flat_encN]) F.R
theorem frame_k01 (way : Int) : ∃ d, m_law_frame [encF F, .int way] = .ok d ∧ m_is_frame [d] = .ok (.bool false) := by
  have w1 := ok.w1
  have w5 := ok.w5
  have r1 := ok.r1
  have r5 := ok.r5
  have fw := wf_W ok
  have fr := wf_R ok
  have e0 : encF F = .tuple [.tuple (F.W.map encTN), .tuple (F.R.map encR)] := rfl
  rw [e0]
  have gw : GoodP (.tuple (F.W.map encTN)) := ⟨_, rfl, by simpa, by simpa⟩
  obtain ⟨A, hA⟩ : ∃ A, A = F.W.map encTN := ⟨_, rfl⟩
  obtain ⟨B, hB⟩ : ∃ B, B = F.R.map encR := ⟨_, rfl⟩
  rw [← hA] at fw gw
  rw [← hB] at fr
  rw [← hA, ← hB]
  have flA : flatL A = true := by rwa [flat_t] at fw
  have flB : flatL B = true := by rwa [flat_t] at fr
  have six : dRep (.tuple [.tuple []]) (.int 6) = some (.tuple (List.replicate 6 (.tuple []))) := by
    simp only [dRep]
    rw [if_pos ⟨by decide, by decide, by decide, by simp, by simp⟩]
    rfl
  have six2 : dRep (.tuple [.tuple [.int 0, .tuple []]]) (.int 6) = some (.tuple (List.replicate 6 (.tuple [.int 0, .tuple []]))) := by
    simp only [dRep]
    rw [if_pos ⟨by decide, by decide, by decide, by simp, by simp⟩]
    rfl
  obtain ⟨Z, hZ⟩ : ∃ Z : List PyData, Z = List.replicate 6 (.tuple []) := ⟨_, rfl⟩
  obtain ⟨Y, hY⟩ : ∃ Y : List PyData, Y = List.replicate 6 (.tuple [.int 0, .tuple []]) := ⟨_, rfl⟩
  have zl : Z.length = 6 := by rw [hZ]; simp
  have yl : Y.length = 6 := by rw [hY]; simp
  have fZ : flatL Z = true := by rw [hZ]; decide +kernel
  have fY : flatL Y = true := by rw [hY]; decide +kernel
  rw [← hZ] at six
  rw [← hY] at six2
  obtain ⟨k, ek, hk⟩ := emod_nat way 10 (by decide)
  have ek : way % 10 = k := ek
  obtain ⟨ends, hends⟩ : ∃ ends : List PyData, ends = [olD, .tuple [.tuple A], .tuple [olD, .tuple B], .tuple [.tuple A, olD], .tuple [.tuple [], .tuple B], .tuple [.tuple A, .tuple []], .tuple [.tuple Z, .tuple B], .tuple [.tuple A, .tuple Y], .none, .str "fair"] := ⟨_, rfl⟩
  have bad : ∀ d ∈ ends, m_is_frame [d] = .ok (.bool false) := by
    intro d hd
    rw [hends] at hd
    simp only [List.mem_cons, List.not_mem_nil, or_false] at hd
    rcases hd with rfl | rfl | rfl | rfl | rfl | rfl | rfl | rfl | rfl | rfl
    · exact frame_no _ rfl rfl
    · exact frame_len _ (by simp)
    · exact frame_bad _ _ (.inl (.inl ⟨rfl, rfl⟩))
    · exact frame_bad _ _ (.inr ⟨gw, .inl ⟨rfl, rfl⟩⟩)
    · exact frame_bad _ _ (.inl (.inr ⟨_, rfl, .inl rfl⟩))
    · exact frame_bad _ _ (.inr ⟨gw, .inr ⟨_, rfl, .inl rfl⟩⟩)
    · exact frame_bad _ _ (.inl (.inr ⟨_, rfl, .inr (by omega)⟩))
    · exact frame_bad _ _ (.inr ⟨gw, .inr ⟨_, rfl, .inr (by omega)⟩⟩)
    · exact frame_no _ rfl rfl
    · exact frame_no _ rfl rfl
  have el : k < ends.length := by rw [hends]; exact hk
  have eget : ends[k]? = some ends[k] := List.getElem?_eq_getElem el
  have ebad := bad _ (List.getElem_mem el)
  generalize ends[k] = d at eget ebad
  refine ⟨d, fn_rt rfl ?_, ebad⟩
  have gA : gListF [.tuple A] = some (.list A) := by simp [gListF, flA]
  have gB : gListF [.tuple B] = some (.list B) := by simp [gListF, flB]
  rw [hends] at eget
  simp only [g_law_frame]
  simp [gA, gB, flA, flB, flat_olE, six, six2, fZ, fY, ek, eget]
end
theorem wish_k01 (w : List Nat) (n : Nat) (way : Int) (hw : w.Nodup ∧ ∀ h ∈ w, h < n) (n1 : 1 ≤ n) (n5 : n ≤ 5) : ∃ d, m_law_wish [encTN w, .int (n : Nat), .int way] = .ok d ∧ m_are_unlike [d, .int (n : Nat)] = .ok (.bool false) ∧ flat d = true := by
  have wl : w.length ≤ 5 := by have := nodup_len hw.1 hw.2; omega
  have item : ∀ x : PyData, nxc x = true → wn 0 ((n : Int) - 1) x = false → m_are_unlike [.tuple (w.map encN ++ [x]), .int (n : Nat)] = .ok (.bool false) := fun x hx hw => by
    refine unlike_bad _ n (fun d hd => ?_) ⟨x, by simp, hw⟩
    rcases List.mem_append.mp hd with z | z
    · obtain ⟨a, _, rfl⟩ := List.mem_map.mp z
      rfl
    · simp at z; rw [z]; exact hx
  have fx : ∀ x : PyData, flat x = true → flat (.tuple (w.map encN ++ [x])) = true := fun x hx => by
    rw [flat_t, flatL_app, flatL_map flat_encN]; simp [hx]
  obtain ⟨k, ek, hk⟩ := emod_nat way 8 (by decide)
  have ek : way % 8 = k := ek
  obtain ⟨ends, hends⟩ : ∃ ends : List PyData, ends = [olD, .tuple (w.map encN ++ [.int (n : Nat)]), .tuple (w.map encN ++ [.int (-1)]), .tuple (w.map encN ++ [.bool true]), .tuple (w.map encN ++ [.str "0"]), .tuple [.int 0, .int 0], .none, .int 0] := ⟨_, rfl⟩
  have two : m_are_unlike [.tuple [.int 0, .int 0], .int (n : Nat)] = .ok (.bool false) := by
    have := unlike_ok [0, 0] n (by simp; omega) (by decide)
    simpa [encT, encN] using this
  have bad : ∀ d ∈ ends, m_are_unlike [d, .int (n : Nat)] = .ok (.bool false) ∧ flat d = true := by
    intro d hd
    rw [hends] at hd
    simp only [List.mem_cons, List.not_mem_nil, or_false] at hd
    rcases hd with rfl | rfl | rfl | rfl | rfl | rfl | rfl | rfl
    · exact ⟨unlike_no _ _ rfl rfl, flat_olE⟩
    · exact ⟨item _ rfl (by simp [wn]; omega), fx _ rfl⟩
    · exact ⟨item _ rfl (by simp [wn]), fx _ rfl⟩
    · exact ⟨item _ rfl rfl, fx _ rfl⟩
    · exact ⟨item _ rfl rfl, fx _ rfl⟩
    · exact ⟨two, by decide +kernel⟩
    · exact ⟨unlike_no _ _ rfl rfl, rfl⟩
    · exact ⟨unlike_no _ _ rfl rfl, rfl⟩
  have el : k < ends.length := by rw [hends]; exact hk
  have eget : ends[k]? = some ends[k] := List.getElem?_eq_getElem el
  have ebad := bad _ (List.getElem_mem el)
  generalize ends[k] = d at eget ebad
  refine ⟨d, fn_rt rfl ?_, ebad⟩
  have a1 : ∀ x, dAdd (encTN w) (.tuple [x]) = some (.tuple (w.map encN ++ [x])) := fun x => by
    simp only [encT, dAdd_t]; rw [if_pos (by simp; omega)]
  have gf : gListF [encTN w] = some (.list (w.map encN)) := by simp [gListF, flatL_map flat_encN, encT]
  rw [hends] at eget
  simp only [g_law_wish]
  simp [a1, gf, fx, flat_olE, ek, eget]
theorem house_k01 (p : Nat × List Nat) (n : Nat) (way : Int) (hp : p.1 ≤ 5) (hw : p.2.Nodup ∧ ∀ h ∈ p.2, h < n) (n1 : 1 ≤ n) (n5 : n ≤ 5) : ∃ d, m_law_house [encR p, .int (n : Nat), .int way] = .ok d ∧ m_is_house [d, .int (n : Nat)] = .ok (.bool false) ∧ flat d = true := by
  obtain ⟨r, w⟩ := p
  have wl : w.length ≤ 5 := by have := nodup_len hw.1 hw.2; simp at this; omega
  have uw : m_are_unlike [encTN w, .int (n : Nat)] = .ok (.bool true) := by
    have u := unlike_ok w n hw.2 (by omega)
    rwa [decide_eq_true hw.1] at u
  have item : ∀ x : PyData, nxc x = true → wn 0 ((n : Int) - 1) x = false → m_are_unlike [.tuple (w.map encN ++ [x]), .int (n : Nat)] = .ok (.bool false) := fun x hx hw => by
    refine unlike_bad _ n (fun d hd => ?_) ⟨x, by simp, hw⟩
    rcases List.mem_append.mp hd with z | z
    · obtain ⟨a, _, rfl⟩ := List.mem_map.mp z
      rfl
    · simp at z; rw [z]; exact hx
  have fx : ∀ x : PyData, flat x = true → flat (.tuple (w.map encN ++ [x])) = true := fun x hx => by
    rw [flat_t, flatL_app, flatL_map flat_encN]; simp [hx]
  have two : m_are_unlike [.tuple [.int 0, .int 0], .int (n : Nat)] = .ok (.bool false) := by
    have := unlike_ok [0, 0] n (by simp; omega) (by decide)
    simpa [encT, encN] using this
  have fw : flat (encTN w) = true := flat_encTN w
  have hn : ∀ a b : PyData, nxc a = true → wn 0 5 a = false → m_are_unlike [b, .int (n : Nat)] = .ok (.bool true) → m_is_house [.tuple [a, b], .int (n : Nat)] = .ok (.bool false) := fun a b h1 h2 h3 => by
    have := house_gen a b n true h1 h3
    rwa [h2] at this
  have hr : ∀ b : PyData, m_are_unlike [b, .int (n : Nat)] = .ok (.bool false) → m_is_house [.tuple [encN r, b], .int (n : Nat)] = .ok (.bool false) := fun b h3 => by
    have := house_gen (encN r) b n false rfl h3
    rwa [Bool.and_false] at this
  obtain ⟨k, ek, hk⟩ := emod_nat way 12 (by decide)
  have ek : way % 12 = k := ek
  obtain ⟨ends, hends⟩ : ∃ ends : List PyData, ends = [olD, .tuple [encN r], .tuple [.int 6, encTN w], .tuple [.int (-1), encTN w], .tuple [.bool true, encTN w], .tuple [.str "1", encTN w], .tuple [encN r, olD], .tuple [encN r, .tuple [.int 0, .int 0]], .tuple [encN r, .tuple (w.map encN ++ [.int (n : Nat)])], .tuple [encN r, .tuple (w.map encN ++ [.int (-1)])], .none, .tuple [encN r, encTN w, .int 0]] := ⟨_, rfl⟩
  have bad : ∀ d ∈ ends, m_is_house [d, .int (n : Nat)] = .ok (.bool false) ∧ flat d = true := by
    intro d hd
    rw [hends] at hd
    simp only [List.mem_cons, List.not_mem_nil, or_false] at hd
    rcases hd with rfl | rfl | rfl | rfl | rfl | rfl | rfl | rfl | rfl | rfl | rfl | rfl
    · exact ⟨house_no _ _ rfl rfl, flat_olE⟩
    · exact ⟨house_len _ _ (by simp), rfl⟩
    · exact ⟨hn _ _ rfl rfl uw, by simp [fw]⟩
    · exact ⟨hn _ _ rfl rfl uw, by simp [fw]⟩
    · exact ⟨hn _ _ rfl rfl uw, by simp [fw]⟩
    · exact ⟨hn _ _ rfl rfl uw, by simp [fw]⟩
    · exact ⟨hr _ (unlike_no _ _ rfl rfl), by simp [encN, flat_olE]⟩
    · exact ⟨hr _ two, by simp [encN]⟩
    · exact ⟨hr _ (item _ rfl (by simp [wn]; omega)), by simp [encN, flatL_app, flatL_map flat_encN]⟩
    · exact ⟨hr _ (item _ rfl (by simp [wn])), by simp [encN, flatL_app, flatL_map flat_encN]⟩
    · exact ⟨house_no _ _ rfl rfl, rfl⟩
    · exact ⟨house_len _ _ (by simp), by simp [encN, fw]⟩
  have el : k < ends.length := by rw [hends]; exact hk
  have eget : ends[k]? = some ends[k] := List.getElem?_eq_getElem el
  have ebad := bad _ (List.getElem_mem el)
  generalize ends[k] = d at eget ebad
  refine ⟨d, fn_rt rfl ?_, ebad⟩
  have a1 : ∀ x, dAdd (encTN w) (.tuple [x]) = some (.tuple (w.map encN ++ [x])) := fun x => by
    simp only [encT, dAdd_t]; rw [if_pos (by simp; omega)]
  have gf : gListF [encTN w] = some (.list (w.map encN)) := by simp [gListF, flatL_map flat_encN, encT]
  have fN : flat (encN r) = true := rfl
  rw [hends] at eget
  have e1 : encR (r, w) = .tuple [encN r, encTN w] := rfl
  rw [e1]
  simp only [g_law_house]
  simp [a1, gf, fx, fw, fN, flat_olE, ek, eget]
end MT

set_option Elab.async false
set_option linter.all false
set_option maxRecDepth 100000
namespace MT
open PySem PySem.Spec L2 PV GS MA
open PyProof.Rows hiding St
theorem flatL_setE {d : PyData} (hd : flat d = true) : ∀ {ds : List PyData} (i : Nat), flatL ds = true → flatL (ds.set i d) = true
  | [], _, _ => rfl
  | x :: xs, 0, h => by
    rw [flatL_cons] at h
    simp only [Bool.and_eq_true] at h
    rw [List.set_cons_zero, flatL_cons, hd, h.2]; rfl
  | x :: xs, i + 1, h => by
    rw [flatL_cons] at h
    simp only [Bool.and_eq_true] at h
    rw [List.set_cons_succ, flatL_cons, h.1, flatL_setE hd i h.2]; rfl
theorem good_Se {s : Str} (h : PyData.strOk s = true) : Good 0 (fun _ : Unit => PyData.str s) := ⟨fun a => by simp [PyData.canLay0, h], fun a => by simp [PyData.depth], fun a b => by simp [PyData.eqv]⟩
section
variable {F : Fair} (ok : F.Ok)
include ok
theorem bad_k01 (ns : List Int) : ∃ d x, m_law_bad [encF F, scrD ns] = .ok (.tuple [d, x]) ∧ m_checked_k18 [d] = .exc 0 x ∧ atOk x = true ∧ flat d = true ∧ flat x = true ∧ (∃ s i, x = .tuple [.str s, .int i] ∧ PyData.strOk s = true) := by
  have w1 := ok.w1
  have w5 := ok.w5
  have r1 := ok.r1
  have r5 := ok.r5
  have c1 : m_law_cell [scrD ns, .int 1] = .ok (.int (cell ns 1)) := cell_eq ns 1
  have c2 : m_law_cell [scrD ns, .int 2] = .ok (.int (cell ns 2)) := cell_eq ns 2
  have c3 : m_law_cell [scrD ns, .int 3] = .ok (.int (cell ns 3)) := cell_eq ns 3
  have c4 : m_law_cell [scrD ns, .int 4] = .ok (.int (cell ns 4)) := cell_eq ns 4
  obtain ⟨i, ei, hi⟩ := emod_nat (cell ns 3) F.W.length (by omega)
  obtain ⟨j, ej, hj⟩ := emod_nat (cell ns 4) F.R.length (by omega)
  obtain ⟨dw, ew, bw, fw⟩ := wish_k01 F.W[i] F.R.length (cell ns 2) (ok.w _ (List.getElem_mem hi)) r1 r5
  have hp := ok.r _ (List.getElem_mem hj)
  have hg : ∀ k, (h : k < F.W.length) → m_are_unlike [encTN F.W[k], .int (F.R.length : Nat)] = .ok (.bool true) := fun k h => wish_good ok _ (List.getElem_mem h)
  have hh : ∀ k, (h : k < F.R.length) → m_is_house [encR F.R[k], .int (F.W.length : Nat)] = .ok (.bool true) := fun k h => house_good ok _ (List.getElem_mem h)
  obtain ⟨A, hA⟩ : ∃ A, A = F.W.map encTN := ⟨_, rfl⟩
  obtain ⟨B, hB⟩ : ∃ B, B = F.R.map encR := ⟨_, rfl⟩
  have flA : flatL A = true := by have := wf_W ok; rwa [flat_t, ← hA] at this
  have flB : flatL B = true := by have := wf_R ok; rwa [flat_t, ← hB] at this
  have e0 : encF F = .tuple [.tuple A, .tuple B] := by rw [hA, hB]; rfl
  rw [e0]
  have lA : A.length = F.W.length := by rw [hA]; simp
  have lB : B.length = F.R.length := by rw [hB]; simp
  have gA : gListF [.tuple A] = some (.list A) := by simp [gListF, flA]
  have gB : gListF [.tuple B] = some (.list B) := by simp [gListF, flB]
  have dm : dMod (.int (cell ns 3)) (.int (F.W.length : Nat)) = some (.int (i : Nat)) := by rw [dMod_i _ _ (by omega), ei]
  have dm2 : dMod (.int (cell ns 4)) (.int (F.R.length : Nat)) = some (.int (j : Nat)) := by rw [dMod_i _ _ (by omega), ej]
  have ixA : A[i]? = some (encTN F.W[i]) := by rw [hA]; simp [hi]
  have ixB : B[j]? = some (encR F.R[j]) := by rw [hB]; simp [hj]
  have pA : PV.putAt A (.int (i : Nat)) dw = some (A.set i dw) := putAt_nat _ _ _ (by omega)
  have pB : ∀ d, PV.putAt B (.int (j : Nat)) d = some (B.set j d) := fun d => putAt_nat _ _ _ (by omega)
  have fA : flatL (A.set i dw) = true := flatL_setE fw i flA
  have fB : ∀ d, flat d = true → flatL (B.set j d) = true := fun d h => flatL_setE h j flB
  have getA : ∀ k, (h : k < (A.set i dw).length) → k ≠ i → m_are_unlike [(A.set i dw)[k], .int (F.R.length : Nat)] = .ok (.bool true) := fun k h e => by
    have := hg k (by simpa [lA] using h)
    simpa [hA, Ne.symm e] using this
  have getAi : (A.set i dw)[i]'(by simp; omega) = dw := by simp
  have wA : (A.set i dw).length = F.W.length := by simp [lA]
  have wB : ∀ d, (B.set j d).length = F.R.length := fun d => by simp [lB]
  have dd : dDiv (.int (cell ns 2)) (.int 3) = some (.int (cell ns 2 / 3)) := by
    simp [dDiv]
  by_cases k1 : cell ns 1 % 2 = 0
  · by_cases k3 : cell ns 2 % 3 = 0
    · obtain ⟨dh, eh, bh, fh⟩ := house_k01 F.R[j] F.W.length (cell ns 2 / 3) hp.1 hp.2 w1 w5
      refine ⟨.tuple [.tuple (A.set i dw), .tuple (B.set j dh)], .tuple [.str "guest", .int (i : Nat)], fn_rt rfl ?_, ?_, rfl, ?_, rfl, _, _, rfl, by decide +kernel⟩
      · simp only [g_law_bad]
        simp [c1, c2, c3, c4, gA, gB, lA, lB, dm, dm2, ixA, ixB, k1, k3, ew, eh, dd, pA, pB, flA, flB, fw, fh]
      · exact checked_guest (by omega) (by omega) (by rw [wB]; omega) (by rw [wB]; omega) i (by omega) (fun k h e => by rw [wB]; exact getA k h e) (by rw [wB, getAi]; exact bw)
      · simp [fA, fB dh fh]
    · refine ⟨.tuple [.tuple (A.set i dw), .tuple B], .tuple [.str "guest", .int (i : Nat)], fn_rt rfl ?_, ?_, rfl, ?_, rfl, _, _, rfl, by decide +kernel⟩
      · simp only [g_law_bad]
        simp [c1, c2, c3, c4, gA, gB, lA, lB, dm, dm2, ixA, ixB, k1, k3, ew, pA, pB, flA, flB, fw]
      · exact checked_guest (by omega) (by omega) (by rw [lB]; omega) (by rw [lB]; omega) i (by omega) (fun k h e => by rw [lB]; exact getA k h e) (by rw [lB, getAi]; exact bw)
      · simp [fA, flB]
  · obtain ⟨dh, eh, bh, fh⟩ := house_k01 F.R[j] F.W.length (cell ns 2) hp.1 hp.2 w1 w5
    have allA : ∀ k, (h : k < A.length) → m_are_unlike [A[k], .int (F.R.length : Nat)] = .ok (.bool true) := fun k h => by
      have := hg k (by omega)
      simpa [hA] using this
    have getB : ∀ k, (h : k < (B.set j dh).length) → k ≠ j → m_is_house [(B.set j dh)[k], .int (F.W.length : Nat)] = .ok (.bool true) := fun k h e => by
      have := hh k (by simpa [lB] using h)
      simpa [hB, Ne.symm e] using this
    by_cases k5 : j + 1 < F.R.length ∧ cell ns 2 % 5 = 0
    · have pC : PV.putAt (B.set j dh) (.int (-1)) .none = some ((B.set j dh).set (F.R.length - 1) .none) := by
        have hx : ixN B.length (-1) = some (F.R.length - 1) := by
          rw [lB]
          simp [ixN]
          omega
        simp [PV.putAt, hx]
      have fC : flatL ((B.set j dh).set (F.R.length - 1) .none) = true := flatL_setE rfl _ (fB dh fh)
      have wC : ((B.set j dh).set (F.R.length - 1) .none).length = F.R.length := by simp [lB]
      refine ⟨.tuple [.tuple A, .tuple ((B.set j dh).set (F.R.length - 1) .none)], .tuple [.str "house", .int (j : Nat)], fn_rt rfl ?_, ?_, rfl, ?_, rfl, _, _, rfl, by decide +kernel⟩
      · simp only [g_law_bad]
        simp [c1, c2, c3, c4, gA, gB, lA, lB, dm, dm2, ixA, ixB, k1, eh, pA, pB, pC, flA, flB, fB dh fh, fh, k5.2, show (j : Int) + 1 < F.R.length by omega]
      · refine checked_house (by omega) (by omega) (by omega) (by omega) j (by omega) (fun k h => by rw [wC]; exact allA k h) (fun k => decide (k = j) || decide (k = F.R.length - 1)) (fun k h => ?_) (by simp) (fun k h => by simp; omega)
        rw [lA]
        by_cases e2 : k = F.R.length - 1
        · subst e2
          simpa using house_no .none F.W.length rfl rfl
        · by_cases e1 : k = j
          · subst e1
            simpa [Ne.symm e2] using bh
          · have := getB k (by simpa using h) e1
            simpa [e1, e2, Ne.symm e2, Ne.symm e1] using this
      · simp [flA, fC]
    · refine ⟨.tuple [.tuple A, .tuple (B.set j dh)], .tuple [.str "house", .int (j : Nat)], fn_rt rfl ?_, ?_, rfl, ?_, rfl, _, _, rfl, by decide +kernel⟩
      · simp only [g_law_bad]
        by_cases k6 : j + 1 < F.R.length
        · have k7 : ¬ cell ns 2 % 5 = 0 := fun z => k5 ⟨k6, z⟩
          simp [c1, c2, c3, c4, gA, gB, lA, lB, dm, dm2, ixA, ixB, k1, eh, pA, pB, flA, flB, fB dh fh, fh, k7, show (j : Int) + 1 < F.R.length by omega]
        · simp [c1, c2, c3, c4, gA, gB, lA, lB, dm, dm2, ixA, ixB, k1, eh, pA, pB, flA, flB, fB dh fh, fh, show ¬ (j : Int) + 1 < F.R.length by omega]
      · refine checked_house (by omega) (by omega) (by rw [wB]; omega) (by rw [wB]; omega) j (by rw [wB]; omega) (fun k h => by rw [wB]; exact allA k h) (fun k => decide (k = j)) (fun k h => ?_) (by simp) (fun k h => by simp; omega)
        rw [lA]
        by_cases e1 : k = j
        · subst e1
          simpa using bh
        · have := getB k h e1
          simpa [e1, Ne.symm e1] using this
      · simp [flA, fB dh fh]
end
theorem main_k01 (ns : List Int) (hl : ns.length ≤ 63) : m_law_k01 [scrD ns] = .ok (.bool true) := by
  obtain ⟨F, ok, e0⟩ := fair_eq ns 5 (by decide)
  have e0' : m_law_fair [scrD ns, .int 5] = .ok (encF F) := e0
  have c0 : m_law_cell [scrD ns, .int 0] = .ok (.int (cell ns 0)) := cell_eq ns 0
  have c1 : m_law_cell [scrD ns, .int 1] = .ok (.int (cell ns 1)) := cell_eq ns 1
  have ck := checked_fair ok
  have tk := told_ok _ _ ck
  have eqF : dEq (encF F) (encF F) = some (.bool true) := by
    have := dEq_of (good_P (good_T (good_T good_N)) (good_T (good_P good_N (good_T good_N)))) (by decide) (F.W, F.R) (F.W, F.R)
    rw [decide_eq_true rfl] at this
    exact this
  have eq0 : dEq (.tuple [.list [], .int 0]) (.tuple [.list [], .int 0]) = some (.bool true) := by rfl
  have eqN : dEq (.tuple [.list [.bool true, .bool true], .none]) (.tuple [.list [.bool true, .bool true], .none]) = some (.bool true) := by rfl
  have m4 : 0 ≤ cell ns 0 % 4 ∧ cell ns 0 % 4 < 4 := by omega
  refine fn_rt rfl ?_
  simp only [g_law_k01]
  by_cases k2 : cell ns 0 % 4 < 2
  · simp [e0', c0, k2, ck, tk, eqF, eq0]
  · by_cases k3 : cell ns 0 % 4 = 2
    · obtain ⟨d, o1, o2⟩ := frame_k01 ok (cell ns 1)
      have t := told_exc d .none (checked_frame d o2) rfl rfl
      simp [e0', c0, c1, k3, o1, t, eqN]
    · obtain ⟨d, x, o1, o2, o3, o4, o5, s, n, rfl, hs⟩ := bad_k01 ok ns
      have t := told_exc d _ o2 o3 o5
      have eqX : dEq (.tuple [.list [.bool true, .bool true], .tuple [.str s, .int n]]) (.tuple [.list [.bool true, .bool true], .tuple [.str s, .int n]]) = some (.bool true) := by
        have := dEq_of (good_P (good_L good_B) (good_P (good_Se hs) good_I)) (by decide) ([true, true], ((), n)) ([true, true], ((), n))
        rw [decide_eq_true rfl] at this
        exact this
      simp [e0', c0, c1, k2, k3, o1, t, o4, eqX]
end MT

set_option Elab.async false
set_option linter.all false
set_option maxRecDepth 100000
namespace LW
open PySem PySem.Spec L2 PV GS
open PyProof.Rows hiding St
def topS (i : Nat) : Stmt := PySem.Challenge.pw_lodgefair_k01_fairs.main.body.getD i (.Pass ⟨0, 0, 0, 0⟩)
abbrev s_is_within : Stmt := topS 5
theorem sc_is_within : FnScope ["thing", "low", "high"] ["thing", "low", "high"] (defScope s_is_within) := ⟨rfl, rfl, rfl, by decide +kernel, rfl, by decide +kernel, by decide +kernel⟩
abbrev s_are_unlike : Stmt := topS 6
theorem sc_are_unlike : FnScope ["thing", "many", "number"] ["thing", "many"] (defScope s_are_unlike) := ⟨rfl, rfl, rfl, by decide +kernel, rfl, by decide +kernel, by decide +kernel⟩
abbrev s_is_house : Stmt := topS 7
theorem sc_is_house : FnScope ["thing", "guests"] ["thing", "guests"] (defScope s_is_house) := ⟨rfl, rfl, rfl, by decide +kernel, rfl, by decide +kernel, by decide +kernel⟩
abbrev s_is_frame : Stmt := topS 8
theorem sc_is_frame : FnScope ["fair", "part"] ["fair"] (defScope s_is_frame) := ⟨rfl, rfl, rfl, by decide +kernel, rfl, by decide +kernel, by decide +kernel⟩
abbrev s_checked : Stmt := topS 9
theorem sc_checked : FnScope ["fair", "wishes", "houses", "guest", "wish", "number", "house"] ["fair"] (defScope s_checked) := ⟨rfl, rfl, rfl, by decide +kernel, rfl, by decide +kernel, by decide +kernel⟩
abbrev s_law_cell : Stmt := topS 11
theorem sc_law_cell : FnScope ["_law_script", "_law_k"] ["_law_script", "_law_k"] (defScope s_law_cell) := ⟨rfl, rfl, rfl, by decide +kernel, rfl, by decide +kernel, by decide +kernel⟩
abbrev s_law_mix : Stmt := topS 12
theorem sc_law_mix : FnScope ["_law_cell_here", "_law_prime", "_law_many"] ["_law_cell_here", "_law_prime", "_law_many"] (defScope s_law_mix) := ⟨rfl, rfl, rfl, by decide +kernel, rfl, by decide +kernel, by decide +kernel⟩
abbrev s_law_large : Stmt := topS 13
theorem sc_law_large : FnScope ["_law_script"] ["_law_script"] (defScope s_law_large) := ⟨rfl, rfl, rfl, by decide +kernel, rfl, by decide +kernel, by decide +kernel⟩
abbrev s_law_some : Stmt := topS 14
theorem sc_law_some : FnScope ["_law_seed", "_law_many", "_law_all_of_them", "_law_keys", "_law_row", "_law_k", "_law_key"] ["_law_seed", "_law_many", "_law_all_of_them"] (defScope s_law_some) := ⟨rfl, rfl, rfl, by decide +kernel, rfl, by decide +kernel, by decide +kernel⟩
abbrev s_law_fair : Stmt := topS 15
theorem sc_law_fair : FnScope ["_law_script", "_law_at", "_law_cell_here", "_law_guests", "_law_houses", "_law_full", "_law_wishes", "_law_k", "_law_rows", "_law_seed", "_law_beds"] ["_law_script", "_law_at"] (defScope s_law_fair) := ⟨rfl, rfl, rfl, by decide +kernel, rfl, by decide +kernel, by decide +kernel⟩
abbrev s_law_told : Stmt := topS 16
theorem sc_law_told : FnScope ["_law_fair_here", "_law_at", "_law_found", "e"] ["_law_fair_here"] (defScope s_law_told) := ⟨rfl, rfl, rfl, by decide +kernel, rfl, by decide +kernel, by decide +kernel⟩
abbrev s_law_frame : Stmt := topS 17
theorem sc_law_frame : FnScope ["_law_fair_here", "_law_way", "_law_wishes", "_law_houses", "_law_some_here"] ["_law_fair_here", "_law_way"] (defScope s_law_frame) := ⟨rfl, rfl, rfl, by decide +kernel, rfl, by decide +kernel, by decide +kernel⟩
abbrev s_law_wish : Stmt := topS 18
theorem sc_law_wish : FnScope ["_law_wish_here", "_law_houses", "_law_way", "_law_some_here"] ["_law_wish_here", "_law_houses", "_law_way"] (defScope s_law_wish) := ⟨rfl, rfl, rfl, by decide +kernel, rfl, by decide +kernel, by decide +kernel⟩
abbrev s_law_house : Stmt := topS 19
theorem sc_law_house : FnScope ["_law_house_here", "_law_guests", "_law_way", "_law_rooms", "_law_row", "_law_some_here"] ["_law_house_here", "_law_guests", "_law_way"] (defScope s_law_house) := ⟨rfl, rfl, rfl, by decide +kernel, rfl, by decide +kernel, by decide +kernel⟩
abbrev s_law_bad : Stmt := topS 20
theorem sc_law_bad : FnScope ["_law_fair_here", "_law_script", "_law_wishes", "_law_houses", "_law_way", "_law_guest", "_law_house_here"] ["_law_fair_here", "_law_script"] (defScope s_law_bad) := ⟨rfl, rfl, rfl, by decide +kernel, rfl, by decide +kernel, by decide +kernel⟩
abbrev s_law : Stmt := topS 21
theorem sc_law : FnScope ["_law_script", "_law_fair_here", "_law_way", "_law_bad_here", "_law_at"] ["_law_script"] (defScope s_law) := ⟨rfl, rfl, rfl, by decide +kernel, rfl, by decide +kernel, by decide +kernel⟩
section
variable {P : Program} {w : World} {K : PySem.W.Frag} {mg : Str → Option Value} {base : Heap} {ec : Nat → Addr}
abbrev s_bfi : Stmt := match topS 2 with | .ClassDef _ _ _ body _ _ _ _ _ _ _ => body.getD 0 (.Pass ⟨0, 0, 0, 0⟩) | _ => .Pass ⟨0, 0, 0, 0⟩
theorem sc_bfi : FnScope ["self", "at"] ["self", "at"] (defScope s_bfi) := ⟨rfl, rfl, rfl, by decide +kernel, rfl, by decide +kernel, by decide +kernel⟩
theorem v_bfi {f B C : Addr} {fd : FuncData} (F : Fun K "__init__" "BadFair.__init__" s_bfi f fd) (gF : mg "FairError" = some (.ref B)) (fe : FeC K B) (ox : OexC K C) (na : PySem.W.findIn K (.ref C) "at" = some none) : FnOk P w K mg base (L2.CX P w) 1 f fd ["self", "at"] (spInit K C) := by
  refine F.okX sc_bfi (fun vs H Q E h => ?_) (fun cdv A outer s H vs Q E hr h => ?_)
  · obtain ⟨a, y, e, _⟩ := h
    rw [e]
    rfl
  · obtain ⟨a, y, e, ha, q⟩ := h
    subst e
    exact ⟨_, pss_cons (ps_expr (pe_feinit (by rfl) gF fe (pa_cons (pv 0) (pa_cons pe_str pa_nil)))) (pss_one (ps_ost (pv 0) (pv 1))), bfi_reads rfl rfl ox na ha q⟩
theorem v_is_within {f : Addr} {fd : FuncData} (F : Fun K "is_within" "is_within" s_is_within f fd) (m_bool : mg "bool" = none) (m_int : mg "int" = none) (m_isinstance : mg "isinstance" = none) : FnOk P w K mg base (L2.CX P w) 1 f fd ["thing", "low", "high"] (spV K ec (mkFn 3 3 g_is_within)) := by
  refine fn_v (k := 0) (g := g_is_within) (O' := []) F sc_is_within rfl rfl fun cdv A outer s H E hr => ?_
  have gd := gd_mk (X := cxOf (L2.CX P w) P w K mg base ["thing", "low", "high"] "is_within" (defScope s_is_within) f cdv A outer s H E) hr sc_is_within.nd
  have tk := takes_of (X := cxOf (L2.CX P w) P w K mg base ["thing", "low", "high"] "is_within" (defScope s_is_within) f cdv A outer s H E) (E := E) rfl rfl rfl rfl
  have pw : PassesOwn (model P w) (A.deeper (envOfC "is_within" (defScope s_is_within) s.heap.objs.size f cdv)) (envOfC "is_within" (defScope s_is_within) s.heap.objs.size f cdv) (cxOf (L2.CX P w) P w K mg base ["thing", "low", "high"] "is_within" (defScope s_is_within) f cdv A outer s H E).xe := PassesOwn.leaving
  delta g_is_within
  exact (vb_cons (O1 := []) (vs_ret (O := []) (O' := []) (ve_and (ve_isi isi_int (by rfl) m_isinstance (by rfl) m_int (ve_var 0)) (ve_and (ve_not (ve_isi isi_bool (by rfl) m_isinstance (by rfl) m_bool (ve_var 0))) (ve_one (ve_chain ok_le ok_le bo_le bo_le (ve_var 1) (ve_var 0) (ve_var 2)))))) (vb_nil (O := []) (O' := [])))
theorem v_are_unlike {f : Addr} {fd : FuncData} (F : Fun K "are_unlike" "are_unlike" s_are_unlike f fd) (m_isinstance : mg "isinstance" = none) (m_len : mg "len" = none) (m_set : mg "set" = none) (m_tuple : mg "tuple" = none) (D_is_within : Dn P w K mg base ec 1 "is_within" m_is_within) : FnOk P w K mg base (L2.CX P w) 2 f fd ["thing", "many"] (spV K ec (mkFn 2 3 g_are_unlike)) := by
  refine fn_v (k := 1) (g := g_are_unlike) (O' := []) F sc_are_unlike rfl rfl fun cdv A outer s H E hr => ?_
  have gd := gd_mk (X := cxOf (L2.CX P w) P w K mg base ["thing", "many", "number"] "are_unlike" (defScope s_are_unlike) f cdv A outer s H E) hr sc_are_unlike.nd
  have tk := takes_of (X := cxOf (L2.CX P w) P w K mg base ["thing", "many", "number"] "are_unlike" (defScope s_are_unlike) f cdv A outer s H E) (E := E) rfl rfl rfl rfl
  have pw : PassesOwn (model P w) (A.deeper (envOfC "are_unlike" (defScope s_are_unlike) s.heap.objs.size f cdv)) (envOfC "are_unlike" (defScope s_are_unlike) s.heap.objs.size f cdv) (cxOf (L2.CX P w) P w K mg base ["thing", "many", "number"] "are_unlike" (defScope s_are_unlike) f cdv A outer s H E).xe := PassesOwn.leaving
  delta g_are_unlike
  exact (vb_cons (O1 := []) (vs_if (O := []) (O' := []) (vt_not (vt_val (ve_isi isi_tuple (by rfl) m_isinstance (by rfl) m_tuple (ve_var 0)))) (vb_cons (O1 := []) (vs_ret (O := []) (O' := []) ve_bl) (vb_nil (O := []) (O' := []))) (vb_nil (O := []) (O' := []))) (vb_cons (O1 := []) (vs_for (O := []) (Ob := []) pw rfl (vi_seq (ve_var 0)) (vg_name 2 gd.nd) (vb_cons (O1 := []) (vs_if (O := []) (O' := []) (vt_not (vt_val (ve_fn D_is_within hr (by decide) tk (by rfl) (va_cons (ve_var 2) (va_cons ve_int (va_cons (ve_sub (ve_var 1) ve_int) va_nil)))))) (vb_cons (O1 := []) (vs_ret (O := []) (O' := []) ve_bl) (vb_nil (O := []) (O' := []))) (vb_nil (O := []) (O' := []))) (vb_nil (O := []) (O' := [])))) (vb_cons (O1 := []) (vs_ret (O := []) (O' := []) (ve_cmpB (ok_eq gd.hu64) bo_eq (ve_lenSet gd (by rfl) m_len (by rfl) m_set (ve_var 0)) (ve_len (by rfl) m_len (va_cons (ve_var 0) va_nil)))) (vb_nil (O := []) (O' := [])))))
theorem v_is_house {f : Addr} {fd : FuncData} (F : Fun K "is_house" "is_house" s_is_house f fd) (m_isinstance : mg "isinstance" = none) (m_len : mg "len" = none) (m_tuple : mg "tuple" = none) {u_MOST : Tok} (c_MOST : mg "MOST" = some (.int 5 u_MOST)) (D_is_within : Dn P w K mg base ec 1 "is_within" m_is_within) (D_are_unlike : Dn P w K mg base ec 2 "are_unlike" m_are_unlike) : FnOk P w K mg base (L2.CX P w) 3 f fd ["thing", "guests"] (spV K ec (mkFn 2 2 g_is_house)) := by
  refine fn_v (k := 2) (g := g_is_house) (O' := []) F sc_is_house rfl rfl fun cdv A outer s H E hr => ?_
  have gd := gd_mk (X := cxOf (L2.CX P w) P w K mg base ["thing", "guests"] "is_house" (defScope s_is_house) f cdv A outer s H E) hr sc_is_house.nd
  have tk := takes_of (X := cxOf (L2.CX P w) P w K mg base ["thing", "guests"] "is_house" (defScope s_is_house) f cdv A outer s H E) (E := E) rfl rfl rfl rfl
  have pw : PassesOwn (model P w) (A.deeper (envOfC "is_house" (defScope s_is_house) s.heap.objs.size f cdv)) (envOfC "is_house" (defScope s_is_house) s.heap.objs.size f cdv) (cxOf (L2.CX P w) P w K mg base ["thing", "guests"] "is_house" (defScope s_is_house) f cdv A outer s H E).xe := PassesOwn.leaving
  delta g_is_house
  exact (vb_cons (O1 := []) (vs_if (O := []) (O' := []) (vt_pw (vw_or (vt_not (vt_val (ve_isi isi_tuple (by rfl) m_isinstance (by rfl) m_tuple (ve_var 0)))) (vw_or1 (vt_cmp (ok_ne gd.hu64) bo_ne (ve_len (by rfl) m_len (va_cons (ve_var 0) va_nil)) ve_int)))) (vb_cons (O1 := []) (vs_ret (O := []) (O' := []) ve_bl) (vb_nil (O := []) (O' := []))) (vb_nil (O := []) (O' := []))) (vb_cons (O1 := []) (vs_ret (O := []) (O' := []) (ve_and (ve_fn D_is_within hr (by decide) tk (by rfl) (va_cons (ve_ix gd (ve_var 0) ve_int) (va_cons ve_int (va_cons (ve_glob (i := 5) (by rfl) c_MOST ⟨_, rfl⟩) va_nil)))) (ve_one (ve_fn D_are_unlike hr (by decide) tk (by rfl) (va_cons (ve_ix gd (ve_var 0) ve_int) (va_cons (ve_var 1) va_nil)))))) (vb_nil (O := []) (O' := []))))
theorem v_is_frame {f : Addr} {fd : FuncData} (F : Fun K "is_frame" "is_frame" s_is_frame f fd) (m_isinstance : mg "isinstance" = none) (m_len : mg "len" = none) (m_tuple : mg "tuple" = none) {u_MOST : Tok} (c_MOST : mg "MOST" = some (.int 5 u_MOST)) : FnOk P w K mg base (L2.CX P w) 1 f fd ["fair"] (spV K ec (mkFn 1 2 g_is_frame)) := by
  refine fn_v (k := 0) (g := g_is_frame) (O' := []) F sc_is_frame rfl rfl fun cdv A outer s H E hr => ?_
  have gd := gd_mk (X := cxOf (L2.CX P w) P w K mg base ["fair", "part"] "is_frame" (defScope s_is_frame) f cdv A outer s H E) hr sc_is_frame.nd
  have tk := takes_of (X := cxOf (L2.CX P w) P w K mg base ["fair", "part"] "is_frame" (defScope s_is_frame) f cdv A outer s H E) (E := E) rfl rfl rfl rfl
  have pw : PassesOwn (model P w) (A.deeper (envOfC "is_frame" (defScope s_is_frame) s.heap.objs.size f cdv)) (envOfC "is_frame" (defScope s_is_frame) s.heap.objs.size f cdv) (cxOf (L2.CX P w) P w K mg base ["fair", "part"] "is_frame" (defScope s_is_frame) f cdv A outer s H E).xe := PassesOwn.leaving
  delta g_is_frame
  exact (vb_cons (O1 := []) (vs_if (O := []) (O' := []) (vt_pw (vw_or (vt_not (vt_val (ve_isi isi_tuple (by rfl) m_isinstance (by rfl) m_tuple (ve_var 0)))) (vw_or1 (vt_cmp (ok_ne gd.hu64) bo_ne (ve_len (by rfl) m_len (va_cons (ve_var 0) va_nil)) ve_int)))) (vb_cons (O1 := []) (vs_ret (O := []) (O' := []) ve_bl) (vb_nil (O := []) (O' := []))) (vb_nil (O := []) (O' := []))) (vb_cons (O1 := []) (vs_for (O := []) (Ob := []) pw rfl (vi_seq (ve_var 0)) (vg_name 1 gd.nd) (vb_cons (O1 := []) (vs_if (O := []) (O' := []) (vt_pw (vw_or (vt_not (vt_val (ve_isi isi_tuple (by rfl) m_isinstance (by rfl) m_tuple (ve_var 1)))) (vw_or1 (vt_not (vt_chain ok_le ok_le bo_le bo_le ve_int (ve_len (by rfl) m_len (va_cons (ve_var 1) va_nil)) (ve_glob (i := 5) (by rfl) c_MOST ⟨_, rfl⟩)))))) (vb_cons (O1 := []) (vs_ret (O := []) (O' := []) ve_bl) (vb_nil (O := []) (O' := []))) (vb_nil (O := []) (O' := []))) (vb_nil (O := []) (O' := [])))) (vb_cons (O1 := []) (vs_ret (O := []) (O' := []) ve_bl) (vb_nil (O := []) (O' := [])))))
theorem v_checked {f : Addr} {fd : FuncData} (F : Fun K "checked" "checked" s_checked f fd) (m_enumerate : mg "enumerate" = none) (m_len : mg "len" = none) (B_BadFair : BfC P w K mg base "BadFair" (ec 0)) (D_is_frame : Dn P w K mg base ec 1 "is_frame" m_is_frame) (D_are_unlike : Dn P w K mg base ec 2 "are_unlike" m_are_unlike) (D_is_house : Dn P w K mg base ec 3 "is_house" m_is_house) : FnOk P w K mg base (L2.CX P w) 4 f fd ["fair"] (spV K ec (mkFn 1 7 g_checked_k18)) := by
  refine fn_v (k := 3) (g := g_checked_k18) (O' := []) F sc_checked rfl rfl fun cdv A outer s H E hr => ?_
  have gd := gd_mk (X := cxOf (L2.CX P w) P w K mg base ["fair", "wishes", "houses", "guest", "wish", "number", "house"] "checked" (defScope s_checked) f cdv A outer s H E) hr sc_checked.nd
  have tk := takes_of (X := cxOf (L2.CX P w) P w K mg base ["fair", "wishes", "houses", "guest", "wish", "number", "house"] "checked" (defScope s_checked) f cdv A outer s H E) (E := E) rfl rfl rfl rfl
  have pw : PassesOwn (model P w) (A.deeper (envOfC "checked" (defScope s_checked) s.heap.objs.size f cdv)) (envOfC "checked" (defScope s_checked) s.heap.objs.size f cdv) (cxOf (L2.CX P w) P w K mg base ["fair", "wishes", "houses", "guest", "wish", "number", "house"] "checked" (defScope s_checked) f cdv A outer s H E).xe := PassesOwn.leaving
  delta g_checked_k18
  exact (vb_cons (O1 := []) (vs_if (O := []) (O' := []) (vt_not (vt_val (ve_fn D_is_frame hr (by decide) tk (by rfl) (va_cons (ve_var 0) va_nil)))) (vb_cons (O1 := []) (vs_raiseAt (O := []) (O' := []) rfl tk B_BadFair hr (by decide) ve_non) (vb_nil (O := []) (O' := []))) (vb_nil (O := []) (O' := []))) (vb_cons (O1 := []) (vs_asgT (O := []) (O' := []) (pr := false) (ve_var 0) (vg_pair 1 2 rfl gd.nd)) (vb_cons (O1 := []) (vs_for (O := []) (Ob := []) pw rfl (vi_enum (by rfl) m_enumerate (ve_var 1)) (vg_pair 3 4 rfl gd.nd) (vb_cons (O1 := []) (vs_if (O := []) (O' := []) (vt_not (vt_val (ve_fn D_are_unlike hr (by decide) tk (by rfl) (va_cons (ve_var 4) (va_cons (ve_len (by rfl) m_len (va_cons (ve_var 2) va_nil)) va_nil))))) (vb_cons (O1 := []) (vs_raiseAt (O := []) (O' := []) rfl tk B_BadFair hr (by decide) (ve_tup (va_cons ve_str (va_cons (ve_var 3) va_nil)))) (vb_nil (O := []) (O' := []))) (vb_nil (O := []) (O' := []))) (vb_nil (O := []) (O' := [])))) (vb_cons (O1 := []) (vs_for (O := []) (Ob := []) pw rfl (vi_enum (by rfl) m_enumerate (ve_var 2)) (vg_pair 5 6 rfl gd.nd) (vb_cons (O1 := []) (vs_if (O := []) (O' := []) (vt_not (vt_val (ve_fn D_is_house hr (by decide) tk (by rfl) (va_cons (ve_var 6) (va_cons (ve_len (by rfl) m_len (va_cons (ve_var 1) va_nil)) va_nil))))) (vb_cons (O1 := []) (vs_raiseAt (O := []) (O' := []) rfl tk B_BadFair hr (by decide) (ve_tup (va_cons ve_str (va_cons (ve_var 5) va_nil)))) (vb_nil (O := []) (O' := []))) (vb_nil (O := []) (O' := []))) (vb_nil (O := []) (O' := [])))) (vb_cons (O1 := []) (vs_ret (O := []) (O' := []) (ve_guard (ve_var 0))) (vb_nil (O := []) (O' := [])))))))
theorem v_law_cell {f : Addr} {fd : FuncData} (F : Fun K "_law_cell" "_law_cell" s_law_cell f fd) (m_len : mg "len" = none) : FnOk P w K mg base (L2.CX P w) 1 f fd ["_law_script", "_law_k"] (spV K ec (mkFn 2 2 g_law_cell)) := by
  refine fn_v (k := 0) (g := g_law_cell) (O' := []) F sc_law_cell rfl rfl fun cdv A outer s H E hr => ?_
  have gd := gd_mk (X := cxOf (L2.CX P w) P w K mg base ["_law_script", "_law_k"] "_law_cell" (defScope s_law_cell) f cdv A outer s H E) hr sc_law_cell.nd
  have tk := takes_of (X := cxOf (L2.CX P w) P w K mg base ["_law_script", "_law_k"] "_law_cell" (defScope s_law_cell) f cdv A outer s H E) (E := E) rfl rfl rfl rfl
  have pw : PassesOwn (model P w) (A.deeper (envOfC "_law_cell" (defScope s_law_cell) s.heap.objs.size f cdv)) (envOfC "_law_cell" (defScope s_law_cell) s.heap.objs.size f cdv) (cxOf (L2.CX P w) P w K mg base ["_law_script", "_law_k"] "_law_cell" (defScope s_law_cell) f cdv A outer s H E).xe := PassesOwn.leaving
  delta g_law_cell
  exact (vb_cons (O1 := []) (vs_if (O := []) (O' := []) (vt_cmp ok_lt bo_lt (ve_var 1) (ve_len (by rfl) m_len (va_cons (ve_var 0) va_nil))) (vb_cons (O1 := []) (vs_ret (O := []) (O' := []) (ve_guard (ve_ix gd (ve_var 0) (ve_var 1)))) (vb_nil (O := []) (O' := []))) (vb_nil (O := []) (O' := []))) (vb_cons (O1 := []) (vs_ret (O := []) (O' := []) ve_int) (vb_nil (O := []) (O' := []))))
theorem v_law_mix {f : Addr} {fd : FuncData} (F : Fun K "_law_mix" "_law_mix" s_law_mix f fd) : FnOk P w K mg base (L2.CX P w) 1 f fd ["_law_cell_here", "_law_prime", "_law_many"] (spV K ec (mkFn 3 3 g_law_mix)) := by
  refine fn_v (k := 0) (g := g_law_mix) (O' := []) F sc_law_mix rfl rfl fun cdv A outer s H E hr => ?_
  have gd := gd_mk (X := cxOf (L2.CX P w) P w K mg base ["_law_cell_here", "_law_prime", "_law_many"] "_law_mix" (defScope s_law_mix) f cdv A outer s H E) hr sc_law_mix.nd
  have tk := takes_of (X := cxOf (L2.CX P w) P w K mg base ["_law_cell_here", "_law_prime", "_law_many"] "_law_mix" (defScope s_law_mix) f cdv A outer s H E) (E := E) rfl rfl rfl rfl
  have pw : PassesOwn (model P w) (A.deeper (envOfC "_law_mix" (defScope s_law_mix) s.heap.objs.size f cdv)) (envOfC "_law_mix" (defScope s_law_mix) s.heap.objs.size f cdv) (cxOf (L2.CX P w) P w K mg base ["_law_cell_here", "_law_prime", "_law_many"] "_law_mix" (defScope s_law_mix) f cdv A outer s H E).xe := PassesOwn.leaving
  delta g_law_mix
  exact (vb_cons (O1 := []) (vs_ret (O := []) (O' := []) (ve_mod (ve_mod (ve_mul (ve_var 0) ve_int) (ve_var 1)) (ve_var 2))) (vb_nil (O := []) (O' := [])))
theorem v_law_large {f : Addr} {fd : FuncData} (F : Fun K "_law_large" "_law_large" s_law_large f fd) (m_len : mg "len" = none) (D_law_mix : Dn P w K mg base ec 1 "_law_mix" m_law_mix) (D_law_cell : Dn P w K mg base ec 1 "_law_cell" m_law_cell) : FnOk P w K mg base (L2.CX P w) 2 f fd ["_law_script"] (spV K ec (mkFn 1 1 g_law_large)) := by
  refine fn_v (k := 1) (g := g_law_large) (O' := []) F sc_law_large rfl rfl fun cdv A outer s H E hr => ?_
  have gd := gd_mk (X := cxOf (L2.CX P w) P w K mg base ["_law_script"] "_law_large" (defScope s_law_large) f cdv A outer s H E) hr sc_law_large.nd
  have tk := takes_of (X := cxOf (L2.CX P w) P w K mg base ["_law_script"] "_law_large" (defScope s_law_large) f cdv A outer s H E) (E := E) rfl rfl rfl rfl
  have pw : PassesOwn (model P w) (A.deeper (envOfC "_law_large" (defScope s_law_large) s.heap.objs.size f cdv)) (envOfC "_law_large" (defScope s_law_large) s.heap.objs.size f cdv) (cxOf (L2.CX P w) P w K mg base ["_law_script"] "_law_large" (defScope s_law_large) f cdv A outer s H E).xe := PassesOwn.leaving
  delta g_law_large
  exact (vb_cons (O1 := []) (vs_ret (O := []) (O' := []) (ve_cmpB (ok_eq gd.hu64) bo_eq (ve_fn D_law_mix hr (by decide) tk (by rfl) (va_cons (ve_add (ve_fn D_law_cell hr (by decide) tk (by rfl) (va_cons (ve_var 0) (va_cons ve_int va_nil))) (ve_mul ve_int (ve_len (by rfl) m_len (va_cons (ve_var 0) va_nil)))) (va_cons ve_int (va_cons ve_int va_nil)))) ve_int)) (vb_nil (O := []) (O' := [])))
theorem v_law_some {f : Addr} {fd : FuncData} (F : Fun K "_law_some" "_law_some" s_law_some f fd) (m_range : mg "range" = none) (m_sorted : mg "sorted" = none) (m_tuple : mg "tuple" = none) (D_law_mix : Dn P w K mg base ec 1 "_law_mix" m_law_mix) : FnOk P w K mg base (L2.CX P w) 2 f fd ["_law_seed", "_law_many", "_law_all_of_them"] (spV K ec (mkFn 3 7 g_law_some)) := by
  refine fn_v (k := 1) (g := g_law_some) (O' := []) F sc_law_some rfl rfl fun cdv A outer s H E hr => ?_
  have gd := gd_mk (X := cxOf (L2.CX P w) P w K mg base ["_law_seed", "_law_many", "_law_all_of_them", "_law_keys", "_law_row", "_law_k", "_law_key"] "_law_some" (defScope s_law_some) f cdv A outer s H E) hr sc_law_some.nd
  have tk := takes_of (X := cxOf (L2.CX P w) P w K mg base ["_law_seed", "_law_many", "_law_all_of_them", "_law_keys", "_law_row", "_law_k", "_law_key"] "_law_some" (defScope s_law_some) f cdv A outer s H E) (E := E) rfl rfl rfl rfl
  have pw : PassesOwn (model P w) (A.deeper (envOfC "_law_some" (defScope s_law_some) s.heap.objs.size f cdv)) (envOfC "_law_some" (defScope s_law_some) s.heap.objs.size f cdv) (cxOf (L2.CX P w) P w K mg base ["_law_seed", "_law_many", "_law_all_of_them", "_law_keys", "_law_row", "_law_k", "_law_key"] "_law_some" (defScope s_law_some) f cdv A outer s H E).xe := PassesOwn.leaving
  delta g_law_some
  exact (vb_cons (O1 := []) (vs_setComp (i := 3) (O := []) (O' := []) (own := [("_law_k", 5)]) gd (vi_range (by rfl) m_range (va_cons (ve_var 1) va_nil)) ((blkOk_by (N := ["_law_seed", "_law_many", "_law_all_of_them", "_law_keys", "_law_row", "_law_k", "_law_key"]) (sc := defScope s_law_some) (by decide +kernel))) (fun _ _ _ _ _ => (pg_name (i := 5) gd.nd rfl (Or.inl rfl))) (tg_name 5) (by decide) (fun _ _ _ _ _ => vts_nil) (fun _ _ _ _ _ => (ve_guard (ve_tup (va_cons (ve_fn D_law_mix hr (by decide) takes0 (by rfl) (va_cons (ve_add (ve_var 0) (ve_mul (ve_mul ve_int (ve_var 5)) (ve_var 5))) (va_cons ve_int (va_cons ve_int va_nil)))) (va_cons (ve_var 5) va_nil))))) rfl rfl (sw_true rfl rfl rfl (by decide +kernel))) (vb_cons (O1 := []) (vs_setComp (i := 4) (O := []) (O' := []) (own := [("_law_key", 6)]) gd (vi_seq (ve_sorted (by rfl) m_sorted (va_cons (ve_var 3) va_nil))) ((blkOk_by (N := ["_law_seed", "_law_many", "_law_all_of_them", "_law_keys", "_law_row", "_law_k", "_law_key"]) (sc := defScope s_law_some) (by decide +kernel))) (fun _ _ _ _ _ => (pg_name (i := 6) gd.nd rfl (Or.inl rfl))) (tg_name 6) (by decide) (fun _ _ _ _ _ => vts_nil) (fun _ _ _ _ _ => (ve_guard (ve_ix (gdB gd) (ve_var 6) ve_int))) rfl rfl (sw_true rfl rfl rfl (by decide +kernel))) (vb_cons (O1 := []) (vs_if (O := []) (O' := []) (vt_val (ve_var 2)) (vb_cons (O1 := []) (vs_ret (O := []) (O' := []) (ve_guard (ve_tupleOf (by rfl) m_tuple (va_cons (ve_var 4) va_nil)))) (vb_nil (O := []) (O' := []))) (vb_nil (O := []) (O' := []))) (vb_cons (O1 := []) (vs_ret (O := []) (O' := []) (ve_guard (ve_tupleOf (by rfl) m_tuple (va_cons (ve_slice (ve_var 4) vo_none (vo_some (ve_fn D_law_mix hr (by decide) tk (by rfl) (va_cons (ve_var 0) (va_cons ve_int (va_cons (ve_add (ve_var 1) ve_int) va_nil)))))) va_nil)))) (vb_nil (O := []) (O' := []))))))
theorem v_law_fair {f : Addr} {fd : FuncData} (F : Fun K "_law_fair" "_law_fair" s_law_fair f fd) (m_int : mg "int" = none) (m_len : mg "len" = none) (m_range : mg "range" = none) (m_tuple : mg "tuple" = none) (D_law_cell : Dn P w K mg base ec 1 "_law_cell" m_law_cell) (D_law_mix : Dn P w K mg base ec 1 "_law_mix" m_law_mix) (D_law_large : Dn P w K mg base ec 2 "_law_large" m_law_large) (D_law_some : Dn P w K mg base ec 2 "_law_some" m_law_some) : FnOk P w K mg base (L2.CX P w) 3 f fd ["_law_script", "_law_at"] (spV K ec (mkFn 2 11 g_law_fair)) := by
  refine fn_v (k := 2) (g := g_law_fair) (O' := []) F sc_law_fair rfl rfl fun cdv A outer s H E hr => ?_
  have gd := gd_mk (X := cxOf (L2.CX P w) P w K mg base ["_law_script", "_law_at", "_law_cell_here", "_law_guests", "_law_houses", "_law_full", "_law_wishes", "_law_k", "_law_rows", "_law_seed", "_law_beds"] "_law_fair" (defScope s_law_fair) f cdv A outer s H E) hr sc_law_fair.nd
  have tk := takes_of (X := cxOf (L2.CX P w) P w K mg base ["_law_script", "_law_at", "_law_cell_here", "_law_guests", "_law_houses", "_law_full", "_law_wishes", "_law_k", "_law_rows", "_law_seed", "_law_beds"] "_law_fair" (defScope s_law_fair) f cdv A outer s H E) (E := E) rfl rfl rfl rfl
  have pw : PassesOwn (model P w) (A.deeper (envOfC "_law_fair" (defScope s_law_fair) s.heap.objs.size f cdv)) (envOfC "_law_fair" (defScope s_law_fair) s.heap.objs.size f cdv) (cxOf (L2.CX P w) P w K mg base ["_law_script", "_law_at", "_law_cell_here", "_law_guests", "_law_houses", "_law_full", "_law_wishes", "_law_k", "_law_rows", "_law_seed", "_law_beds"] "_law_fair" (defScope s_law_fair) f cdv A outer s H E).xe := PassesOwn.leaving
  delta g_law_fair
  exact (vb_cons (O1 := []) (vs_set 2 (O := []) (O' := []) gd.nd (ve_fn D_law_cell hr (by decide) tk (by rfl) (va_cons (ve_var 0) (va_cons (ve_var 1) va_nil)))) (vb_cons (O1 := []) (vs_set 3 (O := []) (O' := []) gd.nd (ve_add ve_int (ve_fn D_law_mix hr (by decide) tk (by rfl) (va_cons (ve_var 2) (va_cons ve_int (va_cons ve_int va_nil)))))) (vb_cons (O1 := []) (vs_set 4 (O := []) (O' := []) gd.nd (ve_add ve_int (ve_fn D_law_mix hr (by decide) tk (by rfl) (va_cons (ve_var 2) (va_cons ve_int (va_cons ve_int va_nil)))))) (vb_cons (O1 := []) (vs_if (O := []) (O' := []) (vt_val (ve_fn D_law_large hr (by decide) tk (by rfl) (va_cons (ve_var 0) va_nil))) (vb_cons (O1 := []) (vs_set 3 (O := []) (O' := []) gd.nd (ve_add ve_int (ve_fn D_law_mix hr (by decide) tk (by rfl) (va_cons (ve_var 2) (va_cons ve_int (va_cons ve_int va_nil)))))) (vb_cons (O1 := []) (vs_set 4 (O := []) (O' := []) gd.nd (ve_add ve_int (ve_fn D_law_mix hr (by decide) tk (by rfl) (va_cons (ve_var 2) (va_cons ve_int (va_cons ve_int va_nil)))))) (vb_nil (O := []) (O' := [])))) (vb_nil (O := []) (O' := []))) (vb_cons (O1 := []) (vs_if (O := []) (O' := []) (vt_cmp ok_gt bo_gt (ve_len (by rfl) m_len (va_cons (ve_var 0) va_nil)) ve_int) (vb_cons (O1 := []) (vs_set 3 (O := []) (O' := []) gd.nd (ve_add ve_int (ve_fn D_law_mix hr (by decide) tk (by rfl) (va_cons (ve_var 2) (va_cons ve_int (va_cons ve_int va_nil)))))) (vb_cons (O1 := []) (vs_set 4 (O := []) (O' := []) gd.nd (ve_add ve_int (ve_fn D_law_mix hr (by decide) tk (by rfl) (va_cons (ve_var 2) (va_cons ve_int (va_cons ve_int va_nil)))))) (vb_nil (O := []) (O' := [])))) (vb_nil (O := []) (O' := []))) (vb_cons (O1 := []) (vs_set 5 (O := []) (O' := []) gd.nd (ve_cmpB (ok_eq gd.hu64) bo_eq (ve_fn D_law_mix hr (by decide) tk (by rfl) (va_cons (ve_var 2) (va_cons ve_int (va_cons ve_int va_nil)))) ve_int)) (vb_cons (O1 := [6]) (vs_set 6 (O := []) (O' := [6]) gd.nd (ve_lst va_nil)) (vb_cons (O1 := [6]) (vs_for (O := [6]) (Ob := [6]) pw rfl (vi_range (by rfl) m_range (va_cons (ve_var 3) va_nil)) (vg_name 7 gd.nd) (vb_cons (O1 := [6]) (vs_append 6 (O := [6]) (ve_fn D_law_some hr (by decide) tk (by rfl) (va_cons (ve_add (ve_fn D_law_cell hr (by decide) tk (by rfl) (va_cons (ve_var 0) (va_cons (ve_add (ve_add (ve_var 1) ve_int) (ve_var 7)) va_nil))) (ve_mul (ve_mul ve_int (ve_var 7)) (ve_var 7))) (va_cons (ve_var 4) (va_cons (ve_var 5) va_nil))))) (vb_nil (O := [6]) (O' := [6])))) (vb_cons (O1 := [6, 8]) (vs_set 8 (O := [6]) (O' := [6, 8]) gd.nd (ve_lst va_nil)) (vb_cons (O1 := [6, 8]) (vs_for (O := [6, 8]) (Ob := [6, 8]) pw rfl (vi_range (by rfl) m_range (va_cons (ve_var 4) va_nil)) (vg_name 7 gd.nd) (vb_cons (O1 := [6, 8]) (vs_set 9 (O := [6, 8]) (O' := [6, 8]) gd.nd (ve_add (ve_fn D_law_cell hr (by decide) tk (by rfl) (va_cons (ve_var 0) (va_cons (ve_add (ve_add (ve_var 1) ve_int) (ve_var 7)) va_nil))) (ve_mul (ve_mul ve_int (ve_var 7)) (ve_var 7)))) (vb_cons (O1 := [6, 8]) (vs_set 10 (O := [6, 8]) (O' := [6, 8]) gd.nd (ve_add (ve_add (ve_fn D_law_mix hr (by decide) tk (by rfl) (va_cons (ve_var 9) (va_cons ve_int (va_cons ve_int va_nil)))) (ve_intOf (by rfl) m_int (va_cons (ve_var 5) va_nil))) (ve_mul ve_int (ve_intOf (by rfl) m_int (va_cons (ve_cmpB (ok_eq gd.hu64) bo_eq (ve_fn D_law_mix hr (by decide) tk (by rfl) (va_cons (ve_var 9) (va_cons ve_int (va_cons ve_int va_nil)))) ve_int) va_nil))))) (vb_cons (O1 := [6, 8]) (vs_append 8 (O := [6, 8]) (ve_guard (ve_tup (va_cons (ve_var 10) (va_cons (ve_fn D_law_some hr (by decide) tk (by rfl) (va_cons (ve_var 9) (va_cons (ve_var 3) (va_cons (ve_var 5) va_nil)))) va_nil))))) (vb_nil (O := [6, 8]) (O' := [6, 8])))))) (vb_cons (O1 := []) (vs_ret (O := [6, 8]) (O' := []) (ve_tup (va_cons (ve_tupleOf (by rfl) m_tuple (va_cons (ve_var 6) va_nil)) (va_cons (ve_tupleOf (by rfl) m_tuple (va_cons (ve_var 8) va_nil)) va_nil)))) (vb_nil (O := []) (O' := [])))))))))))))
theorem v_law_told {f : Addr} {fd : FuncData} (F : Fun K "_law_told" "_law_told" s_law_told f fd) (m_ValueError : mg "ValueError" = none) (m_isinstance : mg "isinstance" = none) (X_FairError : ExcF K mg "FairError" (ec 5)) (G_BadFair : mg "BadFair" = some (.ref (ec 0))) (XT : ExcT K ec [0] [0, 5]) (N_at : PySem.W.findIn K (.ref (ec 0)) "at" = some none) (D_checked : Dn P w K mg base ec 4 "checked" m_checked_k18) : FnOk P w K mg base (L2.CX P w) 5 f fd ["_law_fair_here"] (spV K ec (mkFn 1 4 g_law_told_k01)) := by
  refine fn_v (k := 4) (g := g_law_told_k01) (O' := []) F sc_law_told rfl rfl fun cdv A outer s H E hr => ?_
  have gd := gd_mk (X := cxOf (L2.CX P w) P w K mg base ["_law_fair_here", "_law_at", "_law_found", "e"] "_law_told" (defScope s_law_told) f cdv A outer s H E) hr sc_law_told.nd
  have tk := takes_of (X := cxOf (L2.CX P w) P w K mg base ["_law_fair_here", "_law_at", "_law_found", "e"] "_law_told" (defScope s_law_told) f cdv A outer s H E) (E := E) rfl rfl rfl rfl
  have pw : PassesOwn (model P w) (A.deeper (envOfC "_law_told" (defScope s_law_told) s.heap.objs.size f cdv)) (envOfC "_law_told" (defScope s_law_told) s.heap.objs.size f cdv) (cxOf (L2.CX P w) P w K mg base ["_law_fair_here", "_law_at", "_law_found", "e"] "_law_told" (defScope s_law_told) f cdv A outer s H E).xe := PassesOwn.leaving
  delta g_law_told_k01
  exact (vb_cons (O1 := [1]) (vs_set 1 (O := []) (O' := [1]) gd.nd ve_int) (vb_cons (O1 := [1, 2]) (vs_set 2 (O := [1]) (O' := [1, 2]) gd.nd (ve_lst va_nil)) (vb_cons (O1 := [2]) (vs_tryAs (i := 3) (t := 5) (O := [1, 2]) (O' := [2]) (Os := [2]) XT (by decide) gd.nd tk X_FairError.gC (fun W pn xe tk pw => (have gd := gdT (pn := pn) (xe := xe) gd; (vb_cons (O1 := [1, 2]) (vs_expr (O := [1, 2]) (ve_fn D_checked hr (by decide) tk (by rfl) (va_cons (ve_var 0) va_nil))) (vb_nil (O := [1, 2]) (O' := [2]))))) (fun a d c z oe pn R hz hf => (vb_cons (O1 := [2]) (vs_set 2 (O := []) (O' := [2]) gd.nd (ve_lst (va_cons (ve_isEO (t := 0) R hz hf (by rfl) m_isinstance (by rfl) G_BadFair (by decide) (ve_var 3)) (va_cons (ve_isEV R hz hf (by rfl) m_isinstance (by rfl) m_ValueError (ve_var 3)) va_nil)))) (vb_cons (O1 := [2]) (vs_if (O := [2]) (O' := [2]) (vt_val (ve_ixS (ve_var 2) ve_int)) (vb_cons (O1 := [2, 1]) (vs_set 1 (O := [2]) (O' := [2, 1]) gd.nd (ve_at R hz hf N_at (ve_var 3))) (vb_nil (O := [2, 1]) (O' := [2]))) (vb_nil (O := [2]) (O' := [2]))) (vb_nil (O := [2]) (O' := [2])))))) (vb_cons (O1 := []) (vs_ret (O := [2]) (O' := []) (ve_tup (va_cons (ve_var 2) (va_cons (ve_guard (ve_var 1)) va_nil)))) (vb_nil (O := []) (O' := []))))))
theorem v_law_frame {f : Addr} {fd : FuncData} (F : Fun K "_law_frame" "_law_frame" s_law_frame f fd) (m_list : mg "list" = none) : FnOk P w K mg base (L2.CX P w) 1 f fd ["_law_fair_here", "_law_way"] (spV K ec (mkFn 2 5 g_law_frame)) := by
  refine fn_v (k := 0) (g := g_law_frame) (O' := []) F sc_law_frame rfl rfl fun cdv A outer s H E hr => ?_
  have gd := gd_mk (X := cxOf (L2.CX P w) P w K mg base ["_law_fair_here", "_law_way", "_law_wishes", "_law_houses", "_law_some_here"] "_law_frame" (defScope s_law_frame) f cdv A outer s H E) hr sc_law_frame.nd
  have tk := takes_of (X := cxOf (L2.CX P w) P w K mg base ["_law_fair_here", "_law_way", "_law_wishes", "_law_houses", "_law_some_here"] "_law_frame" (defScope s_law_frame) f cdv A outer s H E) (E := E) rfl rfl rfl rfl
  have pw : PassesOwn (model P w) (A.deeper (envOfC "_law_frame" (defScope s_law_frame) s.heap.objs.size f cdv)) (envOfC "_law_frame" (defScope s_law_frame) s.heap.objs.size f cdv) (cxOf (L2.CX P w) P w K mg base ["_law_fair_here", "_law_way", "_law_wishes", "_law_houses", "_law_some_here"] "_law_frame" (defScope s_law_frame) f cdv A outer s H E).xe := PassesOwn.leaving
  delta g_law_frame
  exact (vb_cons (O1 := []) (vs_asgT (O := []) (O' := []) (pr := false) (ve_var 0) (vg_pair 2 3 rfl gd.nd)) (vb_cons (O1 := [4]) (vs_set 4 (O := []) (O' := [4]) gd.nd (ve_lst (va_cons (ve_frz (ve_lst (va_cons (ve_guard (ve_var 2)) (va_cons (ve_guard (ve_var 3)) va_nil)))) (va_cons (ve_guard (ve_tup (va_cons (ve_var 2) va_nil))) (va_cons (ve_guard (ve_tup (va_cons (ve_frz (ve_listF (by rfl) m_list (va_cons (ve_var 2) va_nil))) (va_cons (ve_var 3) va_nil)))) (va_cons (ve_guard (ve_tup (va_cons (ve_var 2) (va_cons (ve_frz (ve_listF (by rfl) m_list (va_cons (ve_var 3) va_nil))) va_nil)))) (va_cons (ve_guard (ve_tup (va_cons (ve_tup va_nil) (va_cons (ve_var 3) va_nil)))) (va_cons (ve_guard (ve_tup (va_cons (ve_var 2) (va_cons (ve_tup va_nil) va_nil)))) va_nil)))))))) (vb_cons (O1 := []) (vs_ret (O := [4]) (O' := []) (ve_ix gd (ve_add (ve_var 4) (ve_lst (va_cons (ve_guard (ve_tup (va_cons (ve_rep (ve_tup (va_cons (ve_tup va_nil) va_nil)) ve_int) (va_cons (ve_var 3) va_nil)))) (va_cons (ve_guard (ve_tup (va_cons (ve_var 2) (va_cons (ve_rep (ve_tup (va_cons (ve_tup (va_cons ve_int (va_cons (ve_tup va_nil) va_nil))) va_nil)) ve_int) va_nil)))) (va_cons ve_non (va_cons ve_str va_nil)))))) (ve_mod (ve_var 1) ve_int))) (vb_nil (O := []) (O' := [])))))
theorem v_law_wish {f : Addr} {fd : FuncData} (F : Fun K "_law_wish" "_law_wish" s_law_wish f fd) (m_list : mg "list" = none) : FnOk P w K mg base (L2.CX P w) 1 f fd ["_law_wish_here", "_law_houses", "_law_way"] (spV K ec (mkFn 3 4 g_law_wish)) := by
  refine fn_v (k := 0) (g := g_law_wish) (O' := []) F sc_law_wish rfl rfl fun cdv A outer s H E hr => ?_
  have gd := gd_mk (X := cxOf (L2.CX P w) P w K mg base ["_law_wish_here", "_law_houses", "_law_way", "_law_some_here"] "_law_wish" (defScope s_law_wish) f cdv A outer s H E) hr sc_law_wish.nd
  have tk := takes_of (X := cxOf (L2.CX P w) P w K mg base ["_law_wish_here", "_law_houses", "_law_way", "_law_some_here"] "_law_wish" (defScope s_law_wish) f cdv A outer s H E) (E := E) rfl rfl rfl rfl
  have pw : PassesOwn (model P w) (A.deeper (envOfC "_law_wish" (defScope s_law_wish) s.heap.objs.size f cdv)) (envOfC "_law_wish" (defScope s_law_wish) s.heap.objs.size f cdv) (cxOf (L2.CX P w) P w K mg base ["_law_wish_here", "_law_houses", "_law_way", "_law_some_here"] "_law_wish" (defScope s_law_wish) f cdv A outer s H E).xe := PassesOwn.leaving
  delta g_law_wish
  exact (vb_cons (O1 := [3]) (vs_set 3 (O := []) (O' := [3]) gd.nd (ve_lst (va_cons (ve_frz (ve_listF (by rfl) m_list (va_cons (ve_var 0) va_nil))) (va_cons (ve_guard (ve_add (ve_var 0) (ve_tup (va_cons (ve_var 1) va_nil)))) (va_cons (ve_guard (ve_add (ve_var 0) (ve_tup (va_cons (ve_neg ve_int) va_nil)))) (va_cons (ve_guard (ve_add (ve_var 0) (ve_tup (va_cons ve_bl va_nil)))) (va_cons (ve_guard (ve_add (ve_var 0) (ve_tup (va_cons ve_str va_nil)))) (va_cons (ve_tup (va_cons ve_int (va_cons ve_int va_nil))) (va_cons ve_non (va_cons ve_int va_nil)))))))))) (vb_cons (O1 := []) (vs_ret (O := [3]) (O' := []) (ve_ix gd (ve_var 3) (ve_mod (ve_var 2) ve_int))) (vb_nil (O := []) (O' := []))))
theorem v_law_house {f : Addr} {fd : FuncData} (F : Fun K "_law_house" "_law_house" s_law_house f fd) (m_list : mg "list" = none) : FnOk P w K mg base (L2.CX P w) 1 f fd ["_law_house_here", "_law_guests", "_law_way"] (spV K ec (mkFn 3 6 g_law_house)) := by
  refine fn_v (k := 0) (g := g_law_house) (O' := []) F sc_law_house rfl rfl fun cdv A outer s H E hr => ?_
  have gd := gd_mk (X := cxOf (L2.CX P w) P w K mg base ["_law_house_here", "_law_guests", "_law_way", "_law_rooms", "_law_row", "_law_some_here"] "_law_house" (defScope s_law_house) f cdv A outer s H E) hr sc_law_house.nd
  have tk := takes_of (X := cxOf (L2.CX P w) P w K mg base ["_law_house_here", "_law_guests", "_law_way", "_law_rooms", "_law_row", "_law_some_here"] "_law_house" (defScope s_law_house) f cdv A outer s H E) (E := E) rfl rfl rfl rfl
  have pw : PassesOwn (model P w) (A.deeper (envOfC "_law_house" (defScope s_law_house) s.heap.objs.size f cdv)) (envOfC "_law_house" (defScope s_law_house) s.heap.objs.size f cdv) (cxOf (L2.CX P w) P w K mg base ["_law_house_here", "_law_guests", "_law_way", "_law_rooms", "_law_row", "_law_some_here"] "_law_house" (defScope s_law_house) f cdv A outer s H E).xe := PassesOwn.leaving
  delta g_law_house
  exact (vb_cons (O1 := []) (vs_asgT (O := []) (O' := []) (pr := false) (ve_var 0) (vg_pair 3 4 rfl gd.nd)) (vb_cons (O1 := [5]) (vs_set 5 (O := []) (O' := [5]) gd.nd (ve_lst (va_cons (ve_frz (ve_lst (va_cons (ve_guard (ve_var 3)) (va_cons (ve_guard (ve_var 4)) va_nil)))) (va_cons (ve_guard (ve_tup (va_cons (ve_var 3) va_nil))) (va_cons (ve_guard (ve_tup (va_cons ve_int (va_cons (ve_var 4) va_nil)))) (va_cons (ve_guard (ve_tup (va_cons (ve_neg ve_int) (va_cons (ve_var 4) va_nil)))) (va_cons (ve_guard (ve_tup (va_cons ve_bl (va_cons (ve_var 4) va_nil)))) (va_cons (ve_guard (ve_tup (va_cons ve_str (va_cons (ve_var 4) va_nil)))) (va_cons (ve_guard (ve_tup (va_cons (ve_var 3) (va_cons (ve_frz (ve_listF (by rfl) m_list (va_cons (ve_var 4) va_nil))) va_nil)))) (va_cons (ve_guard (ve_tup (va_cons (ve_var 3) (va_cons (ve_tup (va_cons ve_int (va_cons ve_int va_nil))) va_nil)))) va_nil)))))))))) (vb_cons (O1 := []) (vs_ret (O := [5]) (O' := []) (ve_ix gd (ve_add (ve_var 5) (ve_lst (va_cons (ve_guard (ve_tup (va_cons (ve_var 3) (va_cons (ve_add (ve_var 4) (ve_tup (va_cons (ve_var 1) va_nil))) va_nil)))) (va_cons (ve_guard (ve_tup (va_cons (ve_var 3) (va_cons (ve_add (ve_var 4) (ve_tup (va_cons (ve_neg ve_int) va_nil))) va_nil)))) (va_cons ve_non (va_cons (ve_guard (ve_tup (va_cons (ve_var 3) (va_cons (ve_var 4) (va_cons ve_int va_nil))))) va_nil)))))) (ve_mod (ve_var 2) ve_int))) (vb_nil (O := []) (O' := [])))))
theorem v_law_bad {f : Addr} {fd : FuncData} (F : Fun K "_law_bad" "_law_bad" s_law_bad f fd) (m_len : mg "len" = none) (m_list : mg "list" = none) (m_tuple : mg "tuple" = none) (D_law_cell : Dn P w K mg base ec 1 "_law_cell" m_law_cell) (D_law_wish : Dn P w K mg base ec 1 "_law_wish" m_law_wish) (D_law_house : Dn P w K mg base ec 1 "_law_house" m_law_house) : FnOk P w K mg base (L2.CX P w) 2 f fd ["_law_fair_here", "_law_script"] (spV K ec (mkFn 2 7 g_law_bad)) := by
  refine fn_v (k := 1) (g := g_law_bad) (O' := []) F sc_law_bad rfl rfl fun cdv A outer s H E hr => ?_
  have gd := gd_mk (X := cxOf (L2.CX P w) P w K mg base ["_law_fair_here", "_law_script", "_law_wishes", "_law_houses", "_law_way", "_law_guest", "_law_house_here"] "_law_bad" (defScope s_law_bad) f cdv A outer s H E) hr sc_law_bad.nd
  have tk := takes_of (X := cxOf (L2.CX P w) P w K mg base ["_law_fair_here", "_law_script", "_law_wishes", "_law_houses", "_law_way", "_law_guest", "_law_house_here"] "_law_bad" (defScope s_law_bad) f cdv A outer s H E) (E := E) rfl rfl rfl rfl
  have pw : PassesOwn (model P w) (A.deeper (envOfC "_law_bad" (defScope s_law_bad) s.heap.objs.size f cdv)) (envOfC "_law_bad" (defScope s_law_bad) s.heap.objs.size f cdv) (cxOf (L2.CX P w) P w K mg base ["_law_fair_here", "_law_script", "_law_wishes", "_law_houses", "_law_way", "_law_guest", "_law_house_here"] "_law_bad" (defScope s_law_bad) f cdv A outer s H E).xe := PassesOwn.leaving
  delta g_law_bad
  exact (vb_cons (O1 := [2]) (vs_set 2 (O := []) (O' := [2]) gd.nd (ve_listF (by rfl) m_list (va_cons (ve_ix gd (ve_var 0) ve_int) va_nil))) (vb_cons (O1 := [2, 3]) (vs_set 3 (O := [2]) (O' := [2, 3]) gd.nd (ve_listF (by rfl) m_list (va_cons (ve_ix gd (ve_var 0) ve_int) va_nil))) (vb_cons (O1 := [2, 3]) (vs_set 4 (O := [2, 3]) (O' := [2, 3]) gd.nd (ve_fn D_law_cell hr (by decide) tk (by rfl) (va_cons (ve_var 1) (va_cons ve_int va_nil)))) (vb_cons (O1 := [2, 3, 5]) (vs_set 5 (O := [2, 3]) (O' := [2, 3, 5]) gd.nd (ve_mod (ve_fn D_law_cell hr (by decide) tk (by rfl) (va_cons (ve_var 1) (va_cons ve_int va_nil))) (ve_len (by rfl) m_len (va_cons (ve_var 2) va_nil)))) (vb_cons (O1 := [2, 3, 5, 6]) (vs_set 6 (O := [2, 3, 5]) (O' := [2, 3, 5, 6]) gd.nd (ve_mod (ve_fn D_law_cell hr (by decide) tk (by rfl) (va_cons (ve_var 1) (va_cons ve_int va_nil))) (ve_len (by rfl) m_len (va_cons (ve_var 3) va_nil)))) (vb_cons (O1 := [2, 3, 5, 6]) (vs_if (O := [2, 3, 5, 6]) (O' := [2, 3, 5, 6]) (vt_cmp (ok_eq gd.hu64) bo_eq (ve_mod (ve_fn D_law_cell hr (by decide) tk (by rfl) (va_cons (ve_var 1) (va_cons ve_int va_nil))) ve_int) ve_int) (vb_cons (O1 := [2, 3, 5, 6]) (vs_put 2 (O := [2, 3, 5, 6]) (ve_fn D_law_wish hr (by decide) tk (by rfl) (va_cons (ve_ix gd (ve_var 2) (ve_var 5)) (va_cons (ve_len (by rfl) m_len (va_cons (ve_var 3) va_nil)) (va_cons (ve_var 4) va_nil)))) (ve_var 5)) (vb_cons (O1 := [2, 3, 5, 6]) (vs_if (O := [2, 3, 5, 6]) (O' := [2, 3, 5, 6]) (vt_cmp (ok_eq gd.hu64) bo_eq (ve_mod (ve_var 4) ve_int) ve_int) (vb_cons (O1 := [2, 3, 5, 6]) (vs_put 3 (O := [2, 3, 5, 6]) (ve_fn D_law_house hr (by decide) tk (by rfl) (va_cons (ve_ix gd (ve_var 3) (ve_var 6)) (va_cons (ve_len (by rfl) m_len (va_cons (ve_var 2) va_nil)) (va_cons (ve_div (ve_var 4) ve_int) va_nil)))) (ve_var 6)) (vb_nil (O := [2, 3, 5, 6]) (O' := [2, 3, 5, 6]))) (vb_nil (O := [2, 3, 5, 6]) (O' := [2, 3, 5, 6]))) (vb_cons (O1 := [2, 3, 5, 6]) (vs_ret (O := [2, 3, 5, 6]) (O' := [2, 3, 5, 6]) (ve_tup (va_cons (ve_tup (va_cons (ve_tupleOf (by rfl) m_tuple (va_cons (ve_var 2) va_nil)) (va_cons (ve_tupleOf (by rfl) m_tuple (va_cons (ve_var 3) va_nil)) va_nil))) (va_cons (ve_tup (va_cons ve_str (va_cons (ve_var 5) va_nil))) va_nil)))) (vb_nil (O := [2, 3, 5, 6]) (O' := [2, 3, 5, 6]))))) (vb_nil (O := [2, 3, 5, 6]) (O' := [2, 3, 5, 6]))) (vb_cons (O1 := [2, 3, 5, 6]) (vs_put 3 (O := [2, 3, 5, 6]) (ve_fn D_law_house hr (by decide) tk (by rfl) (va_cons (ve_ix gd (ve_var 3) (ve_var 6)) (va_cons (ve_len (by rfl) m_len (va_cons (ve_var 2) va_nil)) (va_cons (ve_var 4) va_nil)))) (ve_var 6)) (vb_cons (O1 := [2, 3, 5, 6]) (vs_if (O := [2, 3, 5, 6]) (O' := [2, 3, 5, 6]) (vt_pw (vw_and (vt_cmp ok_lt bo_lt (ve_add (ve_var 6) ve_int) (ve_len (by rfl) m_len (va_cons (ve_var 3) va_nil))) (vw_and1 (vt_cmp (ok_eq gd.hu64) bo_eq (ve_mod (ve_var 4) ve_int) ve_int)))) (vb_cons (O1 := [2, 3, 5, 6]) (vs_put 3 (O := [2, 3, 5, 6]) ve_non (ve_neg ve_int)) (vb_nil (O := [2, 3, 5, 6]) (O' := [2, 3, 5, 6]))) (vb_nil (O := [2, 3, 5, 6]) (O' := [2, 3, 5, 6]))) (vb_cons (O1 := []) (vs_ret (O := [2, 3, 5, 6]) (O' := []) (ve_tup (va_cons (ve_tup (va_cons (ve_tupleOf (by rfl) m_tuple (va_cons (ve_var 2) va_nil)) (va_cons (ve_tupleOf (by rfl) m_tuple (va_cons (ve_var 3) va_nil)) va_nil))) (va_cons (ve_tup (va_cons ve_str (va_cons (ve_var 6) va_nil))) va_nil)))) (vb_nil (O := []) (O' := [])))))))))))
theorem v_law {f : Addr} {fd : FuncData} (F : Fun K "law" "law" s_law f fd) (D_law_fair : Dn P w K mg base ec 3 "_law_fair" m_law_fair) (D_law_cell : Dn P w K mg base ec 1 "_law_cell" m_law_cell) (D_checked : Dn P w K mg base ec 4 "checked" m_checked_k18) (D_law_told : Dn P w K mg base ec 5 "_law_told" m_law_told_k01) (D_law_frame : Dn P w K mg base ec 1 "_law_frame" m_law_frame) (D_law_bad : Dn P w K mg base ec 2 "_law_bad" m_law_bad) : FnOk P w K mg base (L2.CX P w) 6 f fd ["_law_script"] (spV K ec (mkFn 1 5 g_law_k01)) := by
  refine fn_v (k := 5) (g := g_law_k01) (O' := []) F sc_law rfl rfl fun cdv A outer s H E hr => ?_
  have gd := gd_mk (X := cxOf (L2.CX P w) P w K mg base ["_law_script", "_law_fair_here", "_law_way", "_law_bad_here", "_law_at"] "law" (defScope s_law) f cdv A outer s H E) hr sc_law.nd
  have tk := takes_of (X := cxOf (L2.CX P w) P w K mg base ["_law_script", "_law_fair_here", "_law_way", "_law_bad_here", "_law_at"] "law" (defScope s_law) f cdv A outer s H E) (E := E) rfl rfl rfl rfl
  have pw : PassesOwn (model P w) (A.deeper (envOfC "law" (defScope s_law) s.heap.objs.size f cdv)) (envOfC "law" (defScope s_law) s.heap.objs.size f cdv) (cxOf (L2.CX P w) P w K mg base ["_law_script", "_law_fair_here", "_law_way", "_law_bad_here", "_law_at"] "law" (defScope s_law) f cdv A outer s H E).xe := PassesOwn.leaving
  delta g_law_k01
  exact (vb_cons (O1 := []) (vs_set 1 (O := []) (O' := []) gd.nd (ve_fn D_law_fair hr (by decide) tk (by rfl) (va_cons (ve_var 0) (va_cons ve_int va_nil)))) (vb_cons (O1 := []) (vs_set 2 (O := []) (O' := []) gd.nd (ve_mod (ve_fn D_law_cell hr (by decide) tk (by rfl) (va_cons (ve_var 0) (va_cons ve_int va_nil))) ve_int)) (vb_cons (O1 := []) (vs_if (O := []) (O' := []) (vt_cmp ok_lt bo_lt (ve_var 2) ve_int) (vb_cons (O1 := []) (vs_ret (O := []) (O' := []) (ve_and (ve_cmpB (ok_eq gd.hu64) bo_eq (ve_fn D_checked hr (by decide) tk (by rfl) (va_cons (ve_var 1) va_nil)) (ve_var 1)) (ve_one (ve_cmpB (ok_eq gd.hu64) bo_eq (ve_fn D_law_told hr (by decide) tk (by rfl) (va_cons (ve_var 1) va_nil)) (ve_tup (va_cons (ve_lst va_nil) (va_cons ve_int va_nil))))))) (vb_nil (O := []) (O' := []))) (vb_nil (O := []) (O' := []))) (vb_cons (O1 := []) (vs_if (O := []) (O' := []) (vt_cmp (ok_eq gd.hu64) bo_eq (ve_var 2) ve_int) (vb_cons (O1 := []) (vs_ret (O := []) (O' := []) (ve_cmpB (ok_eq gd.hu64) bo_eq (ve_fn D_law_told hr (by decide) tk (by rfl) (va_cons (ve_fn D_law_frame hr (by decide) tk (by rfl) (va_cons (ve_var 1) (va_cons (ve_fn D_law_cell hr (by decide) tk (by rfl) (va_cons (ve_var 0) (va_cons ve_int va_nil))) va_nil))) va_nil)) (ve_tup (va_cons (ve_lst (va_cons ve_bl (va_cons ve_bl va_nil))) (va_cons ve_non va_nil))))) (vb_nil (O := []) (O' := []))) (vb_nil (O := []) (O' := []))) (vb_cons (O1 := []) (vs_asgT (O := []) (O' := []) (pr := false) (ve_fn D_law_bad hr (by decide) tk (by rfl) (va_cons (ve_var 1) (va_cons (ve_var 0) va_nil))) (vg_pair 3 4 rfl gd.nd)) (vb_cons (O1 := []) (vs_ret (O := []) (O' := []) (ve_cmpB (ok_eq gd.hu64) bo_eq (ve_fn D_law_told hr (by decide) tk (by rfl) (va_cons (ve_var 3) va_nil)) (ve_tup (va_cons (ve_lst (va_cons ve_bl (va_cons ve_bl va_nil))) (va_cons (ve_var 4) va_nil))))) (vb_nil (O := []) (O' := []))))))))
end
set_option maxHeartbeats 0 in
theorem all_mk {l : PySem.W.OpenLaw} {w : World} {K : PySem.W.Frag} {h : Heap} {mg : Str → Option Value} {fa : Addr} (X : K.In h) (G : h.Ns mainGlobals mg) (hfa : mg "law" = some (.ref fa))
    {f_is_within : Addr} {od_is_within an_is_within : Option Addr} {sl_is_within : Array (Option Value)} {oc_is_within kV_is_within dc_is_within pm_is_within cd_is_within ct_is_within : Value}
    (a_is_within : PySem.W.nsIn K mainGlobals "is_within" = some (some (.ref f_is_within))) (l_is_within : K.lookup f_is_within = some ⟨oc_is_within, od_is_within, .func (PySem.W.fnOf "is_within" "is_within" (defArgs s_is_within) (defBody s_is_within) (defScope s_is_within) .none kV_is_within dc_is_within pm_is_within an_is_within cd_is_within ct_is_within), sl_is_within⟩) (c_is_within : PySem.W.codeIn K cd_is_within "is_within" = true) (k_is_within : PySem.W.keepIn K (.ref f_is_within) = true)
    {f_are_unlike : Addr} {od_are_unlike an_are_unlike : Option Addr} {sl_are_unlike : Array (Option Value)} {oc_are_unlike kV_are_unlike dc_are_unlike pm_are_unlike cd_are_unlike ct_are_unlike : Value}
    (a_are_unlike : PySem.W.nsIn K mainGlobals "are_unlike" = some (some (.ref f_are_unlike))) (l_are_unlike : K.lookup f_are_unlike = some ⟨oc_are_unlike, od_are_unlike, .func (PySem.W.fnOf "are_unlike" "are_unlike" (defArgs s_are_unlike) (defBody s_are_unlike) (defScope s_are_unlike) .none kV_are_unlike dc_are_unlike pm_are_unlike an_are_unlike cd_are_unlike ct_are_unlike), sl_are_unlike⟩) (c_are_unlike : PySem.W.codeIn K cd_are_unlike "are_unlike" = true) (k_are_unlike : PySem.W.keepIn K (.ref f_are_unlike) = true)
    {f_is_house : Addr} {od_is_house an_is_house : Option Addr} {sl_is_house : Array (Option Value)} {oc_is_house kV_is_house dc_is_house pm_is_house cd_is_house ct_is_house : Value}
    (a_is_house : PySem.W.nsIn K mainGlobals "is_house" = some (some (.ref f_is_house))) (l_is_house : K.lookup f_is_house = some ⟨oc_is_house, od_is_house, .func (PySem.W.fnOf "is_house" "is_house" (defArgs s_is_house) (defBody s_is_house) (defScope s_is_house) .none kV_is_house dc_is_house pm_is_house an_is_house cd_is_house ct_is_house), sl_is_house⟩) (c_is_house : PySem.W.codeIn K cd_is_house "is_house" = true) (k_is_house : PySem.W.keepIn K (.ref f_is_house) = true)
    {f_is_frame : Addr} {od_is_frame an_is_frame : Option Addr} {sl_is_frame : Array (Option Value)} {oc_is_frame kV_is_frame dc_is_frame pm_is_frame cd_is_frame ct_is_frame : Value}
    (a_is_frame : PySem.W.nsIn K mainGlobals "is_frame" = some (some (.ref f_is_frame))) (l_is_frame : K.lookup f_is_frame = some ⟨oc_is_frame, od_is_frame, .func (PySem.W.fnOf "is_frame" "is_frame" (defArgs s_is_frame) (defBody s_is_frame) (defScope s_is_frame) .none kV_is_frame dc_is_frame pm_is_frame an_is_frame cd_is_frame ct_is_frame), sl_is_frame⟩) (c_is_frame : PySem.W.codeIn K cd_is_frame "is_frame" = true) (k_is_frame : PySem.W.keepIn K (.ref f_is_frame) = true)
    {f_checked : Addr} {od_checked an_checked : Option Addr} {sl_checked : Array (Option Value)} {oc_checked kV_checked dc_checked pm_checked cd_checked ct_checked : Value}
    (a_checked : PySem.W.nsIn K mainGlobals "checked" = some (some (.ref f_checked))) (l_checked : K.lookup f_checked = some ⟨oc_checked, od_checked, .func (PySem.W.fnOf "checked" "checked" (defArgs s_checked) (defBody s_checked) (defScope s_checked) .none kV_checked dc_checked pm_checked an_checked cd_checked ct_checked), sl_checked⟩) (c_checked : PySem.W.codeIn K cd_checked "checked" = true) (k_checked : PySem.W.keepIn K (.ref f_checked) = true)
    {f_law_cell : Addr} {od_law_cell an_law_cell : Option Addr} {sl_law_cell : Array (Option Value)} {oc_law_cell kV_law_cell dc_law_cell pm_law_cell cd_law_cell ct_law_cell : Value}
    (a_law_cell : PySem.W.nsIn K mainGlobals "_law_cell" = some (some (.ref f_law_cell))) (l_law_cell : K.lookup f_law_cell = some ⟨oc_law_cell, od_law_cell, .func (PySem.W.fnOf "_law_cell" "_law_cell" (defArgs s_law_cell) (defBody s_law_cell) (defScope s_law_cell) .none kV_law_cell dc_law_cell pm_law_cell an_law_cell cd_law_cell ct_law_cell), sl_law_cell⟩) (c_law_cell : PySem.W.codeIn K cd_law_cell "_law_cell" = true) (k_law_cell : PySem.W.keepIn K (.ref f_law_cell) = true)
    {f_law_mix : Addr} {od_law_mix an_law_mix : Option Addr} {sl_law_mix : Array (Option Value)} {oc_law_mix kV_law_mix dc_law_mix pm_law_mix cd_law_mix ct_law_mix : Value}
    (a_law_mix : PySem.W.nsIn K mainGlobals "_law_mix" = some (some (.ref f_law_mix))) (l_law_mix : K.lookup f_law_mix = some ⟨oc_law_mix, od_law_mix, .func (PySem.W.fnOf "_law_mix" "_law_mix" (defArgs s_law_mix) (defBody s_law_mix) (defScope s_law_mix) .none kV_law_mix dc_law_mix pm_law_mix an_law_mix cd_law_mix ct_law_mix), sl_law_mix⟩) (c_law_mix : PySem.W.codeIn K cd_law_mix "_law_mix" = true) (k_law_mix : PySem.W.keepIn K (.ref f_law_mix) = true)
    {f_law_large : Addr} {od_law_large an_law_large : Option Addr} {sl_law_large : Array (Option Value)} {oc_law_large kV_law_large dc_law_large pm_law_large cd_law_large ct_law_large : Value}
    (a_law_large : PySem.W.nsIn K mainGlobals "_law_large" = some (some (.ref f_law_large))) (l_law_large : K.lookup f_law_large = some ⟨oc_law_large, od_law_large, .func (PySem.W.fnOf "_law_large" "_law_large" (defArgs s_law_large) (defBody s_law_large) (defScope s_law_large) .none kV_law_large dc_law_large pm_law_large an_law_large cd_law_large ct_law_large), sl_law_large⟩) (c_law_large : PySem.W.codeIn K cd_law_large "_law_large" = true) (k_law_large : PySem.W.keepIn K (.ref f_law_large) = true)
    {f_law_some : Addr} {od_law_some an_law_some : Option Addr} {sl_law_some : Array (Option Value)} {oc_law_some kV_law_some dc_law_some pm_law_some cd_law_some ct_law_some : Value}
    (a_law_some : PySem.W.nsIn K mainGlobals "_law_some" = some (some (.ref f_law_some))) (l_law_some : K.lookup f_law_some = some ⟨oc_law_some, od_law_some, .func (PySem.W.fnOf "_law_some" "_law_some" (defArgs s_law_some) (defBody s_law_some) (defScope s_law_some) .none kV_law_some dc_law_some pm_law_some an_law_some cd_law_some ct_law_some), sl_law_some⟩) (c_law_some : PySem.W.codeIn K cd_law_some "_law_some" = true) (k_law_some : PySem.W.keepIn K (.ref f_law_some) = true)
    {f_law_fair : Addr} {od_law_fair an_law_fair : Option Addr} {sl_law_fair : Array (Option Value)} {oc_law_fair kV_law_fair dc_law_fair pm_law_fair cd_law_fair ct_law_fair : Value}
    (a_law_fair : PySem.W.nsIn K mainGlobals "_law_fair" = some (some (.ref f_law_fair))) (l_law_fair : K.lookup f_law_fair = some ⟨oc_law_fair, od_law_fair, .func (PySem.W.fnOf "_law_fair" "_law_fair" (defArgs s_law_fair) (defBody s_law_fair) (defScope s_law_fair) .none kV_law_fair dc_law_fair pm_law_fair an_law_fair cd_law_fair ct_law_fair), sl_law_fair⟩) (c_law_fair : PySem.W.codeIn K cd_law_fair "_law_fair" = true) (k_law_fair : PySem.W.keepIn K (.ref f_law_fair) = true)
    {f_law_told : Addr} {od_law_told an_law_told : Option Addr} {sl_law_told : Array (Option Value)} {oc_law_told kV_law_told dc_law_told pm_law_told cd_law_told ct_law_told : Value}
    (a_law_told : PySem.W.nsIn K mainGlobals "_law_told" = some (some (.ref f_law_told))) (l_law_told : K.lookup f_law_told = some ⟨oc_law_told, od_law_told, .func (PySem.W.fnOf "_law_told" "_law_told" (defArgs s_law_told) (defBody s_law_told) (defScope s_law_told) .none kV_law_told dc_law_told pm_law_told an_law_told cd_law_told ct_law_told), sl_law_told⟩) (c_law_told : PySem.W.codeIn K cd_law_told "_law_told" = true) (k_law_told : PySem.W.keepIn K (.ref f_law_told) = true)
    {f_law_frame : Addr} {od_law_frame an_law_frame : Option Addr} {sl_law_frame : Array (Option Value)} {oc_law_frame kV_law_frame dc_law_frame pm_law_frame cd_law_frame ct_law_frame : Value}
    (a_law_frame : PySem.W.nsIn K mainGlobals "_law_frame" = some (some (.ref f_law_frame))) (l_law_frame : K.lookup f_law_frame = some ⟨oc_law_frame, od_law_frame, .func (PySem.W.fnOf "_law_frame" "_law_frame" (defArgs s_law_frame) (defBody s_law_frame) (defScope s_law_frame) .none kV_law_frame dc_law_frame pm_law_frame an_law_frame cd_law_frame ct_law_frame), sl_law_frame⟩) (c_law_frame : PySem.W.codeIn K cd_law_frame "_law_frame" = true) (k_law_frame : PySem.W.keepIn K (.ref f_law_frame) = true)
    {f_law_wish : Addr} {od_law_wish an_law_wish : Option Addr} {sl_law_wish : Array (Option Value)} {oc_law_wish kV_law_wish dc_law_wish pm_law_wish cd_law_wish ct_law_wish : Value}
    (a_law_wish : PySem.W.nsIn K mainGlobals "_law_wish" = some (some (.ref f_law_wish))) (l_law_wish : K.lookup f_law_wish = some ⟨oc_law_wish, od_law_wish, .func (PySem.W.fnOf "_law_wish" "_law_wish" (defArgs s_law_wish) (defBody s_law_wish) (defScope s_law_wish) .none kV_law_wish dc_law_wish pm_law_wish an_law_wish cd_law_wish ct_law_wish), sl_law_wish⟩) (c_law_wish : PySem.W.codeIn K cd_law_wish "_law_wish" = true) (k_law_wish : PySem.W.keepIn K (.ref f_law_wish) = true)
    {f_law_house : Addr} {od_law_house an_law_house : Option Addr} {sl_law_house : Array (Option Value)} {oc_law_house kV_law_house dc_law_house pm_law_house cd_law_house ct_law_house : Value}
    (a_law_house : PySem.W.nsIn K mainGlobals "_law_house" = some (some (.ref f_law_house))) (l_law_house : K.lookup f_law_house = some ⟨oc_law_house, od_law_house, .func (PySem.W.fnOf "_law_house" "_law_house" (defArgs s_law_house) (defBody s_law_house) (defScope s_law_house) .none kV_law_house dc_law_house pm_law_house an_law_house cd_law_house ct_law_house), sl_law_house⟩) (c_law_house : PySem.W.codeIn K cd_law_house "_law_house" = true) (k_law_house : PySem.W.keepIn K (.ref f_law_house) = true)
    {f_law_bad : Addr} {od_law_bad an_law_bad : Option Addr} {sl_law_bad : Array (Option Value)} {oc_law_bad kV_law_bad dc_law_bad pm_law_bad cd_law_bad ct_law_bad : Value}
    (a_law_bad : PySem.W.nsIn K mainGlobals "_law_bad" = some (some (.ref f_law_bad))) (l_law_bad : K.lookup f_law_bad = some ⟨oc_law_bad, od_law_bad, .func (PySem.W.fnOf "_law_bad" "_law_bad" (defArgs s_law_bad) (defBody s_law_bad) (defScope s_law_bad) .none kV_law_bad dc_law_bad pm_law_bad an_law_bad cd_law_bad ct_law_bad), sl_law_bad⟩) (c_law_bad : PySem.W.codeIn K cd_law_bad "_law_bad" = true) (k_law_bad : PySem.W.keepIn K (.ref f_law_bad) = true)
    {f_law : Addr} {od_law an_law : Option Addr} {sl_law : Array (Option Value)} {oc_law kV_law dc_law pm_law cd_law ct_law : Value}
    (a_law : PySem.W.nsIn K mainGlobals "law" = some (some (.ref f_law))) (l_law : K.lookup f_law = some ⟨oc_law, od_law, .func (PySem.W.fnOf "law" "law" (defArgs s_law) (defBody s_law) (defScope s_law) .none kV_law dc_law pm_law an_law cd_law ct_law), sl_law⟩) (c_law : PySem.W.codeIn K cd_law "law" = true) (k_law : PySem.W.keepIn K (.ref f_law) = true)
    (z_ValueError : PySem.W.nsIn K mainGlobals "ValueError" = some none)
    (z_bool : PySem.W.nsIn K mainGlobals "bool" = some none)
    (z_enumerate : PySem.W.nsIn K mainGlobals "enumerate" = some none)
    (z_int : PySem.W.nsIn K mainGlobals "int" = some none)
    (z_isinstance : PySem.W.nsIn K mainGlobals "isinstance" = some none)
    (z_len : PySem.W.nsIn K mainGlobals "len" = some none)
    (z_list : PySem.W.nsIn K mainGlobals "list" = some none)
    (z_range : PySem.W.nsIn K mainGlobals "range" = some none)
    (z_set : PySem.W.nsIn K mainGlobals "set" = some none)
    (z_sorted : PySem.W.nsIn K mainGlobals "sorted" = some none)
    (z_tuple : PySem.W.nsIn K mainGlobals "tuple" = some none)
    {A_FairError : Addr} (ga_FairError : PySem.W.nsIn K mainGlobals "FairError" = some (some (.ref A_FairError))) (xa_FairError : PySem.W.excIn K A_FairError [.type "ValueError", .type "Exception", .type "BaseException", .type "object"] "ValueError.__new__" = true) (ka_FairError : PySem.W.keepIn K (.ref A_FairError) = true) (ba_FairError : PySem.W.subIn K (.ref A_FairError) (.type "BaseException") = some true) (ta_FairError : PySem.W.typeIn K (.ref A_FairError) = some (.type "type"))
    {A_BadFair : Addr} (ga_BadFair : PySem.W.nsIn K mainGlobals "BadFair" = some (some (.ref A_BadFair)))
    (ka_BadFair : PySem.W.keepIn K (.ref A_BadFair) = true) (ba_BadFair : PySem.W.subIn K (.ref A_BadFair) (.type "BaseException") = some true) (ta_BadFair : PySem.W.typeIn K (.ref A_BadFair) = some (.type "type"))
    (eg_BadFair : PySem.W.findIn K (.ref A_BadFair) "__getattribute__" = some (some (.builtin "BaseException.__getattribute__"))) (ek_BadFair : PySem.W.findIn K (.ref A_BadFair) "__getattr__" = some none) (ed_BadFair : PySem.W.hasDictIn K A_BadFair = true) (ea_BadFair : PySem.W.findIn K (.ref A_BadFair) "__class__" = some (some (.builtin "object.__class__"))) (en_BadFair : PySem.W.specialIn K (.builtin "object.__class__") "__get__" = some (some (.builtin "getset_descriptor.__get__"))) (et_BadFair : PySem.W.takesIn K (.builtin "object.__class__") = some true) (em_BadFair : PySem.W.mroIn K A_BadFair (.type "object") = some true) (ev_BadFair : PySem.W.subIn K (.ref A_BadFair) (.type "ValueError") = some true)
    (ed_FairError : PySem.W.hasDictIn K A_FairError = true)
    (sb_BadFair_BadFair : PySem.W.subIn K (.ref A_BadFair) (.ref A_BadFair) = some true)
    (sb_BadFair_FairError : PySem.W.subIn K (.ref A_BadFair) (.ref A_FairError) = some true)
    (ox_BadFair : oexIn K A_BadFair = true) (sa_BadFair : PySem.W.findIn K (.ref A_BadFair) "__setattr__" = some (some (.builtin "object.__setattr__"))) (na_BadFair : PySem.W.findIn K (.ref A_BadFair) "at" = some none)
    {f_bfi : Addr} (iC_bfi : PySem.W.findIn K (.ref A_BadFair) "__init__" = some (some (.ref f_bfi))) (tI_bfi : PySem.W.typeIn K (.ref f_bfi) = some (.type "function"))
    {od_bfi an_bfi : Option Addr} {sl_bfi : Array (Option Value)} {oc_bfi kV_bfi dc_bfi pm_bfi cd_bfi ct_bfi : Value}
    (l_bfi : K.lookup f_bfi = some ⟨oc_bfi, od_bfi, .func (PySem.W.fnOf "__init__" "BadFair.__init__" (defArgs s_bfi) (defBody s_bfi) (defScope s_bfi) .none kV_bfi dc_bfi pm_bfi an_bfi cd_bfi ct_bfi), sl_bfi⟩) (c_bfi : PySem.W.codeIn K cd_bfi "BadFair.__init__" = true) (k_bfi : PySem.W.keepIn K (.ref f_bfi) = true)
    (rd_FE : PySem.W.readsIn K A_FairError (.type "type") = true) (gs_FE : PySem.W.specialIn K (.ref A_FairError) "__getattribute__" = some (some (.builtin "type.__getattribute__"))) (fc_FE : PySem.W.findCls K (.ref A_FairError) (.type "type") "__init__" = some (.val (.builtin "ValueError.__init__")))
    {u_MOST : Tok} (ca_MOST : PySem.W.nsIn K mainGlobals "MOST" = some (some (.int 5 u_MOST)))
    : ∃ fd : FuncData, (∀ (s : Shared) (v : Value), BindsTo s fd ⟨[v], []⟩ [("_law_script", v)]) ∧ ∀ base : Heap, K.In base → base.Ns mainGlobals mg → FnOk l.prog w K mg base (L2.CX l.prog w) 6 fa fd ["_law_script"] (spL K) := by
  have e := hfa.symm.trans (PySem.W.mg_of X G a_law)
  cases e
  have F_is_within := fun_mk (st := s_is_within) l_is_within c_is_within k_is_within
  have F_are_unlike := fun_mk (st := s_are_unlike) l_are_unlike c_are_unlike k_are_unlike
  have F_is_house := fun_mk (st := s_is_house) l_is_house c_is_house k_is_house
  have F_is_frame := fun_mk (st := s_is_frame) l_is_frame c_is_frame k_is_frame
  have F_checked := fun_mk (st := s_checked) l_checked c_checked k_checked
  have F_law_cell := fun_mk (st := s_law_cell) l_law_cell c_law_cell k_law_cell
  have F_law_mix := fun_mk (st := s_law_mix) l_law_mix c_law_mix k_law_mix
  have F_law_large := fun_mk (st := s_law_large) l_law_large c_law_large k_law_large
  have F_law_some := fun_mk (st := s_law_some) l_law_some c_law_some k_law_some
  have F_law_fair := fun_mk (st := s_law_fair) l_law_fair c_law_fair k_law_fair
  have F_law_told := fun_mk (st := s_law_told) l_law_told c_law_told k_law_told
  have F_law_frame := fun_mk (st := s_law_frame) l_law_frame c_law_frame k_law_frame
  have F_law_wish := fun_mk (st := s_law_wish) l_law_wish c_law_wish k_law_wish
  have F_law_house := fun_mk (st := s_law_house) l_law_house c_law_house k_law_house
  have F_law_bad := fun_mk (st := s_law_bad) l_law_bad c_law_bad k_law_bad
  have F_law := fun_mk (st := s_law) l_law c_law k_law
  have m_ValueError := PySem.W.mg_none_of X G z_ValueError
  have m_bool := PySem.W.mg_none_of X G z_bool
  have m_enumerate := PySem.W.mg_none_of X G z_enumerate
  have m_int := PySem.W.mg_none_of X G z_int
  have m_isinstance := PySem.W.mg_none_of X G z_isinstance
  have m_len := PySem.W.mg_none_of X G z_len
  have m_list := PySem.W.mg_none_of X G z_list
  have m_range := PySem.W.mg_none_of X G z_range
  have m_set := PySem.W.mg_none_of X G z_set
  have m_sorted := PySem.W.mg_none_of X G z_sorted
  have m_tuple := PySem.W.mg_none_of X G z_tuple
  have X_FairError : ExcF K mg "FairError" ((ecOf [(0, A_BadFair), (5, A_FairError)]) 5) := ⟨PySem.W.mg_of X G ga_FairError, xa_FairError, ka_FairError, ba_FairError, ta_FairError⟩
  have G_BadFair : mg "BadFair" = some (.ref ((ecOf [(0, A_BadFair), (5, A_FairError)]) 0)) := PySem.W.mg_of X G ga_BadFair
  have c_MOST := PySem.W.mg_of X G ca_MOST
  have XT : ExcT K (ecOf [(0, A_BadFair), (5, A_FairError)]) [0] [0, 5] := List.forall_mem_cons.mpr ⟨⟨⟨eg_BadFair, ek_BadFair, ba_BadFair, ed_BadFair, ea_BadFair, en_BadFair, et_BadFair, em_BadFair⟩, kitv_of ev_BadFair, List.forall_mem_cons.mpr ⟨excP_mk ba_BadFair ta_BadFair ed_BadFair sb_BadFair_BadFair sb_BadFair_BadFair, List.forall_mem_cons.mpr ⟨excP_mk ba_FairError ta_FairError ed_FairError sb_BadFair_FairError sb_BadFair_BadFair, fun _ h => nomatch h⟩⟩⟩, fun _ h => nomatch h⟩
  refine ⟨PySem.W.fnOf "law" "law" (defArgs s_law) (defBody s_law) (defScope s_law) .none kV_law dc_law pm_law an_law cd_law ct_law, fun s v => .of_eq rfl, fun base _ _ => ?_⟩
  have hox := oex_of ox_BadFair sa_BadFair ba_BadFair ta_BadFair ka_BadFair
  have F_bfi := fun_mk (st := s_bfi) l_bfi c_bfi k_bfi
  have B_BadFair : BfC l.prog w K mg base "BadFair" ((ecOf [(0, A_BadFair), (5, A_FairError)]) 0) := ⟨PySem.W.mg_of X G ga_BadFair, hox, na_BadFair, f_bfi, _, iC_bfi, tI_bfi, v_bfi F_bfi (PySem.W.mg_of X G ga_FairError) ⟨rd_FE, gs_FE, fc_FE⟩ hox na_BadFair, F_bfi.binds (ps := ["self", "at"]) fun _ _ _ _ _ _ us hl => match us, hl with | [_, _], _ => rfl⟩
  have N_at : PySem.W.findIn K (.ref ((ecOf [(0, A_BadFair), (5, A_FairError)]) 0)) "at" = some none := na_BadFair
  have D_is_within : Dn l.prog w K mg base (ecOf [(0, A_BadFair), (5, A_FairError)]) 1 "is_within" m_is_within := dn_v F_is_within (v_is_within F_is_within m_bool m_int m_isinstance) (PySem.W.mg_of X G a_is_within) (F_is_within.binds (ps := ["thing", "low", "high"]) fun _ _ _ _ _ _ us hl => match us, hl with | [_, _, _], _ => rfl)
  have D_is_frame : Dn l.prog w K mg base (ecOf [(0, A_BadFair), (5, A_FairError)]) 1 "is_frame" m_is_frame := dn_v F_is_frame (v_is_frame F_is_frame m_isinstance m_len m_tuple c_MOST) (PySem.W.mg_of X G a_is_frame) (F_is_frame.binds (ps := ["fair"]) fun _ _ _ _ _ _ us hl => match us, hl with | [_], _ => rfl)
  have D_law_cell : Dn l.prog w K mg base (ecOf [(0, A_BadFair), (5, A_FairError)]) 1 "_law_cell" m_law_cell := dn_v F_law_cell (v_law_cell F_law_cell m_len) (PySem.W.mg_of X G a_law_cell) (F_law_cell.binds (ps := ["_law_script", "_law_k"]) fun _ _ _ _ _ _ us hl => match us, hl with | [_, _], _ => rfl)
  have D_law_mix : Dn l.prog w K mg base (ecOf [(0, A_BadFair), (5, A_FairError)]) 1 "_law_mix" m_law_mix := dn_v F_law_mix (v_law_mix F_law_mix) (PySem.W.mg_of X G a_law_mix) (F_law_mix.binds (ps := ["_law_cell_here", "_law_prime", "_law_many"]) fun _ _ _ _ _ _ us hl => match us, hl with | [_, _, _], _ => rfl)
  have D_law_frame : Dn l.prog w K mg base (ecOf [(0, A_BadFair), (5, A_FairError)]) 1 "_law_frame" m_law_frame := dn_v F_law_frame (v_law_frame F_law_frame m_list) (PySem.W.mg_of X G a_law_frame) (F_law_frame.binds (ps := ["_law_fair_here", "_law_way"]) fun _ _ _ _ _ _ us hl => match us, hl with | [_, _], _ => rfl)
  have D_law_wish : Dn l.prog w K mg base (ecOf [(0, A_BadFair), (5, A_FairError)]) 1 "_law_wish" m_law_wish := dn_v F_law_wish (v_law_wish F_law_wish m_list) (PySem.W.mg_of X G a_law_wish) (F_law_wish.binds (ps := ["_law_wish_here", "_law_houses", "_law_way"]) fun _ _ _ _ _ _ us hl => match us, hl with | [_, _, _], _ => rfl)
  have D_law_house : Dn l.prog w K mg base (ecOf [(0, A_BadFair), (5, A_FairError)]) 1 "_law_house" m_law_house := dn_v F_law_house (v_law_house F_law_house m_list) (PySem.W.mg_of X G a_law_house) (F_law_house.binds (ps := ["_law_house_here", "_law_guests", "_law_way"]) fun _ _ _ _ _ _ us hl => match us, hl with | [_, _, _], _ => rfl)
  have D_are_unlike : Dn l.prog w K mg base (ecOf [(0, A_BadFair), (5, A_FairError)]) 2 "are_unlike" m_are_unlike := dn_v F_are_unlike (v_are_unlike F_are_unlike m_isinstance m_len m_set m_tuple D_is_within) (PySem.W.mg_of X G a_are_unlike) (F_are_unlike.binds (ps := ["thing", "many"]) fun _ _ _ _ _ _ us hl => match us, hl with | [_, _], _ => rfl)
  have D_law_large : Dn l.prog w K mg base (ecOf [(0, A_BadFair), (5, A_FairError)]) 2 "_law_large" m_law_large := dn_v F_law_large (v_law_large F_law_large m_len D_law_mix D_law_cell) (PySem.W.mg_of X G a_law_large) (F_law_large.binds (ps := ["_law_script"]) fun _ _ _ _ _ _ us hl => match us, hl with | [_], _ => rfl)
  have D_law_some : Dn l.prog w K mg base (ecOf [(0, A_BadFair), (5, A_FairError)]) 2 "_law_some" m_law_some := dn_v F_law_some (v_law_some F_law_some m_range m_sorted m_tuple D_law_mix) (PySem.W.mg_of X G a_law_some) (F_law_some.binds (ps := ["_law_seed", "_law_many", "_law_all_of_them"]) fun _ _ _ _ _ _ us hl => match us, hl with | [_, _, _], _ => rfl)
  have D_law_bad : Dn l.prog w K mg base (ecOf [(0, A_BadFair), (5, A_FairError)]) 2 "_law_bad" m_law_bad := dn_v F_law_bad (v_law_bad F_law_bad m_len m_list m_tuple D_law_cell D_law_wish D_law_house) (PySem.W.mg_of X G a_law_bad) (F_law_bad.binds (ps := ["_law_fair_here", "_law_script"]) fun _ _ _ _ _ _ us hl => match us, hl with | [_, _], _ => rfl)
  have D_is_house : Dn l.prog w K mg base (ecOf [(0, A_BadFair), (5, A_FairError)]) 3 "is_house" m_is_house := dn_v F_is_house (v_is_house F_is_house m_isinstance m_len m_tuple c_MOST D_is_within D_are_unlike) (PySem.W.mg_of X G a_is_house) (F_is_house.binds (ps := ["thing", "guests"]) fun _ _ _ _ _ _ us hl => match us, hl with | [_, _], _ => rfl)
  have D_law_fair : Dn l.prog w K mg base (ecOf [(0, A_BadFair), (5, A_FairError)]) 3 "_law_fair" m_law_fair := dn_v F_law_fair (v_law_fair F_law_fair m_int m_len m_range m_tuple D_law_cell D_law_mix D_law_large D_law_some) (PySem.W.mg_of X G a_law_fair) (F_law_fair.binds (ps := ["_law_script", "_law_at"]) fun _ _ _ _ _ _ us hl => match us, hl with | [_, _], _ => rfl)
  have D_checked : Dn l.prog w K mg base (ecOf [(0, A_BadFair), (5, A_FairError)]) 4 "checked" m_checked_k18 := dn_v F_checked (v_checked F_checked m_enumerate m_len B_BadFair D_is_frame D_are_unlike D_is_house) (PySem.W.mg_of X G a_checked) (F_checked.binds (ps := ["fair"]) fun _ _ _ _ _ _ us hl => match us, hl with | [_], _ => rfl)
  have D_law_told : Dn l.prog w K mg base (ecOf [(0, A_BadFair), (5, A_FairError)]) 5 "_law_told" m_law_told_k01 := dn_v F_law_told (v_law_told F_law_told m_ValueError m_isinstance X_FairError G_BadFair XT N_at D_checked) (PySem.W.mg_of X G a_law_told) (F_law_told.binds (ps := ["_law_fair_here"]) fun _ _ _ _ _ _ us hl => match us, hl with | [_], _ => rfl)
  exact law_imp (ec := (ecOf [(0, A_BadFair), (5, A_FairError)])) MT.main_k01 (v_law F_law D_law_fair D_law_cell D_checked D_law_told D_law_frame D_law_bad)
end LW
open PySem PySem.W PyProof.Rows
set_option maxHeartbeats 0 in
theorem PySem.Challenge.cw_lodgefair_k01_fairs_holds : PySem.Challenge.rw_lodgefair_k01_fairs.Holds := by
  w_on; o_law; k_head; (case hw => w_witness2)
  k_fill
  refine L2.walk_of (l := PySem.Challenge.rw_lodgefair_k01_fairs) (n := 63) (k := 6) (x := "_law_script") (CX := fun w => L2.CX PySem.Challenge.rw_lodgefair_k01_fairs.prog w) (sp := fun w => PV.spL _) rfl (by decide) rfl ⟨rfl, by decide, by decide⟩ (fun w h Y => PySem.W.kIn_of Y) ?F (fun _ _ a ns hl o hS => ⟨a, ns, rfl, hl, PV.fz_only o hS, fun _ => rfl⟩) (fun _ _ _ _ _ h => PV.cx_none h)
  case F =>
    intro w mg fa h KX G hmg
    refine' LW.all_mk KX G hmg ?a_is_within ?l_is_within ?c_is_within ?k_is_within ?a_are_unlike ?l_are_unlike ?c_are_unlike ?k_are_unlike ?a_is_house ?l_is_house ?c_is_house ?k_is_house ?a_is_frame ?l_is_frame ?c_is_frame ?k_is_frame ?a_checked ?l_checked ?c_checked ?k_checked ?a_law_cell ?l_law_cell ?c_law_cell ?k_law_cell ?a_law_mix ?l_law_mix ?c_law_mix ?k_law_mix ?a_law_large ?l_law_large ?c_law_large ?k_law_large ?a_law_some ?l_law_some ?c_law_some ?k_law_some ?a_law_fair ?l_law_fair ?c_law_fair ?k_law_fair ?a_law_told ?l_law_told ?c_law_told ?k_law_told ?a_law_frame ?l_law_frame ?c_law_frame ?k_law_frame ?a_law_wish ?l_law_wish ?c_law_wish ?k_law_wish ?a_law_house ?l_law_house ?c_law_house ?k_law_house ?a_law_bad ?l_law_bad ?c_law_bad ?k_law_bad ?a_law ?l_law ?c_law ?k_law ?z_ValueError ?z_bool ?z_enumerate ?z_int ?z_isinstance ?z_len ?z_list ?z_range ?z_set ?z_sorted ?z_tuple ?ga_FairError ?xa_FairError ?ka_FairError ?ba_FairError ?ta_FairError ?ga_BadFair ?ka_BadFair ?ba_BadFair ?ta_BadFair ?eg_BadFair ?ek_BadFair ?ed_BadFair ?ea_BadFair ?en_BadFair ?et_BadFair ?em_BadFair ?ev_BadFair ?ed_FairError ?sb_BadFair_BadFair ?sb_BadFair_FairError ?ox_BadFair ?sa_BadFair ?na_BadFair ?iC_bfi ?tI_bfi ?l_bfi ?c_bfi ?k_bfi ?rd_FE ?gs_FE ?fc_FE ?ca_MOST
    (case a_is_within => k_is); (case l_is_within => k_is); (case c_is_within => k_is); (case k_is_within => k_is); (case a_are_unlike => k_is); (case l_are_unlike => k_is); (case c_are_unlike => k_is); (case k_are_unlike => k_is); (case a_is_house => k_is); (case l_is_house => k_is); (case c_is_house => k_is); (case k_is_house => k_is); (case a_is_frame => k_is); (case l_is_frame => k_is); (case c_is_frame => k_is); (case k_is_frame => k_is); (case a_checked => k_is); (case l_checked => k_is); (case c_checked => k_is); (case k_checked => k_is); (case a_law_cell => k_is); (case l_law_cell => k_is); (case c_law_cell => k_is); (case k_law_cell => k_is); (case a_law_mix => k_is); (case l_law_mix => k_is); (case c_law_mix => k_is); (case k_law_mix => k_is); (case a_law_large => k_is); (case l_law_large => k_is); (case c_law_large => k_is); (case k_law_large => k_is); (case a_law_some => k_is); (case l_law_some => k_is); (case c_law_some => k_is); (case k_law_some => k_is); (case a_law_fair => k_is); (case l_law_fair => k_is); (case c_law_fair => k_is); (case k_law_fair => k_is); (case a_law_told => k_is); (case l_law_told => k_is); (case c_law_told => k_is); (case k_law_told => k_is); (case a_law_frame => k_is); (case l_law_frame => k_is); (case c_law_frame => k_is); (case k_law_frame => k_is); (case a_law_wish => k_is); (case l_law_wish => k_is); (case c_law_wish => k_is); (case k_law_wish => k_is); (case a_law_house => k_is); (case l_law_house => k_is); (case c_law_house => k_is); (case k_law_house => k_is); (case a_law_bad => k_is); (case l_law_bad => k_is); (case c_law_bad => k_is); (case k_law_bad => k_is); (case a_law => k_is); (case l_law => k_is); (case c_law => k_is); (case k_law => k_is); (case z_ValueError => k_is); (case z_bool => k_is); (case z_enumerate => k_is); (case z_int => k_is); (case z_isinstance => k_is); (case z_len => k_is); (case z_list => k_is); (case z_range => k_is); (case z_set => k_is); (case z_sorted => k_is); (case z_tuple => k_is); (case ga_FairError => k_is); (case xa_FairError => k_exc); (case ka_FairError => k_is); (case ba_FairError => k_is); (case ta_FairError => k_is); (case ga_BadFair => k_is); (case ka_BadFair => k_is); (case ba_BadFair => k_is); (case ta_BadFair => k_is); (case eg_BadFair => k_is); (case ek_BadFair => k_is); (case ed_BadFair => k_is); (case ea_BadFair => k_is); (case en_BadFair => k_is); (case et_BadFair => k_is); (case em_BadFair => k_is); (case ev_BadFair => k_is); (case ed_FairError => k_is); (case sb_BadFair_BadFair => first | rfl | k_is); (case sb_BadFair_FairError => first | rfl | k_is); (case ox_BadFair => first | rfl | decide +kernel | k_is); (case sa_BadFair => k_is); (case na_BadFair => k_is); (case iC_bfi => k_is); (case tI_bfi => k_is); (case l_bfi => k_is); (case c_bfi => k_is); (case k_bfi => k_is); (case rd_FE => first | rfl | decide +kernel | k_is); (case gs_FE => first | rfl | decide +kernel | k_is); (case fc_FE => first | rfl | decide +kernel | k_is); (case ca_MOST => k_is)
