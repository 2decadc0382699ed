import PyProof.Rows.All
import Wide.All
import OpenK.AllK
import Wide.FinOn
import HandS.ForMost
import HandS.Dict
import HandS.Words
import KE.KDictKeyed
import KE.KeyNested
import HandS.Small
import HandS.Wide
import KE.IntBitsLaws
import HandS.Style
import HandS.SortInts
import HandS.ListItems
import HandS.More
import HandS.Defaults
import HandS.Property
import HandS.MakeKw
import HandS.TupLen
import HandS.EndBits
import HandS.HeadEnd
import PyProof.ReprRoads
import PyProof.CallFns
import HandS.MakeKwOnly
import KE.KOpsOwn
import HandS.Codes
import HandS.Comp
import HandS.HeadHook2
import HandS.Star
import KE.KDictDisplayH
import HandS.Set
import HandS.SetFor
import PyProof.SetScanFacts
import PyProof.Rows.SetFrom
import PyProof.Rows.SortShellK
import PyProof.Rows.SortStr
import HandS.NoneIn
import HandS.HeadHook1
import HandS.DictComp
import KE.SortData
import HandS.Conv
import KE.KStateDown
import Lean
import HandS.Ends
import HandS.WordsExc
import HandS.Head0
import HandS.Head1
import HandS.Head2
import PySem.Challenge.RW_oncealike_k10_rules_within_rules
set_option Elab.async false
set_option linter.all false
set_option maxRecDepth 100000
set_option maxHeartbeats 2000000
/-! VL1: values as trees (D frozen, T owned or frozen), what represents them on the abstract heap, the state. -/
namespace VL
open PySem PySem.Spec PyProof.Rows L2

/-- frozen data -/
inductive D where
  | non | bl (b : Bool) | int (i : Int) | str (s : Str)
  | lst (l : List D) | tup (l : List D)
  | dct (ks : List Key) (l : List D)
  | ins (C : Addr) (fs : List Str) (l : List D)
  /-- anything -/
  | any
  /-- the script -/
  | scr (K : PySem.W.Frag) (ns : List Int)
/-- data in hand: frozen, or owned (a list, a dict, an instance that may be changed) -/
inductive T where
  | fz (d : D) | ol (l : List T) | od (ks : List Key) (l : List T) | oi (C : Addr) (fs : List Str) (l : List T)
  /-- a dict of tuples, nested, and frozen things -/
  | on (P : Program) (w : World) (es : List (NestedKey × D))

/-! ### nested keys -/
mutual
def NK (H : Hp) : NestedKey → V → Prop
  | .none, v => v = .non
  | .num i, v => v = .int i
  | .text x, v => v = .str x
  | .tup ks, v => ∃ a vs, v = .ref a ∧ H a = some (.tup vs) ∧ NKL H ks vs
def NKL (H : Hp) : List NestedKey → List V → Prop
  | [], vs => vs = []
  | k :: ks, vs => ∃ v vr, vs = v :: vr ∧ NK H k v ∧ NKL H ks vr
end
mutual
theorem NK.mono {F F' : Hp} (e : ∀ a vs, F a = some (.tup vs) → F' a = some (.tup vs)) : ∀ {k : NestedKey} {v : V}, NK F k v → NK F' k v
  | .none, _, h => by simpa only [NK] using h
  | .num _, _, h => by simpa only [NK] using h
  | .text _, _, h => by simpa only [NK] using h
  | .tup ks, v, h => by
    simp only [NK] at h ⊢
    obtain ⟨a, vs, h1, h2, h3⟩ := h
    exact ⟨a, vs, h1, e _ _ h2, NKL.mono e h3⟩
theorem NKL.mono {F F' : Hp} (e : ∀ a vs, F a = some (.tup vs) → F' a = some (.tup vs)) : ∀ {k : List NestedKey} {v : List V}, NKL F k v → NKL F' k v
  | [], _, h => by simpa only [NKL] using h
  | k :: ks, vs, h => by
    simp only [NKL] at h ⊢
    obtain ⟨v, vr, h1, h2, h3⟩ := h
    exact ⟨v, vr, h1, NK.mono e h2, NKL.mono e h3⟩
end
/-- how the entries of such a dict lie -/
def DNx (P : Program) (w : World) (d : Addr) (kvs : List (NestedKey × Addr × V)) (h : Heap) : Prop := (d == sysModules) = false ∧ kvs.length ≤ sizeLine ∧ (kvs.map (·.1)).Nodup ∧
  ∃ xs : List (NestedKey × Addr × Value), Paired (fun (p : NestedKey × Addr × V) (q : NestedKey × Addr × Value) => p.1 = q.1 ∧ p.2.1 = q.2.1 ∧ RelV p.2.2 q.2.2) kvs xs ∧ ∃ o es ep, h.get? d = some o ∧ o.ExactDict ∧ o.data = .dict es ep ∧ es.toList = xs.map (entryOfKey (nestedKind P w))
/-- a dict of nested tuples -/
def DN (P : Program) (w : World) (d : Addr) (kvs : List (NestedKey × Addr × V)) : HO := .ext (DNx P w d kvs)

mutual
def Fz (F : Hp) : D → V → Prop
  | .non, v => v = .non
  | .bl b, v => v = .bl b
  | .int i, v => v = .int i
  | .str s, v => v = .str s
  | .lst l, v => ∃ a vs, v = .ref a ∧ F a = some (.lst vs) ∧ FzL F l vs
  | .tup l, v => ∃ a vs, v = .ref a ∧ F a = some (.tup vs) ∧ FzL F l vs
  | .dct ks l, v => ∃ a vs, v = .ref a ∧ F a = some (.dK (ks.zip vs)) ∧ (ks.length = vs.length ∧ ks.Nodup) ∧ FzL F l vs
  | .ins C fs l, v => ∃ a dx vs, v = .ref a ∧ F a = some (.ins C dx (fs.zip vs)) ∧ fs.length = vs.length ∧ FzL F l vs
  | .any, _ => True
  | .scr K ns, v => ∃ a, v = .ref a ∧ SqL K F a (ns.map V.int)
def FzL (F : Hp) : List D → List V → Prop
  | [], vs => vs = []
  | d :: l, vs => ∃ v vr, vs = v :: vr ∧ Fz F d v ∧ FzL F l vr
end

theorem Same.new {H : Hp} {p : Addr} {o : HO} (h : H p = none) : Same H (upd H p o) := fun a u e => by
  rw [upd_ne (ne_of_none e h)]
  exact e

mutual
theorem Fz.mono {F F' : Hp} (e : Same F F') : ∀ {d : D} {v : V}, Fz F d v → Fz F' d v
  | .non, _, h => by simpa only [Fz] using h
  | .bl _, _, h => by simpa only [Fz] using h
  | .int _, _, h => by simpa only [Fz] using h
  | .str _, _, h => by simpa only [Fz] using h
  | .lst l, v, h => by
    simp only [Fz] at h ⊢
    obtain ⟨a, vs, h1, h2, h3⟩ := h
    exact ⟨a, vs, h1, e _ _ h2, FzL.mono e h3⟩
  | .tup l, v, h => by
    simp only [Fz] at h ⊢
    obtain ⟨a, vs, h1, h2, h3⟩ := h
    exact ⟨a, vs, h1, e _ _ h2, FzL.mono e h3⟩
  | .dct ks l, v, h => by
    simp only [Fz] at h ⊢
    obtain ⟨a, vs, h1, h2, hl, h3⟩ := h
    exact ⟨a, vs, h1, e _ _ h2, hl, FzL.mono e h3⟩
  | .ins C fs l, v, h => by
    simp only [Fz] at h ⊢
    obtain ⟨a, dx, vs, h1, h2, hl, h3⟩ := h
    exact ⟨a, dx, vs, h1, e _ _ h2, hl, FzL.mono e h3⟩
  | .any, _, _ => by simp only [Fz]
  | .scr K ns, v, h => by
    simp only [Fz] at h ⊢
    obtain ⟨a, h1, h2⟩ := h
    exact ⟨a, h1, L2.Same.seq e h2⟩
theorem FzL.mono {F F' : Hp} (e : Same F F') : ∀ {l : List D} {vs : List V}, FzL F l vs → FzL F' l vs
  | [], _, h => by simpa only [FzL] using h
  | d :: l, vs, h => by
    simp only [FzL] at h ⊢
    obtain ⟨v, vr, h1, h2, h3⟩ := h
    exact ⟨v, vr, h1, Fz.mono e h2, FzL.mono e h3⟩
end

theorem FzL.length {F : Hp} : ∀ {l : List D} {vs : List V}, FzL F l vs → l.length = vs.length
  | [], vs, h => by
    simp only [FzL] at h
    rw [h]
    rfl
  | d :: l, vs, h => by
    simp only [FzL] at h
    obtain ⟨v, vr, rfl, _, h3⟩ := h
    simp only [List.length_cons, h3.length]
theorem FzL.get {F : Hp} : ∀ {l : List D} {vs : List V} {i : Nat} {d : D}, FzL F l vs → l[i]? = some d → ∃ v, vs[i]? = some v ∧ Fz F d v
  | [], vs, i, d, h, e => by simp at e
  | c :: l, vs, 0, d, h, e => by
    simp only [FzL] at h
    obtain ⟨v, vr, rfl, h2, h3⟩ := h
    simp only [List.getElem?_cons_zero, Option.some.injEq] at e ⊢
    subst e
    exact ⟨v, rfl, h2⟩
  | c :: l, vs, i + 1, d, h, e => by
    simp only [FzL] at h
    obtain ⟨v, vr, rfl, h2, h3⟩ := h
    simp only [List.getElem?_cons_succ] at e ⊢
    exact h3.get e
theorem FzL.at {F : Hp} : ∀ {l : List D} {vs : List V} {i : Nat} {v : V}, FzL F l vs → vs[i]? = some v → ∃ d, l[i]? = some d ∧ Fz F d v
  | [], vs, i, v, h, e => by
    simp only [FzL] at h
    subst h
    simp at e
  | c :: l, vs, 0, v, h, e => by
    simp only [FzL] at h
    obtain ⟨w, vr, rfl, h2, h3⟩ := h
    simp only [List.getElem?_cons_zero, Option.some.injEq] at e ⊢
    subst e
    exact ⟨c, rfl, h2⟩
  | c :: l, vs, i + 1, v, h, e => by
    simp only [FzL] at h
    obtain ⟨w, vr, rfl, h2, h3⟩ := h
    simp only [List.getElem?_cons_succ] at e ⊢
    exact h3.at e
theorem FzL.append {F : Hp} : ∀ {l m : List D} {vs ws : List V}, FzL F l vs → FzL F m ws → FzL F (l ++ m) (vs ++ ws)
  | [], m, vs, ws, h, h' => by
    simp only [FzL] at h
    subst h
    exact h'
  | d :: l, m, vs, ws, h, h' => by
    simp only [FzL] at h
    obtain ⟨v, vr, rfl, h2, h3⟩ := h
    simp only [List.cons_append, FzL]
    exact ⟨v, _, rfl, h2, h3.append h'⟩
theorem FzL.take {F : Hp} : ∀ {l : List D} {vs : List V} (n : Nat), FzL F l vs → FzL F (l.take n) (vs.take n)
  | [], vs, n, h => by
    simp only [FzL] at h
    subst h
    simp [FzL]
  | d :: l, vs, 0, h => by simp [FzL]
  | d :: l, vs, n + 1, h => by
    simp only [FzL] at h
    obtain ⟨v, vr, rfl, h2, h3⟩ := h
    simp only [List.take_succ_cons, FzL]
    exact ⟨v, _, rfl, h2, h3.take n⟩
theorem FzL.drop {F : Hp} : ∀ {l : List D} {vs : List V} (n : Nat), FzL F l vs → FzL F (l.drop n) (vs.drop n)
  | [], vs, n, h => by
    simp only [FzL] at h
    subst h
    simp [FzL]
  | d :: l, vs, 0, h => by simpa using h
  | d :: l, vs, n + 1, h => by
    simp only [FzL] at h
    obtain ⟨v, vr, rfl, h2, h3⟩ := h
    simp only [List.drop_succ_cons]
    exact h3.drop n
theorem FzL.reverse {F : Hp} : ∀ {l : List D} {vs : List V}, FzL F l vs → FzL F l.reverse vs.reverse
  | [], vs, h => by
    simp only [FzL] at h
    subst h
    simp [FzL]
  | d :: l, vs, h => by
    simp only [FzL] at h
    obtain ⟨v, vr, rfl, h2, h3⟩ := h
    simp only [List.reverse_cons]
    exact h3.reverse.append (by simp only [FzL]; exact ⟨v, [], rfl, h2, rfl⟩)

/-- an entry of a dict of nested tuples -/
def KNr (F : Hp) (p : NestedKey × Addr × V) (q : NestedKey × D) : Prop := p.1 = q.1 ∧ (NK F p.1 (.ref p.2.1) ∧ p.1.depth ≤ 8) ∧ Fz F q.2 p.2.2
theorem KNr.mono {F F' : Hp} {p : NestedKey × Addr × V} {q : NestedKey × D} (h : KNr F p q) (e : Same F F') : KNr F' p q := ⟨h.1, ⟨h.2.1.1.mono fun _ _ z => e _ _ z, h.2.1.2⟩, h.2.2.mono e⟩
/-! ### owned trees -/
abbrev Fp := Addr → Prop
mutual
def Rp (F H : Hp) : T → V → Fp → Prop
  | .fz d, v, f => Fz F d v ∧ f = fun _ => False
  | .ol l, v, f => ∃ a vs g, v = .ref a ∧ H a = some (.lst vs) ∧ RpL F H l vs g ∧ ¬ g a ∧ f = fun b => b = a ∨ g b
  | .od ks l, v, f => ∃ a vs g, v = .ref a ∧ H a = some (.dK (ks.zip vs)) ∧ (ks.length = vs.length ∧ ks.Nodup) ∧ RpL F H l vs g ∧ ¬ g a ∧ f = fun b => b = a ∨ g b
  | .oi C fs l, v, f => ∃ a dx vs g, v = .ref a ∧ H a = some (.ins C dx (fs.zip vs)) ∧ fs.length = vs.length ∧ RpL F H l vs g ∧ ¬ g a ∧ f = fun b => b = a ∨ g b
  | .on P w es, v, f => ∃ a kvs, v = .ref a ∧ H a = some (DN P w a kvs) ∧ Paired (KNr F) kvs es ∧ f = fun b => b = a
def RpL (F H : Hp) : List T → List V → Fp → Prop
  | [], vs, f => vs = [] ∧ f = fun _ => False
  | t :: l, vs, f => ∃ v vr f1 f2, vs = v :: vr ∧ Rp F H t v f1 ∧ RpL F H l vr f2 ∧ (∀ a, f1 a → f2 a → False) ∧ f = fun b => f1 b ∨ f2 b
end
mutual
/-- the data of a tree -/
def T.er : T → D
  | .fz d => d
  | .ol l => .lst (erL l)
  | .od ks l => .dct ks (erL l)
  | .oi C fs l => .ins C fs (erL l)
  | .on _ _ _ => .any
def erL : List T → List D
  | [] => []
  | t :: l => t.er :: erL l
end
theorem erL_map : ∀ l : List T, erL l = l.map T.er
  | [] => by simp only [erL, List.map_nil]
  | t :: l => by simp only [erL, List.map_cons, erL_map l]

mutual
theorem Rp.dom {F H : Hp} : ∀ {t : T} {v : V} {f : Fp}, Rp F H t v f → ∀ a, f a → ∃ o, H a = some o
  | .fz d, v, f, h, a, ha => by
    simp only [Rp] at h
    obtain ⟨_, rfl⟩ := h
    exact ha.elim
  | .ol l, v, f, h, a, ha => by
    simp only [Rp] at h
    obtain ⟨b, vs, g, rfl, h1, h2, h3, rfl⟩ := h
    rcases ha with rfl | ha
    · exact ⟨_, h1⟩
    · exact RpL.dom h2 a ha
  | .od ks l, v, f, h, a, ha => by
    simp only [Rp] at h
    obtain ⟨b, vs, g, rfl, h1, hl, h2, h3, rfl⟩ := h
    rcases ha with rfl | ha
    · exact ⟨_, h1⟩
    · exact RpL.dom h2 a ha
  | .oi C fs l, v, f, h, a, ha => by
    simp only [Rp] at h
    obtain ⟨b, dx, vs, g, rfl, h1, hl, h2, h3, rfl⟩ := h
    rcases ha with rfl | ha
    · exact ⟨_, h1⟩
    · exact RpL.dom h2 a ha
  | .on P w es, v, f, h, a, ha => by
    simp only [Rp] at h
    obtain ⟨b, kvs, rfl, h1, h2, rfl⟩ := h
    cases ha
    exact ⟨_, h1⟩
theorem RpL.dom {F H : Hp} : ∀ {l : List T} {vs : List V} {f : Fp}, RpL F H l vs f → ∀ a, f a → ∃ o, H a = some o
  | [], vs, f, h, a, ha => by
    simp only [RpL] at h
    obtain ⟨_, rfl⟩ := h
    exact ha.elim
  | t :: l, vs, f, h, a, ha => by
    simp only [RpL] at h
    obtain ⟨v, vr, f1, f2, rfl, h1, h2, h3, rfl⟩ := h
    rcases ha with ha | ha
    · exact Rp.dom h1 a ha
    · exact RpL.dom h2 a ha
end
mutual
theorem Rp.frame {F H F' H' : Hp} (e : Same F F') : ∀ {t : T} {v : V} {f : Fp}, Rp F H t v f → (∀ a, f a → H' a = H a) → Rp F' H' t v f
  | .fz d, v, f, h, k => by
    simp only [Rp] at h ⊢
    exact ⟨h.1.mono e, h.2⟩
  | .ol l, v, f, h, k => by
    simp only [Rp] at h ⊢
    obtain ⟨b, vs, g, rfl, h1, h2, h3, rfl⟩ := h
    exact ⟨b, vs, g, rfl, by rw [k b (.inl rfl)]; exact h1, RpL.frame e h2 fun a ha => k a (.inr ha), h3, rfl⟩
  | .od ks l, v, f, h, k => by
    simp only [Rp] at h ⊢
    obtain ⟨b, vs, g, rfl, h1, hl, h2, h3, rfl⟩ := h
    exact ⟨b, vs, g, rfl, by rw [k b (.inl rfl)]; exact h1, hl, RpL.frame e h2 fun a ha => k a (.inr ha), h3, rfl⟩
  | .oi C fs l, v, f, h, k => by
    simp only [Rp] at h ⊢
    obtain ⟨b, dx, vs, g, rfl, h1, hl, h2, h3, rfl⟩ := h
    exact ⟨b, dx, vs, g, rfl, by rw [k b (.inl rfl)]; exact h1, hl, RpL.frame e h2 fun a ha => k a (.inr ha), h3, rfl⟩
  | .on P w es, v, f, h, k => by
    simp only [Rp] at h ⊢
    obtain ⟨b, kvs, rfl, h1, h2, rfl⟩ := h
    exact ⟨b, kvs, rfl, by rw [k b rfl]; exact h1, Paired.mapP h2 fun _ _ z => z.mono e, rfl⟩
theorem RpL.frame {F H F' H' : Hp} (e : Same F F') : ∀ {l : List T} {vs : List V} {f : Fp}, RpL F H l vs f → (∀ a, f a → H' a = H a) → RpL F' H' l vs f
  | [], vs, f, h, k => by
    simp only [RpL] at h ⊢
    exact h
  | t :: l, vs, f, h, k => by
    simp only [RpL] at h ⊢
    obtain ⟨v, vr, f1, f2, rfl, h1, h2, h3, rfl⟩ := h
    exact ⟨v, vr, f1, f2, rfl, Rp.frame e h1 fun a ha => k a (.inl ha), RpL.frame e h2 fun a ha => k a (.inr ha), h3, rfl⟩
end
mutual
theorem Rp.freeze {F H F' : Hp} (e : Same F F') : ∀ {t : T} {v : V} {f : Fp}, Rp F H t v f → (∀ a, f a → F' a = H a) → Fz F' t.er v
  | .fz d, v, f, h, k => by
    simp only [Rp] at h
    simp only [T.er]
    exact h.1.mono e
  | .ol l, v, f, h, k => by
    simp only [Rp] at h
    obtain ⟨b, vs, g, rfl, h1, h2, h3, rfl⟩ := h
    simp only [T.er, Fz]
    exact ⟨b, vs, rfl, by rw [k b (.inl rfl)]; exact h1, RpL.freeze e h2 fun a ha => k a (.inr ha)⟩
  | .od ks l, v, f, h, k => by
    simp only [Rp] at h
    obtain ⟨b, vs, g, rfl, h1, hl, h2, h3, rfl⟩ := h
    simp only [T.er, Fz]
    exact ⟨b, vs, rfl, by rw [k b (.inl rfl)]; exact h1, hl, RpL.freeze e h2 fun a ha => k a (.inr ha)⟩
  | .oi C fs l, v, f, h, k => by
    simp only [Rp] at h
    obtain ⟨b, dx, vs, g, rfl, h1, hl, h2, h3, rfl⟩ := h
    simp only [T.er, Fz]
    exact ⟨b, dx, vs, rfl, by rw [k b (.inl rfl)]; exact h1, hl, RpL.freeze e h2 fun a ha => k a (.inr ha)⟩
  | .on P w es, v, f, h, k => by simp only [T.er, Fz]
theorem RpL.freeze {F H F' : Hp} (e : Same F F') : ∀ {l : List T} {vs : List V} {f : Fp}, RpL F H l vs f → (∀ a, f a → F' a = H a) → FzL F' (erL l) vs
  | [], vs, f, h, k => by
    simp only [RpL] at h
    simp only [erL, FzL]
    exact h.1
  | t :: l, vs, f, h, k => by
    simp only [RpL] at h
    obtain ⟨v, vr, f1, f2, rfl, h1, h2, h3, rfl⟩ := h
    simp only [erL, FzL]
    exact ⟨v, vr, rfl, Rp.freeze e h1 fun a ha => k a (.inl ha), RpL.freeze e h2 fun a ha => k a (.inr ha)⟩
end
theorem RpL.length {F H : Hp} : ∀ {l : List T} {vs : List V} {f : Fp}, RpL F H l vs f → l.length = vs.length
  | [], vs, f, h => by
    simp only [RpL] at h
    rw [h.1]
    rfl
  | t :: l, vs, f, h => by
    simp only [RpL] at h
    obtain ⟨v, vr, f1, f2, rfl, h1, h2, h3, rfl⟩ := h
    simp only [List.length_cons, h2.length]
theorem RpL.append {F H : Hp} : ∀ {l m : List T} {vs ws : List V} {f g : Fp}, RpL F H l vs f → RpL F H m ws g → (∀ a, f a → g a → False) → RpL F H (l ++ m) (vs ++ ws) (fun b => f b ∨ g b)
  | [], m, vs, ws, f, g, h, h', s => by
    simp only [RpL] at h
    obtain ⟨rfl, rfl⟩ := h
    have e : (fun b => False ∨ g b) = g := by
      funext b
      simp
    simp only [List.nil_append]
    rw [e]
    exact h'
  | t :: l, m, vs, ws, f, g, h, h', s => by
    simp only [RpL] at h
    obtain ⟨v, vr, f1, f2, rfl, h1, h2, h3, rfl⟩ := h
    simp only [List.cons_append, RpL]
    refine ⟨v, _, f1, _, rfl, h1, h2.append h' fun a p q => s a (.inr p) q, fun a p q => ?_, ?_⟩
    · rcases q with q | q
      · exact h3 a p q
      · exact s a (.inl p) q
    · funext b
      simp only [or_assoc]
theorem RpL.split {F H : Hp} : ∀ {l m : List T} {us : List V} {f : Fp}, RpL F H (l ++ m) us f → ∃ vs ws f1 f2, us = vs ++ ws ∧ RpL F H l vs f1 ∧ RpL F H m ws f2 ∧ (∀ a, f1 a → f2 a → False) ∧ (f = fun b => f1 b ∨ f2 b)
  | [], m, us, f, h => ⟨[], us, fun _ => False, f, rfl, by simp only [RpL]; exact ⟨trivial, trivial⟩, h, fun _ z _ => z, by funext b; simp⟩
  | t :: l, m, us, f, h => by
    simp only [List.cons_append, RpL] at h
    obtain ⟨v, vr, f1, f2, rfl, h1, h2, h3, rfl⟩ := h
    obtain ⟨vs, ws, g1, g2, rfl, k1, k2, k3, rfl⟩ := h2.split
    refine ⟨v :: vs, ws, (fun b => f1 b ∨ g1 b), g2, rfl, ?_, k2, fun a p q => ?_, ?_⟩
    · simp only [RpL]
      exact ⟨v, vs, f1, g1, rfl, h1, k1, fun a p q => h3 a p (.inl q), rfl⟩
    · rcases p with p | p
      · exact h3 a p (.inr q)
      · exact k3 a p q
    · funext b
      simp only [or_assoc]
/-- one item of a list of trees changes -/
theorem RpL.item {F H : Hp} : ∀ {l : List T} {vs : List V} {g : Fp} {j : Nat} {t : T}, RpL F H l vs g → l[j]? = some t →
    ∃ (v : V) (f r : Fp), vs[j]? = some v ∧ Rp F H t v f ∧ (∀ a, f a → r a → False) ∧ (g = fun b => f b ∨ r b) ∧
      ∀ (F' H' : Hp) (t' : T) (v' : V) (f' : Fp), Same F F' → (∀ a, r a → H' a = H a) → Rp F' H' t' v' f' → (∀ a, f' a → r a → False) → RpL F' H' (l.set j t') (vs.set j v') (fun b => f' b ∨ r b)
  | [], vs, g, j, t, h, e => by simp at e
  | c :: l, vs, g, 0, t, h, e => by
    simp only [RpL] at h
    obtain ⟨v, vr, f1, f2, rfl, h1, h2, h3, rfl⟩ := h
    simp only [List.getElem?_cons_zero, Option.some.injEq] at e
    subst e
    refine ⟨v, f1, f2, rfl, h1, h3, rfl, fun F' H' t' v' f' e k h' s => ?_⟩
    simp only [List.set_cons_zero, RpL]
    exact ⟨v', vr, f', f2, rfl, h', h2.frame e k, s, rfl⟩
  | c :: l, vs, g, j + 1, t, h, e => by
    simp only [RpL] at h
    obtain ⟨v, vr, f1, f2, rfl, h1, h2, h3, rfl⟩ := h
    simp only [List.getElem?_cons_succ] at e
    obtain ⟨w, f, r, k1, k2, k3, rfl, k5⟩ := h2.item e
    refine ⟨w, f, fun b => f1 b ∨ r b, by simpa using k1, k2, fun a p q => ?_, ?_, fun F' H' t' v' f' e k h' s => ?_⟩
    · rcases q with q | q
      · exact h3 a q (.inl p)
      · exact k3 a p q
    · funext b
      exact propext ⟨fun z => by rcases z with z | z | z; exact .inr (.inl z); exact .inl z; exact .inr (.inr z), fun z => by rcases z with z | z | z; exact .inr (.inl z); exact .inl z; exact .inr (.inr z)⟩
    · simp only [List.set_cons_succ, RpL]
      refine ⟨v, _, f1, _, rfl, h1.frame e fun a p => k a (.inl p), k5 F' H' t' v' f' e (fun a p => k a (.inr p)) h' fun a p q => s a p (.inr q), fun a p q => ?_, ?_⟩
      · rcases q with q | q
        · exact s a q (.inl p)
        · exact h3 a p (.inr q)
      · funext b
        exact propext ⟨fun z => by rcases z with z | z | z; exact .inr (.inl z); exact .inl z; exact .inr (.inr z), fun z => by rcases z with z | z | z; exact .inr (.inl z); exact .inl z; exact .inr (.inr z)⟩

/-! ### slots -/
abbrev Tau := List (Option T)
def RpS (F H : Hp) : L2.St → Tau → Fp → Prop
  | s, [], f => s = [] ∧ f = fun _ => False
  | s, none :: m, f => ∃ o sr, s = o :: sr ∧ RpS F H sr m f
  | s, some t :: m, f => ∃ v sr f1 f2, s = some v :: sr ∧ Rp F H t v f1 ∧ RpS F H sr m f2 ∧ (∀ a, f1 a → f2 a → False) ∧ f = fun b => f1 b ∨ f2 b
theorem RpS.length {F H : Hp} : ∀ {m : Tau} {s : L2.St} {f : Fp}, RpS F H s m f → s.length = m.length
  | [], s, f, h => by
    simp only [RpS] at h
    rw [h.1]
    rfl
  | none :: m, s, f, h => by
    simp only [RpS] at h
    obtain ⟨o, sr, rfl, h⟩ := h
    simp only [List.length_cons, h.length]
  | some t :: m, s, f, h => by
    simp only [RpS] at h
    obtain ⟨v, sr, f1, f2, rfl, h1, h2, h3, rfl⟩ := h
    simp only [List.length_cons, h2.length]
theorem RpS.dom {F H : Hp} : ∀ {m : Tau} {s : L2.St} {f : Fp}, RpS F H s m f → ∀ a, f a → ∃ o, H a = some o
  | [], s, f, h, a, ha => by
    simp only [RpS] at h
    rw [h.2] at ha
    exact ha.elim
  | none :: m, s, f, h, a, ha => by
    simp only [RpS] at h
    obtain ⟨o, sr, rfl, h⟩ := h
    exact h.dom a ha
  | some t :: m, s, f, h, a, ha => by
    simp only [RpS] at h
    obtain ⟨v, sr, f1, f2, rfl, h1, h2, h3, rfl⟩ := h
    rcases ha with ha | ha
    · exact h1.dom a ha
    · exact h2.dom a ha
theorem RpS.frame {F H F' H' : Hp} (e : Same F F') : ∀ {m : Tau} {s : L2.St} {f : Fp}, RpS F H s m f → (∀ a, f a → H' a = H a) → RpS F' H' s m f
  | [], s, f, h, k => by
    simp only [RpS] at h ⊢
    exact h
  | none :: m, s, f, h, k => by
    simp only [RpS] at h ⊢
    obtain ⟨o, sr, rfl, h⟩ := h
    exact ⟨o, sr, rfl, h.frame e k⟩
  | some t :: m, s, f, h, k => by
    simp only [RpS] at h ⊢
    obtain ⟨v, sr, f1, f2, rfl, h1, h2, h3, rfl⟩ := h
    exact ⟨v, sr, f1, f2, rfl, h1.frame e fun a p => k a (.inl p), h2.frame e fun a p => k a (.inr p), h3, rfl⟩
/-- a slot's tree is taken out: its value stays in the slot, unknown -/
theorem RpS.out {F H : Hp} : ∀ {m : Tau} {s : L2.St} {f : Fp} {i : Nat} {t : T}, RpS F H s m f → m[i]? = some (some t) →
    ∃ (v : V) (f1 f2 : Fp), s[i]? = some (some v) ∧ Rp F H t v f1 ∧ RpS F H s (m.set i none) f2 ∧ (∀ a, f1 a → f2 a → False) ∧ (f = fun b => f1 b ∨ f2 b)
  | [], s, f, i, t, h, e => by simp at e
  | none :: m, s, f, 0, t, h, e => by simp at e
  | none :: m, s, f, i + 1, t, h, e => by
    simp only [RpS] at h
    obtain ⟨o, sr, rfl, h⟩ := h
    simp only [List.getElem?_cons_succ] at e
    obtain ⟨v, f1, f2, h1, h2, h3, h4, h5⟩ := h.out e
    refine ⟨v, f1, f2, by simpa using h1, h2, ?_, h4, h5⟩
    simp only [List.set_cons_succ, RpS]
    exact ⟨o, sr, rfl, h3⟩
  | some c :: m, s, f, 0, t, h, e => by
    simp only [RpS] at h
    obtain ⟨v, sr, f1, f2, rfl, h1, h2, h3, rfl⟩ := h
    simp only [List.getElem?_cons_zero, Option.some.injEq] at e
    subst e
    refine ⟨v, f1, f2, rfl, h1, ?_, h3, rfl⟩
    simp only [List.set_cons_zero, RpS]
    exact ⟨_, sr, rfl, h2⟩
  | some c :: m, s, f, i + 1, t, h, e => by
    simp only [RpS] at h
    obtain ⟨v, sr, f1, f2, rfl, h1, h2, h3, rfl⟩ := h
    simp only [List.getElem?_cons_succ] at e
    obtain ⟨w, g1, g2, k1, k2, k3, k4, rfl⟩ := h2.out e
    refine ⟨w, g1, fun b => f1 b ∨ g2 b, by simpa using k1, k2, ?_, fun a p q => ?_, ?_⟩
    · simp only [List.set_cons_succ, RpS]
      exact ⟨v, sr, f1, g2, rfl, h1, k3, fun a p q => h3 a p (.inr q), rfl⟩
    · rcases q with q | q
      · exact h3 a q (.inl p)
      · exact k4 a p q
    · funext b
      exact propext ⟨fun z => by rcases z with z | z | z; exact .inr (.inl z); exact .inl z; exact .inr (.inr z), fun z => by rcases z with z | z | z; exact .inr (.inl z); exact .inl z; exact .inr (.inr z)⟩
/-- a slot is forgotten -/
theorem RpS.forget {F H : Hp} : ∀ {m : Tau} {s : L2.St} {f : Fp} (i : Nat), RpS F H s m f → ∃ g : Fp, RpS F H s (m.set i none) g ∧ ∀ a, g a → f a
  | [], s, f, i, h => ⟨f, by simpa using h, fun _ z => z⟩
  | none :: m, s, f, 0, h => ⟨f, by simpa using h, fun _ z => z⟩
  | none :: m, s, f, i + 1, h => by
    simp only [RpS] at h
    obtain ⟨o, sr, rfl, h⟩ := h
    obtain ⟨g, h1, h2⟩ := h.forget i
    refine ⟨g, ?_, h2⟩
    simp only [List.set_cons_succ, RpS]
    exact ⟨o, sr, rfl, h1⟩
  | some t :: m, s, f, 0, h => by
    simp only [RpS] at h
    obtain ⟨v, sr, f1, f2, rfl, h1, h2, h3, rfl⟩ := h
    refine ⟨f2, ?_, fun _ z => .inr z⟩
    simp only [List.set_cons_zero, RpS]
    exact ⟨_, sr, rfl, h2⟩
  | some t :: m, s, f, i + 1, h => by
    simp only [RpS] at h
    obtain ⟨v, sr, f1, f2, rfl, h1, h2, h3, rfl⟩ := h
    obtain ⟨g, k1, k2⟩ := h2.forget i
    refine ⟨fun b => f1 b ∨ g b, ?_, fun a z => z.imp id (k2 a)⟩
    simp only [List.set_cons_succ, RpS]
    exact ⟨v, sr, f1, g, rfl, h1, k1, fun a p q => h3 a p (k2 a q), rfl⟩
/-- a tree is put into an unknown slot -/
theorem RpS.put {F H : Hp} {t : T} {v : V} {f1 : Fp} (h1 : Rp F H t v f1) : ∀ {m : Tau} {s : L2.St} {f : Fp} {i : Nat}, RpS F H s (m.set i none) f → i < m.length → (∀ a, f1 a → f a → False) →
    RpS F H (s.set i (some v)) (m.set i (some t)) (fun b => f1 b ∨ f b)
  | [], s, f, i, h, e, d => by simp at e
  | c :: m, s, f, 0, h, e, d => by
    simp only [List.set_cons_zero, RpS] at h ⊢
    obtain ⟨o, sr, rfl, h⟩ := h
    exact ⟨v, sr, f1, f, rfl, h1, h, d, rfl⟩
  | none :: m, s, f, i + 1, h, e, d => by
    simp only [List.set_cons_succ, RpS] at h ⊢
    obtain ⟨o, sr, rfl, h⟩ := h
    exact ⟨o, sr.set i (some v), rfl, h.put h1 (by simpa using e) d⟩
  | some c :: m, s, f, i + 1, h, e, d => by
    simp only [List.set_cons_succ, RpS] at h ⊢
    obtain ⟨w, sr, g1, g2, rfl, k1, k2, k3, rfl⟩ := h
    refine ⟨w, sr.set i (some v), g1, fun b => f1 b ∨ g2 b, rfl, k1, k2.put h1 (by simpa using e) fun a p q => d a p (.inr q), fun a p q => ?_, ?_⟩
    · rcases q with q | q
      · exact d a q (.inl p)
      · exact k3 a p q
    · funext b
      exact propext ⟨fun z => by rcases z with z | z | z; exact .inr (.inl z); exact .inl z; exact .inr (.inr z), fun z => by rcases z with z | z | z; exact .inr (.inl z); exact .inl z; exact .inr (.inr z)⟩

/-! ### the state -/
/-- the dicts that are walked just then -/
abbrev Lk := Addr → Prop
abbrev noLk : Lk := fun _ => False
/-- F stands in H (a dict that is walked is locked) -/
def Sub (lk : Lk) (F H : Hp) : Prop := ∀ a o, F a = some o → H a = some o ∨ (lk a ∧ ∃ ob kvs, o = .dK kvs ∧ H a = some (.frz ob o))
theorem Sub.refl (lk : Lk) (H : Hp) : Sub lk H H := fun _ _ e => .inl e
theorem Sub.same {F H H' : Hp} (h : Sub lk F H) (e : Same H H') : Sub lk F H' := fun a o k => by
  rcases h a o k with h | ⟨l, ob, kvs, rfl, h⟩
  · exact .inl (e _ _ h)
  · exact .inr ⟨l, ob, kvs, rfl, e _ _ h⟩
theorem Sub.of {F F' H : Hp} (h : Sub lk F' H) (e : Same F F') : Sub lk F H := fun a o k => h a o (e a o k)
theorem Sub.none {F H : Hp} (h : Sub lk F H) {a : Addr} (e : H a = none) : F a = none := by
  cases q : F a with
  | none => rfl
  | some o =>
    rcases h a o q with h | ⟨_, _, _, _, h⟩
    · rw [e] at h; cases h
    · rw [e] at h; cases h
/-- what stood ahead stands; all that is locked is part of it -/
structure Bk (lk : Lk) (B H : Hp) : Prop where
  sub : Sub lk B H
  own : ∀ a, lk a → ∃ ob o, B a = some (.frz ob o)
theorem Bk.same {H H' : Hp} (h : Bk lk B H) (e : Same H H') : Bk lk B H' := ⟨h.sub.same e, h.own⟩
theorem Bk.none {H : Hp} (h : Bk lk B H) {a : Addr} (e : H a = none) : B a = none := h.sub.none e
/-- B: what stood ahead and isn't ours; F: what is frozen; the slots' trees; trees in hand -/
structure St (lk : Lk) (B F H : Hp) (s : L2.St) (m : Tau) (vs : List V) (ts : List T) : Prop where
  ex : ∃ f g : Fp, RpS F H s m f ∧ RpL F H ts vs g ∧ (∀ a, f a → g a → False) ∧ ∀ a, f a ∨ g a → F a = none ∧ B a = none
  fr : Sub lk F H
  bk : Bk lk B H
/-- the frozen part grows, not over what isn't ours -/
structure Gr (B F F' : Hp) : Prop where
  same : Same F F'
  new : ∀ a o, F' a = some o → F a = some o ∨ B a = none
theorem Gr.refl (B F : Hp) : Gr B F F := ⟨Same.refl F, fun _ _ e => .inl e⟩
theorem Gr.trans {B F F1 F2 : Hp} (a : Gr B F F1) (b : Gr B F1 F2) : Gr B F F2 := ⟨a.same.trans b.same, fun c o e => by
  rcases b.new c o e with h | h
  · exact a.new c o h
  · exact .inr h⟩
section
variable {B F H F' H' : Hp} {s : L2.St} {m : Tau} {vs : List V} {ts : List T} {v : V} {t : T} {d : D} {i : Nat}
theorem St.len (h : St lk B F H s m vs ts) : s.length = m.length := by
  obtain ⟨f, g, h1, _⟩ := h.ex
  exact h1.length
/-- all that is tracked stays; more is frozen -/
theorem St.grow (h : St lk B F H s m vs ts) (e : Same H H') (eF : Same F F') (k : Sub lk F' H') (own : ∀ a o, F' a = some o → F a = some o ∨ H a = none) : St lk B F' H' s m vs ts := by
  obtain ⟨f, g, h1, h2, h3, h4⟩ := h.ex
  have fd : ∀ a, f a → H' a = H a := fun a p => by
    obtain ⟨o, q⟩ := h1.dom a p
    rw [q, e a o q]
  have gd : ∀ a, g a → H' a = H a := fun a p => by
    obtain ⟨o, q⟩ := h2.dom a p
    rw [q, e a o q]
  refine ⟨⟨f, g, h1.frame eF fd, h2.frame eF gd, h3, fun a p => ?_⟩, k, h.bk.same e⟩
  obtain ⟨q1, q2⟩ := h4 a p
  refine ⟨?_, q2⟩
  cases q : F' a with
  | none => rfl
  | some o =>
    rcases own a o q with z | z
    · rw [q1] at z; cases z
    · have : ∃ o, H a = some o := p.elim (h1.dom a) (h2.dom a)
      obtain ⟨o', z'⟩ := this
      rw [z] at z'; cases z'
theorem St.same (h : St lk B F H s m vs ts) (e : Same H H') : St lk B F H' s m vs ts := h.grow e (Same.refl F) (h.fr.same e) fun _ _ z => .inl z
/-- a new object that nobody needs -/
theorem St.junk {p : Addr} {o : HO} (h : St lk B F H s m vs ts) (hp : H p = none) : St lk B F (upd H p o) s m vs ts := h.same (Same.new hp)
/-- a new object, frozen -/
theorem St.new {p : Addr} {o : HO} (h : St lk B F H s m vs ts) (hp : H p = none) : St lk B (upd F p o) (upd H p o) s m vs ts ∧ Gr B F (upd F p o) := by
  have fp : F p = none := h.fr.none hp
  have bp : B p = none := h.bk.none hp
  refine ⟨h.grow (Same.new hp) (Same.new fp) (fun a u q => ?_) fun a u q => ?_, Same.new fp, fun a u q => ?_⟩
  · by_cases e : a = p
    · subst e
      rw [upd_same] at q ⊢
      exact .inl q
    · rw [upd_ne e] at q ⊢
      exact h.fr a u q
  · by_cases e : a = p
    · subst e
      exact .inr hp
    · rw [upd_ne e] at q
      exact .inl q
  · by_cases e : a = p
    · subst e
      exact .inr bp
    · rw [upd_ne e] at q
      exact .inl q
theorem St.push (h : St lk B F H s m vs ts) (k : Fz F d v) : St lk B F H s m (v :: vs) (.fz d :: ts) := by
  obtain ⟨f, g, h1, h2, h3, h4⟩ := h.ex
  refine ⟨⟨f, g, h1, ?_, h3, h4⟩, h.fr, h.bk⟩
  simp only [RpL]
  refine ⟨v, vs, fun _ => False, g, rfl, ?_, h2, fun _ z _ => z, by funext b; simp⟩
  simp only [Rp]
  exact ⟨k, trivial⟩
theorem St.top (h : St lk B F H s m vs (.fz d :: ts)) : ∃ v vr, vs = v :: vr ∧ Fz F d v ∧ St lk B F H s m vr ts := by
  obtain ⟨f, g, h1, h2, h3, h4⟩ := h.ex
  simp only [RpL] at h2
  obtain ⟨v, vr, f1, f2, rfl, k1, k2, k3, rfl⟩ := h2
  simp only [Rp] at k1
  obtain ⟨k1, rfl⟩ := k1
  exact ⟨v, vr, rfl, k1, ⟨f, f2, h1, k2, fun a p q => h3 a p (.inr q), fun a p => h4 a (p.imp id .inr)⟩, h.fr, h.bk⟩
theorem St.drop (h : St lk B F H s m vs (t :: ts)) : ∃ v vr, vs = v :: vr ∧ St lk B F H s m vr ts := by
  obtain ⟨f, g, h1, h2, h3, h4⟩ := h.ex
  simp only [RpL] at h2
  obtain ⟨v, vr, f1, f2, rfl, k1, k2, k3, rfl⟩ := h2
  exact ⟨v, vr, rfl, ⟨f, f2, h1, k2, fun a p q => h3 a p (.inr q), fun a p => h4 a (p.imp id .inr)⟩, h.fr, h.bk⟩
theorem St.var (h : St lk B F H s m vs ts) (e : m[i]? = some (some (.fz d))) : ∃ v, s[i]? = some (some v) ∧ Fz F d v := by
  obtain ⟨f, g, h1, h2, h3, h4⟩ := h.ex
  obtain ⟨v, f1, f2, k1, k2, _⟩ := h1.out e
  simp only [Rp] at k2
  exact ⟨v, k1, k2.1⟩
/-- a slot's tree comes into the hand -/
theorem St.take (h : St lk B F H s m vs ts) (e : m[i]? = some (some t)) : ∃ v, s[i]? = some (some v) ∧ St lk B F H s (m.set i none) (v :: vs) (t :: ts) := by
  obtain ⟨f, g, h1, h2, h3, h4⟩ := h.ex
  obtain ⟨v, f1, f2, k1, k2, k3, k4, rfl⟩ := h1.out e
  refine ⟨v, k1, ⟨f2, fun b => f1 b ∨ g b, k3, ?_, fun a p q => ?_, fun a p => h4 a ?_⟩, h.fr, h.bk⟩
  · simp only [RpL]
    exact ⟨v, vs, f1, g, rfl, k2, h2, fun a p q => h3 a (.inl p) q, rfl⟩
  · rcases q with q | q
    · exact k4 a q p
    · exact h3 a (.inr p) q
  · rcases p with p | p | p
    · exact .inl (.inr p)
    · exact .inl (.inl p)
    · exact .inr p
theorem St.forget (h : St lk B F H s m vs ts) (i : Nat) : St lk B F H s (m.set i none) vs ts := by
  obtain ⟨f, g, h1, h2, h3, h4⟩ := h.ex
  obtain ⟨f', k1, k2⟩ := h1.forget i
  exact ⟨⟨f', g, k1, h2, fun a p q => h3 a (k2 a p) q, fun a p => h4 a (p.imp (k2 a) id)⟩, h.fr, h.bk⟩
/-- the tree in hand is stored -/
theorem St.set (h : St lk B F H s m vs (t :: ts)) (hi : i < m.length) : ∃ v vr, vs = v :: vr ∧ St lk B F H (s.set i (some v)) (m.set i (some t)) vr ts := by
  obtain ⟨f, g, h1, h2, h3, h4⟩ := h.ex
  simp only [RpL] at h2
  obtain ⟨v, vr, f1, f2, rfl, k1, k2, k3, rfl⟩ := h2
  obtain ⟨f', q1, q2⟩ := h1.forget i
  refine ⟨v, vr, rfl, ⟨fun b => f1 b ∨ f' b, f2, q1.put k1 hi fun a p q => h3 a (q2 a q) (.inl p), k2, fun a p q => ?_, fun a p => h4 a ?_⟩, h.fr, h.bk⟩
  · rcases p with p | p
    · exact k3 a p q
    · exact h3 a (q2 a p) (.inr q)
  · rcases p with (p | p) | p
    · exact .inr (.inl p)
    · exact .inl (q2 a p)
    · exact .inr (.inr p)
open Classical in
/-- the tree in hand is frozen -/
theorem St.freeze (h : St lk B F H s m vs (t :: ts)) : ∃ F', Gr B F F' ∧ St lk B F' H s m vs (.fz t.er :: ts) := by
  obtain ⟨f, g, h1, h2, h3, h4⟩ := h.ex
  simp only [RpL] at h2
  obtain ⟨v, vr, f1, f2, rfl, k1, k2, k3, rfl⟩ := h2
  have eF : Same F (fun a => if f1 a then H a else F a) := fun a o q => by
    show (if f1 a then H a else F a) = some o
    rw [if_neg]
    · exact q
    · intro z
      have := (h4 a (.inr (.inl z))).1
      rw [q] at this; cases this
  refine ⟨fun a => if f1 a then H a else F a, ⟨eF, fun a o q => ?_⟩, ⟨f, f2, h1.frame eF fun _ _ => rfl, ?_, fun a p q => h3 a p (.inr q), fun a p => ⟨?_, (h4 a (p.imp id .inr)).2⟩⟩, fun a o q => ?_, h.bk⟩
  · have q : (if f1 a then H a else F a) = some o := q
    by_cases z : f1 a
    · exact .inr (h4 a (.inr (.inl z))).2
    · rw [if_neg z] at q
      exact .inl q
  · simp only [RpL]
    refine ⟨v, vr, fun _ => False, f2, rfl, ?_, k2.frame eF fun _ _ => rfl, fun _ z _ => z, by funext b; simp⟩
    simp only [Rp]
    refine ⟨k1.freeze eF fun a p => ?_, trivial⟩
    show (if f1 a then H a else F a) = H a
    rw [if_pos p]
  · show (if f1 a then H a else F a) = none
    rw [if_neg]
    · exact (h4 a (p.imp id .inr)).1
    · intro z
      rcases p with p | p
      · exact h3 a p (.inl z)
      · exact k3 a z p
  · have q : (if f1 a then H a else F a) = some o := q
    by_cases z : f1 a
    · rw [if_pos z] at q
      exact .inl q
    · rw [if_neg z] at q
      exact h.fr a o q
/-- what is frozen is read -/
theorem St.lst {l : List D} (h : St lk B F H s m vs ts) (k : Fz F (.lst l) v) : ∃ a ws, v = .ref a ∧ F a = some (.lst ws) ∧ H a = some (.lst ws) ∧ FzL F l ws := by
  simp only [Fz] at k
  obtain ⟨a, ws, e1, e2, e3⟩ := k
  refine ⟨a, ws, e1, e2, ?_, e3⟩
  rcases h.fr a _ e2 with z | ⟨_, _, _, z, _⟩
  · exact z
  · cases z
theorem St.tup {l : List D} (h : St lk B F H s m vs ts) (k : Fz F (.tup l) v) : ∃ a ws, v = .ref a ∧ F a = some (.tup ws) ∧ H a = some (.tup ws) ∧ FzL F l ws := by
  simp only [Fz] at k
  obtain ⟨a, ws, e1, e2, e3⟩ := k
  refine ⟨a, ws, e1, e2, ?_, e3⟩
  rcases h.fr a _ e2 with z | ⟨_, _, _, z, _⟩
  · exact z
  · cases z
theorem St.ins {C : Addr} {fs : List Str} {l : List D} (h : St lk B F H s m vs ts) (k : Fz F (.ins C fs l) v) : ∃ a dx ws, v = .ref a ∧ F a = some (.ins C dx (fs.zip ws)) ∧ H a = some (.ins C dx (fs.zip ws)) ∧ fs.length = ws.length ∧ FzL F l ws := by
  simp only [Fz] at k
  obtain ⟨a, dx, ws, e1, e2, e3, e4⟩ := k
  refine ⟨a, dx, ws, e1, e2, ?_, e3, e4⟩
  rcases h.fr a _ e2 with z | ⟨_, _, _, z, _⟩
  · exact z
  · cases z
theorem St.dct {ks : List Key} {l : List D} (h : St lk B F H s m vs ts) (k : Fz F (.dct ks l) v) : ∃ a ws, v = .ref a ∧ F a = some (.dK (ks.zip ws)) ∧ Rd H a (.dK (ks.zip ws)) ∧ (ks.length = ws.length ∧ ks.Nodup) ∧ FzL F l ws := by
  simp only [Fz] at k
  obtain ⟨a, ws, e1, e2, e3, e4⟩ := k
  refine ⟨a, ws, e1, e2, ?_, e3, e4⟩
  rcases h.fr a _ e2 with z | ⟨_, ob, _, _, z⟩
  · exact .inl z
  · exact .inr ⟨ob, z⟩
end
end VL
set_option Elab.async false
set_option linter.all false
set_option maxRecDepth 100000
set_option maxHeartbeats 2000000
/-! VL2: readings over the trees: expressions. -/
namespace VL
open PySem PySem.Spec PyProof.Rows L2

abbrev WE := Tau → (T → Tau → Prop) → Prop
abbrev WT := Tau → (Bool → Tau → Prop) → Prop
abbrev WA := Tau → (List T → Tau → Prop) → Prop
/-- what is wanted of a value: for each t that comes about -/
def KE (lk : Lk) (B F : Hp) (s : L2.St) (vs : List V) (ts : List T) (m : Tau) (t : T) (Q : VK) : Prop := ∀ v F' H', Gr B F F' → St lk B F' H' s m (v :: vs) (t :: ts) → Q v H'
def LE (lk : Lk) (w : WE) : TE := fun s H Q => ∃ B F m vs ts P, St lk B F H s m vs ts ∧ w m P ∧ ∀ t m', P t m' → KE lk B F s vs ts m' t Q
def LT (lk : Lk) (w : WT) : TT := fun s H Q => ∃ B F m vs ts P, St lk B F H s m vs ts ∧ w m P ∧ ∀ b m', P b m' → ∀ F' H', Gr B F F' → St lk B F' H' s m' vs ts → Q b H'
def LA (lk : Lk) (w : WA) : TA := fun s H Q => ∃ B F m vs ts P, St lk B F H s m vs ts ∧ w m P ∧ ∀ xs m', P xs m' → ∀ us F' H', Gr B F F' → us.length = xs.length → St lk B F' H' s m' (us ++ vs) (xs ++ ts) → Q us H'
section
variable {X : Cx} {e a b c : Expr} {t t' : TE} {pos : Pos}
theorem pe_mono (h : PE X e t) (k : ∀ s H Q, t' s H Q → t s H Q) : PE X e t' := ⟨fun pins s σ H Q I q => h.run pins s σ H Q I (k σ H Q q)⟩
theorem pt_mono {t t' : TT} (h : PT X e t) (k : ∀ s H Q, t' s H Q → t s H Q) : PT X e t' := ⟨fun pins s σ H Q I q => h.run pins s σ H Q I (k σ H Q q)⟩
theorem pw_mono {t t' : TT} (h : PW X e t) (k : ∀ s H Q, t' s H Q → t s H Q) : PW X e t' := ⟨fun wh pins s σ H Q I q => h.run wh pins s σ H Q I (k σ H Q q)⟩
theorem pa_mono {es : List Expr} {t t' : TA} (h : PA X es t) (k : ∀ s H Q, t' s H Q → t s H Q) : PA X es t' := ⟨fun pos pins s σ H Q I q => h.run pos pins s σ H Q I (k σ H Q q)⟩
theorem ps_mono {st : Stmt} {t t' : TS} (h : PS X st t) (k : ∀ D s H, t' D s H → t D s H) : PS X st t' := ⟨fun pins s σ H D I q => h.run pins s σ H D I (k D σ H q)⟩
theorem pss_mono {st : List Stmt} {t t' : TS} (h : PSs X st t) (k : ∀ D s H, t' D s H → t D s H) : PSs X st t' := ⟨fun pins s σ H D I q => h.run pins s σ H D I (k D σ H q)⟩
end

/-! ### names, constants -/
/-- a slot that holds what is frozen -/
def wVar (i : Nat) : WE := fun m Q => match m[i]? with
  | some (some (.fz d)) => Q (.fz d) m
  | _ => False
/-- a slot's tree is taken (the slot is unknown from then on) -/
def wTake (i : Nat) : WE := fun m Q => match m[i]? with
  | some (some t) => Q t (m.set i none)
  | _ => False
/-- a slot's tree is frozen, and read -/
def wFrz (i : Nat) : WE := fun m Q => match m[i]? with
  | some (some t) => Q (.fz t.er) (m.set i (some (.fz t.er)))
  | _ => False
def wC (d : D) : WE := fun m Q => Q (.fz d) m
section
variable {X : Cx} {pos : Pos}
theorem v_var (i : Nat) {x : Str} (hN : X.N[i]? = some x := by rfl) (hv : Vis X.env.scope x := by first | exact Or.inl rfl | exact Or.inr (Or.inl rfl) | exact Or.inr (Or.inr rfl)) (hd : (x == ("__debug__" : Str)) = false := by decide)
    (hcd : (x == ("__classdict__" : Str)) = false := by decide) : PE X (.Name x pos) (LE lk (wVar i)) := by
  refine pe_mono (pe_var hN hv hd hcd) fun s H Q h => ?_
  obtain ⟨B, F, m, vs, ts, P, st, hw, k⟩ := h
  unfold wVar at hw
  split at hw
  · rename_i d e
    obtain ⟨v, e1, e2⟩ := st.var e
    exact ⟨v, e1, k _ _ hw v F H (Gr.refl B F) (st.push e2)⟩
  · exact hw.elim
theorem v_take (i : Nat) {x : Str} (hN : X.N[i]? = some x := by rfl) (hv : Vis X.env.scope x := by first | exact Or.inl rfl | exact Or.inr (Or.inl rfl) | exact Or.inr (Or.inr rfl)) (hd : (x == ("__debug__" : Str)) = false := by decide)
    (hcd : (x == ("__classdict__" : Str)) = false := by decide) : PE X (.Name x pos) (LE lk (wTake i)) := by
  refine pe_mono (pe_var hN hv hd hcd) fun s H Q h => ?_
  obtain ⟨B, F, m, vs, ts, P, st, hw, k⟩ := h
  unfold wTake at hw
  split at hw
  · rename_i t e
    obtain ⟨v, e1, e2⟩ := st.take e
    exact ⟨v, e1, k _ _ hw v F H (Gr.refl B F) e2⟩
  · exact hw.elim
theorem set_same {s : L2.St} {i : Nat} {v : V} (h : s[i]? = some (some v)) : s.set i (some v) = s := by
  apply List.ext_getElem?
  intro j
  rw [List.getElem?_set]
  by_cases e : i = j
  · subst e
    have hl : i < s.length := (List.getElem?_eq_some_iff.mp h).1
    rw [if_pos rfl, if_pos hl, h]
  · rw [if_neg e]
/-- a slot's tree is frozen where it stands -/
theorem St.frzSlot {B F H : Hp} {s : L2.St} {m : Tau} {vs : List V} {ts : List T} {i : Nat} {t : T} (st : St lk B F H s m vs ts) (e : m[i]? = some (some t)) :
    ∃ F' v, Gr B F F' ∧ s[i]? = some (some v) ∧ Fz F' t.er v ∧ St lk B F' H s (m.set i (some (.fz t.er))) vs ts := by
  obtain ⟨v, e1, st1⟩ := st.take e
  obtain ⟨F', g, st2⟩ := st1.freeze
  obtain ⟨w, vr, q, k, st3⟩ := st2.top
  cases q
  have hi : i < (m.set i none).length := by
    rw [List.length_set]
    exact (List.getElem?_eq_some_iff.mp e).1
  obtain ⟨w', vr', q, st4⟩ := st2.set hi
  cases q
  rw [set_same e1, List.set_set] at st4
  exact ⟨F', v, g, e1, k, st4⟩
theorem v_frz (i : Nat) {x : Str} (hN : X.N[i]? = some x := by rfl) (hv : Vis X.env.scope x := by first | exact Or.inl rfl | exact Or.inr (Or.inl rfl) | exact Or.inr (Or.inr rfl)) (hd : (x == ("__debug__" : Str)) = false := by decide)
    (hcd : (x == ("__classdict__" : Str)) = false := by decide) : PE X (.Name x pos) (LE lk (wFrz i)) := by
  refine pe_mono (pe_var hN hv hd hcd) fun s H Q h => ?_
  obtain ⟨B, F, m, vs, ts, P, st, hw, k⟩ := h
  unfold wFrz at hw
  split at hw
  · rename_i t e
    obtain ⟨F', v, g, e1, e2, st'⟩ := st.frzSlot e
    exact ⟨v, e1, k _ _ hw v F' H g (st'.push e2)⟩
  · exact hw.elim
theorem c_ok {d : D} {v : V} (h : ∀ F, Fz F d v) {s : L2.St} {H : Hp} {Q : VK} (q : LE lk (wC d) s H Q) : Q v H := by
  obtain ⟨B, F, m, vs, ts, P, st, hw, k⟩ := q
  exact k _ _ hw v F H (Gr.refl B F) (st.push (h F))
theorem v_int {i j} : PE X (.Constant (.int i) j pos) (LE lk (wC (.int i))) := pe_mono pe_int fun s H Q h => c_ok (fun F => by simp only [Fz]) h
theorem v_bl {b j} : PE X (.Constant (.bool b) j pos) (LE lk (wC (.bl b))) := pe_mono pe_bl fun s H Q h => c_ok (fun F => by simp only [Fz]) h
theorem v_non {j} : PE X (.Constant .none j pos) (LE lk (wC .non)) := pe_mono pe_non fun s H Q h => c_ok (fun F => by simp only [Fz]) h
theorem v_str {x j} : PE X (.Constant (.str x) j pos) (LE lk (wC (.str x))) := pe_mono pe_str fun s H Q h => c_ok (fun F => by simp only [Fz]) h
theorem v_gstr {x z : Str} {tk : Tok} (hm : X.mg x = some (.str z tk)) (hg : Gl X x := by rfl) (hd : (x == ("__debug__" : Str)) = false := by decide) : PE X (.Name x pos) (LE lk (wC (.str z))) :=
  pe_mono (pe_glob (v := .str z) hg hm ⟨tk, rfl⟩ hd) fun s H Q h => c_ok (fun F => by simp only [Fz]) h
theorem v_gint {x : Str} {z : Int} {tk : Tok} (hm : X.mg x = some (.int z tk)) (hg : Gl X x := by rfl) (hd : (x == ("__debug__" : Str)) = false := by decide) : PE X (.Name x pos) (LE lk (wC (.int z))) :=
  pe_mono (pe_glob (v := .int z) hg hm ⟨tk, rfl⟩ hd) fun s H Q h => c_ok (fun F => by simp only [Fz]) h
end

/-! ### operations on values -/
abbrev O1 := T → (T → Prop) → Prop
abbrev O2 := T → T → (T → Prop) → Prop
abbrev OA := List T → (T → Prop) → Prop
def S1 (r : V → Hp → VK → Prop) (o : O1) : Prop := ∀ (lk : Lk) (B F H : Hp) (s : L2.St) (m : Tau) (vs : List V) (ts : List T) (u : V) (x : T) (P : T → Prop) (Q : VK), St lk B F H s m (u :: vs) (x :: ts) → o x P → (∀ t, P t → KE lk B F s vs ts m t Q) → r u H Q
def S2 (r : R2) (o : O2) : Prop := ∀ (lk : Lk) (B F H : Hp) (s : L2.St) (m : Tau) (vs : List V) (ts : List T) (v u : V) (x y : T) (P : T → Prop) (Q : VK), St lk B F H s m (u :: v :: vs) (y :: x :: ts) → o x y P → (∀ t, P t → KE lk B F s vs ts m t Q) → r v u H Q
def SA (r : List V → Hp → VK → Prop) (o : OA) : Prop := ∀ (lk : Lk) (B F H : Hp) (s : L2.St) (m : Tau) (vs : List V) (ts : List T) (us : List V) (xs : List T) (P : T → Prop) (Q : VK), us.length = xs.length → St lk B F H s m (us ++ vs) (xs ++ ts) → o xs P → (∀ t, P t → KE lk B F s vs ts m t Q) → r us H Q
def w1 (o : O1) (wa : WE) : WE := fun m Q => wa m fun x m1 => o x fun z => Q z m1
def w2 (o : O2) (wa wb : WE) : WE := fun m Q => wa m fun x m1 => wb m1 fun y m2 => o x y fun z => Q z m2
def wA (o : OA) (wa : WA) : WE := fun m Q => wa m fun xs m1 => o xs fun z => Q z m1
theorem l1 {r : V → Hp → VK → Prop} {o : O1} (h : S1 r o) {wa : WE} {s : L2.St} {H : Hp} {Q : VK} (q : LE lk (w1 o wa) s H Q) : LE lk wa s H fun x H1 => r x H1 Q := by
  obtain ⟨B, F, m, vs, ts, P, st, hw, k⟩ := q
  refine ⟨B, F, m, vs, ts, _, st, hw, fun x m1 hx v F1 H1 g1 st1 => ?_⟩
  exact h lk B F1 H1 s m1 vs ts v x _ Q st1 hx fun t p w F2 H2 g2 st2 => k t m1 p w F2 H2 (g1.trans g2) st2
theorem l2 {r : R2} {o : O2} (h : S2 r o) {wa wb : WE} {s : L2.St} {H : Hp} {Q : VK} (q : LE lk (w2 o wa wb) s H Q) : LE lk wa s H fun x H1 => LE lk wb s H1 fun y H2 => r x y H2 Q := by
  obtain ⟨B, F, m, vs, ts, P, st, hw, k⟩ := q
  refine ⟨B, F, m, vs, ts, _, st, hw, fun x m1 hx v F1 H1 g1 st1 => ⟨B, F1, m1, v :: vs, x :: ts, _, st1, hx, fun y m2 hy u F2 H2 g2 st2 => ?_⟩⟩
  exact h lk B F2 H2 s m2 vs ts v u x y _ Q st2 hy fun t p w F3 H3 g3 st3 => k t m2 p w F3 H3 ((g1.trans g2).trans g3) st3
theorem lA {r : List V → Hp → VK → Prop} {o : OA} (h : SA r o) {wa : WA} {s : L2.St} {H : Hp} {Q : VK} (q : LE lk (wA o wa) s H Q) : LA lk wa s H fun xs H1 => r xs H1 Q := by
  obtain ⟨B, F, m, vs, ts, P, st, hw, k⟩ := q
  refine ⟨B, F, m, vs, ts, _, st, hw, fun xs m1 hx us F1 H1 g1 hl st1 => ?_⟩
  exact h lk B F1 H1 s m1 vs ts us xs _ Q hl st1 hx fun t p w F2 H2 g2 st2 => k t m1 p w F2 H2 (g1.trans g2) st2
section
variable {X : Cx} {a b e : Expr} {wa wb wc : WE} {pos : Pos}
theorem v_bin {op : Operator} {r : R2} {o : O2} (ho : OpR X (binaryOp op) r) (hs : S2 r o) (ha : PE X a (LE lk wa)) (hb : PE X b (LE lk wb)) : PE X (.BinOp a op b pos) (LE lk (w2 o wa wb)) := pe_mono (pe_op ho ha hb) fun s H Q q => l2 hs q
theorem v_cmp {op : CmpOp} {r : R2} {o : O2} (ho : OpR X (compareOp op) r) (hs : S2 r o) (ha : PE X a (LE lk wa)) (hb : PE X b (LE lk wb)) (hm : behindInMarks op b = false := by first | exact nomark _ | with_unfolding_all rfl) : PE X (.Compare a [op] [b] pos) (LE lk (w2 o wa wb)) :=
  pe_mono (pe_cmpR ho ha hb hm) fun s H Q q => l2 hs q
theorem v_un {op : UnaryOp} {r : V → Hp → VK → Prop} {o : O1} (ho : UnR X (unaryOp op) r) (hs : S1 r o) (ha : PE X a (LE lk wa)) : PE X (.UnaryOp op a pos) (LE lk (w1 o wa)) := pe_mono (pe_un ho ha) fun s H Q q => l1 hs q
theorem v_ix {r : R2} {o : O2} (ho : IxR X r) (hs : S2 r o) (ha : PE X a (LE lk wa)) (hb : PE X b (LE lk wb)) (hp : PlainIx b := by first | exact fun _ _ => rfl | (intro _ _; rfl)) : PE X (.Subscript a b pos) (LE lk (w2 o wa wb)) := pe_mono (pe_ix ho ha hb hp) fun s H Q q => l2 hs q
end
/-! ### tests -/
def wB (wa : WE) : WT := fun m Q => wa m fun x m1 => match x with
  | .fz (.bl b) => Q b m1
  | _ => False
def wAnd (wa wb : WT) : WT := fun m Q => wa m fun b m1 => match b with
  | true => wb m1 Q
  | false => Q false m1
def wOr (wa wb : WT) : WT := fun m Q => wa m fun b m1 => match b with
  | true => Q true m1
  | false => wb m1 Q
def wNot (wa : WT) : WT := fun m Q => wa m fun b m1 => Q (!b) m1
def wIf (wt : WT) (wa wb : WE) : WE := fun m Q => wt m fun b m1 => match b with
  | true => wa m1 Q
  | false => wb m1 Q
def wAndV (wa wb : WE) : WE := fun m Q => wa m fun x m1 => match x with
  | .fz (.bl true) => wb m1 Q
  | .fz (.bl false) => Q (.fz (.bl false)) m1
  | _ => False
def wOrV (wa wb : WE) : WE := fun m Q => wa m fun x m1 => match x with
  | .fz (.bl true) => Q (.fz (.bl true)) m1
  | .fz (.bl false) => wb m1 Q
  | _ => False
def wNotV (wa : WE) : WE := fun m Q => wa m fun x m1 => match x with
  | .fz (.bl b) => Q (.fz (.bl (!b))) m1
  | _ => False
theorem fz_bl {F : Hp} {b : Bool} {v : V} (h : Fz F (.bl b) v) : v = .bl b := by simpa only [Fz] using h
theorem fz_int {F : Hp} {i : Int} {v : V} (h : Fz F (.int i) v) : v = .int i := by simpa only [Fz] using h
theorem fz_str {F : Hp} {i : Str} {v : V} (h : Fz F (.str i) v) : v = .str i := by simpa only [Fz] using h
theorem fz_non {F : Hp} {v : V} (h : Fz F .non v) : v = .non := by simpa only [Fz] using h
theorem fzi {F : Hp} {i : Int} : Fz F (.int i) (.int i) := by simp only [Fz]
theorem fzb {F : Hp} {i : Bool} : Fz F (.bl i) (.bl i) := by simp only [Fz]
theorem fzs {F : Hp} {i : Str} : Fz F (.str i) (.str i) := by simp only [Fz]
theorem fzn {F : Hp} : Fz F .non .non := by simp only [Fz]
theorem St.tint {B F H : Hp} {s : L2.St} {m : Tau} {v : V} {vs : List V} {i : Int} {ts : List T} (h : St lk B F H s m (v :: vs) (.fz (.int i) :: ts)) : v = .int i ∧ St lk B F H s m vs ts := by
  obtain ⟨w, vr, q, k, st⟩ := h.top
  cases q
  exact ⟨fz_int k, st⟩
theorem St.tbl {B F H : Hp} {s : L2.St} {m : Tau} {v : V} {vs : List V} {i : Bool} {ts : List T} (h : St lk B F H s m (v :: vs) (.fz (.bl i) :: ts)) : v = .bl i ∧ St lk B F H s m vs ts := by
  obtain ⟨w, vr, q, k, st⟩ := h.top
  cases q
  exact ⟨fz_bl k, st⟩
theorem St.tstr {B F H : Hp} {s : L2.St} {m : Tau} {v : V} {vs : List V} {i : Str} {ts : List T} (h : St lk B F H s m (v :: vs) (.fz (.str i) :: ts)) : v = .str i ∧ St lk B F H s m vs ts := by
  obtain ⟨w, vr, q, k, st⟩ := h.top
  cases q
  exact ⟨fz_str k, st⟩
theorem St.tnon {B F H : Hp} {s : L2.St} {m : Tau} {v : V} {vs : List V} {ts : List T} (h : St lk B F H s m (v :: vs) (.fz .non :: ts)) : v = .non ∧ St lk B F H s m vs ts := by
  obtain ⟨w, vr, q, k, st⟩ := h.top
  cases q
  exact ⟨fz_non k, st⟩
theorem St.tfz {B F H : Hp} {s : L2.St} {m : Tau} {v : V} {vs : List V} {d : D} {ts : List T} (h : St lk B F H s m (v :: vs) (.fz d :: ts)) : Fz F d v ∧ St lk B F H s m vs ts := by
  obtain ⟨w, vr, q, k, st⟩ := h.top
  cases q
  exact ⟨k, st⟩
section
variable {X : Cx} {a b e : Expr} {wa wb wc : WE} {ta tb : WT} {pos : Pos} {rest : List Expr}
theorem lB {s : L2.St} {H : Hp} {Q : Bool → Hp → Prop} (q : LT lk (wB wa) s H Q) : LE lk wa s H fun x H1 => ∃ k, x = .bl k ∧ Q k H1 := by
  obtain ⟨B, F, m, vs, ts, P, st, hw, k⟩ := q
  refine ⟨B, F, m, vs, ts, _, st, hw, fun x m1 hx v F1 H1 g1 st1 => ?_⟩
  split at hx
  · rename_i b
    obtain ⟨rfl, st2⟩ := st1.tbl
    exact ⟨b, rfl, k b m1 hx F1 H1 g1 st2⟩
  · exact hx.elim
/-- an expression that is a bool, as a test (not for comparisons, and, or) -/
theorem v_test (h : PE X e (LE lk wa)) (he : ∀ whole, isTrue e X.env whole = (do let v ← whole; standAt e.pos; holding [v] (truthy v)) := by intro _; rfl) : PT X e (LT lk (wB wa)) := pt_mono (pt_val h he) fun s H Q q => lB q
theorem v_tcmp {op : CmpOp} {r : R2} {o : O2} (ho : OpR X (compareOp op) r) (hs : S2 r o) (ha : PE X a (LE lk wa)) (hb : PE X b (LE lk wb)) (hm : behindInMarks op b = false := by first | exact nomark _ | with_unfolding_all rfl) : PT X (.Compare a [op] [b] pos) (LT lk (wB (w2 o wa wb))) :=
  pt_mono (pt_cmpR ho ha hb hm) fun s H Q q => l2 hs (lB q)
theorem v_and1 (ha : PT X a (LT lk ta)) : PW X (.BoolOp .And [a] pos) (LT lk ta) := pw_and1 ha
theorem v_or1 (ha : PT X a (LT lk ta)) : PW X (.BoolOp .Or [a] pos) (LT lk ta) := pw_or1 ha
theorem v_and (ha : PT X a (LT lk ta)) (hb : PW X (.BoolOp .And (b :: rest) pos) (LT lk tb)) : PW X (.BoolOp .And (a :: b :: rest) pos) (LT lk (wAnd ta tb)) := by
  refine pw_mono (pw_and ha hb) fun s H Q q => ?_
  obtain ⟨B, F, m, vs, ts, P, st, hw, k⟩ := q
  refine ⟨B, F, m, vs, ts, _, st, hw, fun c m1 hx F1 H1 g1 st1 => ?_⟩
  cases c with
  | true =>
    rw [if_pos rfl]
    exact ⟨B, F1, m1, vs, ts, _, st1, hx, fun b m2 hb F2 H2 g2 st2 => k b m2 hb F2 H2 (g1.trans g2) st2⟩
  | false =>
    rw [if_neg Bool.false_ne_true]
    exact k false m1 hx F1 H1 g1 st1
theorem v_or (ha : PT X a (LT lk ta)) (hb : PW X (.BoolOp .Or (b :: rest) pos) (LT lk tb)) : PW X (.BoolOp .Or (a :: b :: rest) pos) (LT lk (wOr ta tb)) := by
  refine pw_mono (pw_or ha hb) fun s H Q q => ?_
  obtain ⟨B, F, m, vs, ts, P, st, hw, k⟩ := q
  refine ⟨B, F, m, vs, ts, _, st, hw, fun c m1 hx F1 H1 g1 st1 => ?_⟩
  cases c with
  | true =>
    rw [if_pos rfl]
    exact k true m1 hx F1 H1 g1 st1
  | false =>
    rw [if_neg Bool.false_ne_true]
    exact ⟨B, F1, m1, vs, ts, _, st1, hx, fun b m2 hb F2 H2 g2 st2 => k b m2 hb F2 H2 (g1.trans g2) st2⟩
theorem v_not (ha : PT X a (LT lk ta)) : PT X (.UnaryOp .Not a pos) (LT lk (wNot ta)) := by
  refine pt_mono (pt_not ha) fun s H Q q => ?_
  obtain ⟨B, F, m, vs, ts, P, st, hw, k⟩ := q
  exact ⟨B, F, m, vs, ts, _, st, hw, fun c m1 hx F1 H1 g1 st1 => k (!c) m1 hx F1 H1 g1 st1⟩
theorem v_ifExp {c : Expr} (hc : PT X c (LT lk ta)) (ha : PE X a (LE lk wa)) (hb : PE X b (LE lk wb)) : PE X (.IfExp c a b pos) (LE lk (wIf ta wa wb)) := by
  refine pe_mono (pe_ifExp hc ha hb) fun s H Q q => ?_
  obtain ⟨B, F, m, vs, ts, P, st, hw, k⟩ := q
  refine ⟨B, F, m, vs, ts, _, st, hw, fun c m1 hx F1 H1 g1 st1 => ?_⟩
  cases c with
  | true =>
    rw [if_pos rfl]
    exact ⟨B, F1, m1, vs, ts, _, st1, hx, fun t m2 hb v F2 H2 g2 st2 => k t m2 hb v F2 H2 (g1.trans g2) st2⟩
  | false =>
    rw [if_neg Bool.false_ne_true]
    exact ⟨B, F1, m1, vs, ts, _, st1, hx, fun t m2 hb v F2 H2 g2 st2 => k t m2 hb v F2 H2 (g1.trans g2) st2⟩
theorem v_andV (ha : PE X a (LE lk wa)) (hb : PE X (.BoolOp .And (b :: rest) pos) (LE lk wb)) : PE X (.BoolOp .And (a :: b :: rest) pos) (LE lk (wAndV wa wb)) := by
  refine pe_mono (pe_and ha hb) fun s H Q q => ?_
  obtain ⟨B, F, m, vs, ts, P, st, hw, k⟩ := q
  refine ⟨B, F, m, vs, ts, _, st, hw, fun x m1 hx v F1 H1 g1 st1 => ?_⟩
  split at hx
  · obtain ⟨rfl, st2⟩ := st1.tbl
    refine ⟨true, rfl, ?_⟩
    rw [if_pos rfl]
    exact ⟨B, F1, m1, vs, ts, _, st2, hx, fun t m2 hb v F2 H2 g2 st2 => k t m2 hb v F2 H2 (g1.trans g2) st2⟩
  · obtain ⟨rfl, st2⟩ := st1.tbl
    refine ⟨false, rfl, ?_⟩
    rw [if_neg Bool.false_ne_true]
    exact k _ m1 hx _ F1 H1 g1 st1
  · exact hx.elim
theorem v_orV (ha : PE X a (LE lk wa)) (hb : PE X (.BoolOp .Or (b :: rest) pos) (LE lk wb)) : PE X (.BoolOp .Or (a :: b :: rest) pos) (LE lk (wOrV wa wb)) := by
  refine pe_mono (pe_or ha hb) fun s H Q q => ?_
  obtain ⟨B, F, m, vs, ts, P, st, hw, k⟩ := q
  refine ⟨B, F, m, vs, ts, _, st, hw, fun x m1 hx v F1 H1 g1 st1 => ?_⟩
  split at hx
  · obtain ⟨rfl, st2⟩ := st1.tbl
    refine ⟨true, rfl, ?_⟩
    rw [if_pos rfl]
    exact k _ m1 hx _ F1 H1 g1 st1
  · obtain ⟨rfl, st2⟩ := st1.tbl
    refine ⟨false, rfl, ?_⟩
    rw [if_neg Bool.false_ne_true]
    exact ⟨B, F1, m1, vs, ts, _, st2, hx, fun t m2 hb v F2 H2 g2 st2 => k t m2 hb v F2 H2 (g1.trans g2) st2⟩
  · exact hx.elim
theorem v_one {op} (h : PE X a (LE lk wa)) : PE X (.BoolOp op [a] pos) (LE lk wa) := pe_one h
theorem v_notV (ha : PE X a (LE lk wa)) : PE X (.UnaryOp .Not a pos) (LE lk (wNotV wa)) := by
  refine pe_mono (pe_not ha) fun s H Q q => ?_
  obtain ⟨B, F, m, vs, ts, P, st, hw, k⟩ := q
  refine ⟨B, F, m, vs, ts, _, st, hw, fun x m1 hx v F1 H1 g1 st1 => ?_⟩
  split at hx
  · rename_i b
    obtain ⟨rfl, st2⟩ := st1.tbl
    exact ⟨b, rfl, k _ m1 hx _ F1 H1 g1 (st2.push fzb)⟩
  · exact hx.elim
end
/-! ### ints and texts -/
def oI (g : Int → Int → D) : O2 := fun x y P => match x, y with
  | .fz (.int i), .fz (.int j) => P (.fz (g i j))
  | _, _ => False
def oIC (C : Int → Int → Prop) (g : Int → Int → D) : O2 := fun x y P => match x, y with
  | .fz (.int i), .fz (.int j) => C i j ∧ P (.fz (g i j))
  | _, _ => False
theorem s_I {g : Int → Int → V} {g' : Int → Int → D} (hg : ∀ F i j, Fz F (g' i j) (g i j)) : S2 (rI0 g) (oI g') := by
  intro lk B F H s m vs ts v u x y P Q st ho k
  unfold oI at ho
  split at ho
  · rename_i i j
    obtain ⟨rfl, st1⟩ := st.tint
    obtain ⟨rfl, st2⟩ := st1.tint
    exact ⟨i, j, rfl, rfl, k _ ho _ F H (Gr.refl B F) (st2.push (hg F i j))⟩
  · exact ho.elim
theorem s_IC {C : Int → Int → Prop} {g : Int → Int → V} {g' : Int → Int → D} (hg : ∀ F i j, Fz F (g' i j) (g i j)) : S2 (rI C g) (oIC C g') := by
  intro lk B F H s m vs ts v u x y P Q st ho k
  unfold oIC at ho
  split at ho
  · rename_i i j
    obtain ⟨rfl, st1⟩ := st.tint
    obtain ⟨rfl, st2⟩ := st1.tint
    exact ⟨i, j, rfl, rfl, ho.1, k _ ho.2 _ F H (Gr.refl B F) (st2.push (hg F i j))⟩
  · exact ho.elim
abbrev oSub : O2 := oI fun i j => .int (i - j)
abbrev oLt : O2 := oI fun i j => .bl (decide (i < j))
abbrev oLe : O2 := oI fun i j => .bl (decide (i ≤ j))
abbrev oGt : O2 := oI fun i j => .bl (decide (j < i))
abbrev oGe : O2 := oI fun i j => .bl (decide (j ≤ i))
abbrev oMod : O2 := oIC (fun _ j => 0 < j) fun i j => .int (i % j)
section
variable {X : Cx} {a b c e : Expr} {wa wb wc : WE} {pos : Pos}
theorem v_sub (ha : PE X a (LE lk wa)) (hb : PE X b (LE lk wb)) : PE X (.BinOp a .Sub b pos) (LE lk (w2 oSub wa wb)) := v_bin op_sub (s_I fun _ _ _ => fzi) ha hb
theorem v_mod (ha : PE X a (LE lk wa)) (hb : PE X b (LE lk wb)) : PE X (.BinOp a .Mod b pos) (LE lk (w2 oMod wa wb)) := v_bin op_mod (s_IC fun _ _ _ => fzi) ha hb
theorem v_lt (ha : PE X a (LE lk wa)) (hb : PE X b (LE lk wb)) : PE X (.Compare a [.Lt] [b] pos) (LE lk (w2 oLt wa wb)) := v_cmp op_lt (s_I fun _ _ _ => fzb) ha hb
theorem v_le (ha : PE X a (LE lk wa)) (hb : PE X b (LE lk wb)) : PE X (.Compare a [.LtE] [b] pos) (LE lk (w2 oLe wa wb)) := v_cmp op_le (s_I fun _ _ _ => fzb) ha hb
theorem v_gt (ha : PE X a (LE lk wa)) (hb : PE X b (LE lk wb)) : PE X (.Compare a [.Gt] [b] pos) (LE lk (w2 oGt wa wb)) := v_cmp op_gt (s_I fun _ _ _ => fzb) ha hb
theorem v_ge (ha : PE X a (LE lk wa)) (hb : PE X b (LE lk wb)) : PE X (.Compare a [.GtE] [b] pos) (LE lk (w2 oGe wa wb)) := v_cmp op_ge (s_I fun _ _ _ => fzb) ha hb
theorem t_lt (ha : PE X a (LE lk wa)) (hb : PE X b (LE lk wb)) : PT X (.Compare a [.Lt] [b] pos) (LT lk (wB (w2 oLt wa wb))) := v_tcmp op_lt (s_I fun _ _ _ => fzb) ha hb
theorem t_le (ha : PE X a (LE lk wa)) (hb : PE X b (LE lk wb)) : PT X (.Compare a [.LtE] [b] pos) (LT lk (wB (w2 oLe wa wb))) := v_tcmp op_le (s_I fun _ _ _ => fzb) ha hb
theorem t_gt (ha : PE X a (LE lk wa)) (hb : PE X b (LE lk wb)) : PT X (.Compare a [.Gt] [b] pos) (LT lk (wB (w2 oGt wa wb))) := v_tcmp op_gt (s_I fun _ _ _ => fzb) ha hb
theorem t_ge (ha : PE X a (LE lk wa)) (hb : PE X b (LE lk wb)) : PT X (.Compare a [.GtE] [b] pos) (LT lk (wB (w2 oGe wa wb))) := v_tcmp op_ge (s_I fun _ _ _ => fzb) ha hb
end
end VL
set_option Elab.async false
set_option linter.all false
set_option maxRecDepth 100000
set_option maxHeartbeats 4000000
/-! VL3: readings over the trees: arguments, displays, subscripts, in, len, ==, sums of lists and texts, built-ins. -/
namespace VL
open PySem PySem.Spec PyProof.Rows L2

/-! ### temps -/
section
variable {B F H : Hp} {s : L2.St} {m : Tau} {vs : List V} {ts : List T}
theorem RpL.rot {F H : Hp} {t : T} {v : V} : ∀ {xs : List T} {us vs : List V} {ts : List T} {f : Fp}, us.length = xs.length → RpL F H (xs ++ t :: ts) (us ++ v :: vs) f → RpL F H (t :: (xs ++ ts)) (v :: (us ++ vs)) f
  | [], [], vs, ts, f, _, h => h
  | [], u :: us, vs, ts, f, hl, h => by cases hl
  | x :: xs, [], vs, ts, f, hl, h => by cases hl
  | x :: xs, u :: us, vs, ts, f, hl, h => by
    simp only [List.cons_append] at h
    rw [RpL] at h
    obtain ⟨u', vr, f1, f2, e, h1, h2, h3, rfl⟩ := h
    injection e with e1 e2
    subst e1 e2
    have h4 := RpL.rot (by simpa using hl) h2
    rw [RpL] at h4
    obtain ⟨v', vr', g1, g2, e, k1, k2, k3, rfl⟩ := h4
    injection e with e1 e2
    subst e1 e2
    simp only [List.cons_append]
    rw [RpL]
    refine ⟨v, _, g1, fun b => f1 b ∨ g2 b, rfl, k1, ?_, fun a p q => ?_, ?_⟩
    · rw [RpL]
      exact ⟨u, _, f1, g2, rfl, h1, k2, fun a p q => h3 a p (.inr q), rfl⟩
    · rcases q with q | q
      · exact h3 a q (.inl p)
      · exact k3 a p q
    · funext b
      exact propext ⟨fun z => by rcases z with z | z | z; exact .inr (.inl z); exact .inl z; exact .inr (.inr z), fun z => by rcases z with z | z | z; exact .inr (.inl z); exact .inl z; exact .inr (.inr z)⟩
theorem St.rot {t : T} {v : V} {xs : List T} {us : List V} (h : St lk B F H s m (us ++ v :: vs) (xs ++ t :: ts)) (hl : us.length = xs.length) : St lk B F H s m (v :: (us ++ vs)) (t :: (xs ++ ts)) := by
  obtain ⟨f, g, h1, h2, h3, h4⟩ := h.ex
  exact ⟨⟨f, g, h1, RpL.rot hl h2, h3, h4⟩, h.fr, h.bk⟩
theorem append_inj_len {α : Type} {a b c d : List α} (h : a ++ b = c ++ d) (hl : a.length = c.length) : a = c ∧ b = d := List.append_inj h hl
/-- a new object made of the trees in hand -/
theorem St.own {xs : List T} {us : List V} {p : Addr} {o : HO} {t : T} (h : St lk B F H s m (us ++ vs) (xs ++ ts)) (hl : us.length = xs.length) (hp : H p = none)
    (mk : ∀ (H' : Hp) (f : Fp), H' p = some o → RpL F H' xs us f → ¬ f p → Rp F H' t (.ref p) (fun b => b = p ∨ f b)) : St lk B F (upd H p o) s m (.ref p :: vs) (t :: ts) := by
  obtain ⟨f, g, h1, h2, h3, h4⟩ := h.ex
  obtain ⟨vs1, ws1, g1, g2, e, k1, k2, k3, rfl⟩ := RpL.split h2
  obtain ⟨rfl, rfl⟩ := append_inj_len e (hl.trans k1.length)
  have ne : ∀ a o', H a = some o' → a ≠ p := fun a o' e => ne_of_none e hp
  have keep : ∀ (q : Fp), (∀ a, q a → ∃ o, H a = some o) → ∀ a, q a → (upd H p o) a = H a := fun q d a z => by
    obtain ⟨o', e⟩ := d a z
    exact upd_ne (ne a o' e)
  have np : ∀ {q : Fp}, (∀ a, q a → ∃ o, H a = some o) → ¬ q p := fun d z => by
    obtain ⟨o', e⟩ := d p z
    rw [hp] at e; cases e
  refine ⟨⟨f, fun b => (b = p ∨ g1 b) ∨ g2 b, h1.frame (Same.refl F) (keep f h1.dom), ?_, fun a z q => ?_, fun a z => ?_⟩, h.fr.same (Same.new hp), h.bk.same (Same.new hp)⟩
  · rw [RpL]
    exact ⟨.ref p, vs, _, g2, rfl, mk _ _ upd_same (k1.frame (Same.refl F) (keep g1 k1.dom)) (np k1.dom), k2.frame (Same.refl F) (keep g2 k2.dom), fun a z q => by
      rcases z with rfl | z
      · exact np k2.dom q
      · exact k3 a z q, rfl⟩
  · rcases q with (rfl | q) | q
    · exact np h1.dom z
    · exact h3 a z (.inl q)
    · exact h3 a z (.inr q)
  · rcases z with z | (rfl | z) | z
    · exact h4 a (.inl z)
    · exact ⟨h.fr.none hp, h.bk.none hp⟩
    · exact h4 a (.inr (.inl z))
    · exact h4 a (.inr (.inr z))
theorem St.freezeL : ∀ {xs : List T} {us : List V} {F : Hp}, us.length = xs.length → St lk B F H s m (us ++ vs) (xs ++ ts) → ∃ F', Gr B F F' ∧ FzL F' (erL xs) us ∧ St lk B F' H s m vs ts
  | [], [], F, _, h => ⟨F, Gr.refl B F, by simp only [erL, FzL], h⟩
  | [], u :: us, F, hl, h => by cases hl
  | x :: xs, [], F, hl, h => by cases hl
  | x :: xs, u :: us, F, hl, h => by
    obtain ⟨F1, g1, st1⟩ := St.freeze (t := x) h
    obtain ⟨k, st2⟩ := St.tfz st1
    obtain ⟨F2, g2, k2, st3⟩ := St.freezeL (by simpa using hl) st2
    refine ⟨F2, g1.trans g2, ?_, st3⟩
    simp only [erL, FzL]
    exact ⟨u, us, rfl, k.mono g2.same, k2⟩
/-- a frozen tree made of the trees in hand -/
theorem St.made {xs : List T} {us : List V} {p : Addr} {o : HO} {d : D} (h : St lk B F H s m (us ++ vs) (xs ++ ts)) (hl : us.length = xs.length) (hp : H p = none)
    (mk : ∀ F' : Hp, F' p = some o → FzL F' (erL xs) us → Fz F' d (.ref p)) : ∃ F', Gr B F F' ∧ St lk B F' (upd H p o) s m (.ref p :: vs) (.fz d :: ts) := by
  obtain ⟨F1, g1, k1, st1⟩ := St.freezeL hl h
  obtain ⟨st2, g2⟩ := st1.new (o := o) hp
  exact ⟨_, g1.trans g2, st2.push (mk _ upd_same (k1.mono g2.same))⟩
/-- a new frozen object -/
theorem St.mk0 {p : Addr} {o : HO} {d : D} (h : St lk B F H s m vs ts) (hp : H p = none) (mk : ∀ F' : Hp, Same F F' → F' p = some o → Fz F' d (.ref p)) : ∃ F', Gr B F F' ∧ St lk B F' (upd H p o) s m (.ref p :: vs) (.fz d :: ts) := by
  obtain ⟨st2, g2⟩ := h.new (o := o) hp
  exact ⟨_, g2, st2.push (mk _ g2.same upd_same)⟩
/-- a new owned object of frozen things -/
theorem RpL.fz {F H : Hp} : ∀ {l : List D} {vs : List V}, FzL F l vs → RpL F H (l.map T.fz) vs (fun _ => False)
  | [], vs, h => by
    simp only [FzL] at h
    simp only [List.map_nil, RpL]
    exact ⟨h, trivial⟩
  | d :: l, vs, h => by
    simp only [FzL] at h
    obtain ⟨v, vr, rfl, h1, h2⟩ := h
    simp only [List.map_cons, RpL]
    refine ⟨v, vr, fun _ => False, fun _ => False, rfl, ?_, RpL.fz h2, fun _ z _ => z, by funext b; simp⟩
    simp only [Rp]
    exact ⟨h1, trivial⟩
theorem St.own0 {p : Addr} {o : HO} {t : T} (h : St lk B F H s m vs ts) (hp : H p = none) (mk : ∀ H' : Hp, H' p = some o → Rp F H' t (.ref p) (fun b => b = p ∨ False)) : St lk B F (upd H p o) s m (.ref p :: vs) (t :: ts) := by
  refine St.own (xs := []) (us := []) (t := t) h rfl hp fun H' f e k nf => ?_
  rw [RpL] at k
  obtain ⟨_, rfl⟩ := k
  exact mk H' e
end

/-! ### arguments -/
def wNil : WA := fun m Q => Q [] m
def wCons (we : WE) (wr : WA) : WA := fun m Q => we m fun t m1 => wr m1 fun ts m2 => Q (t :: ts) m2
section
variable {X : Cx} {e : Expr} {es : List Expr} {we : WE} {wr : WA} {pos : Pos}
theorem va_nil : PA X [] (LA lk wNil) := pa_mono pa_nil fun s H Q q => by
  obtain ⟨B, F, m, vs, ts, P, st, hw, k⟩ := q
  exact k [] m hw [] F H (Gr.refl B F) rfl st
theorem va_cons (he : PE X e (LE lk we)) (hr : PA X es (LA lk wr)) (hs : starEach (e :: es) X.env = (false, eval e X.env) :: starEach es X.env := by rfl) : PA X (e :: es) (LA lk (wCons we wr)) := pa_mono (pa_cons he hr hs) fun s H Q q => by
  obtain ⟨B, F, m, vs, ts, P, st, hw, k⟩ := q
  refine ⟨B, F, m, vs, ts, _, st, hw, fun t m1 ht v F1 H1 g1 st1 => ⟨B, F1, m1, v :: vs, t :: ts, _, st1, ht, fun xs m2 hx us F2 H2 g2 hl st2 => ?_⟩⟩
  exact k (t :: xs) m2 hx (v :: us) F2 H2 (g1.trans g2) (by simp [hl]) (st2.rot hl)
/-! ### displays -/
def wTup (wa : WA) : WE := fun m Q => wa m fun xs m1 => xs.length ≤ sizeLine ∧ Q (.fz (.tup (erL xs))) m1
def wLst (wa : WA) : WE := fun m Q => wa m fun xs m1 => xs.length ≤ sizeLine ∧ Q (.ol xs) m1
theorem v_tup {k : Nat} (h : PA X es (LA lk wr)) : PE X (.Tuple es k pos) (LE lk (wTup wr)) := pe_mono (pe_tup h) fun s H Q q => by
  obtain ⟨B, F, m, vs, ts, P, st, hw, k⟩ := q
  refine ⟨B, F, m, vs, ts, _, st, hw, fun xs m1 hx us F1 H1 g1 hl st1 => ⟨by rw [hl]; exact hx.1, fun p hp => ?_⟩⟩
  obtain ⟨F2, g2, st2⟩ := St.made (o := .tup us) (d := .tup (erL xs)) st1 hl hp fun F' e k => by
    simp only [Fz]
    exact ⟨p, us, rfl, e, k⟩
  exact k _ m1 hx.2 _ F2 _ (g1.trans g2) st2
theorem v_lst (h : PA X es (LA lk wr)) : PE X (.List es pos) (LE lk (wLst wr)) := pe_mono (pe_lst h) fun s H Q q => by
  obtain ⟨B, F, m, vs, ts, P, st, hw, k⟩ := q
  refine ⟨B, F, m, vs, ts, _, st, hw, fun xs m1 hx us F1 H1 g1 hl st1 => ⟨by rw [hl]; exact hx.1, fun p hp => ?_⟩⟩
  have st2 := St.own (o := .lst us) (t := .ol xs) st1 hl hp fun H' f e k nf => by
    simp only [Rp]
    exact ⟨p, us, f, rfl, e, k, nf, rfl⟩
  exact k _ m1 hx.2 _ F1 _ g1 st2
/-- {} -/
def wNewD : WE := fun m Q => Q (.od [] []) m
theorem v_newD : PE X (.Dict [] [] pos) (LE lk wNewD) := pe_mono pe_dnewK fun s H Q q => by
  obtain ⟨B, F, m, vs, ts, P, st, hw, k⟩ := q
  intro p hp
  refine k _ m hw _ F _ (Gr.refl B F) (st.own0 hp fun H' e => ?_)
  simp only [Rp]
  exact ⟨p, [], fun _ => False, rfl, e, ⟨rfl, List.nodup_nil⟩, by simp only [RpL]; exact ⟨trivial, trivial⟩, id, rfl⟩
end

/-! ### what is at a place -/
def keyD : D → Option Key
  | .int i => some (.inl i)
  | .str z => some (.inr z)
  | _ => none
def lookK {α : Type} : List Key → List α → Key → Option α
  | k :: ks, d :: l, q => if k = q then some d else lookK ks l q
  | _, _, _ => none
def dIx (a b : D) : Option D := match a, b with
  | .lst l, .int i => atI l i
  | .tup l, .int i => atI l i
  | .str z, .int i => if z.length ≤ sizeLine then (atI z.cps.toList i).map fun c => .str ⟨#[c]⟩ else none
  | .dct ks l, b => match keyD b with
    | some k => lookK ks l k
    | none => none
  | _, _ => none
theorem keyD_ok {F : Hp} {b : D} {v : V} {k : Key} (h : Fz F b v) (e : keyD b = some k) : v = kV k := by
  cases b with
  | int i =>
    rw [fz_int h]
    cases (Option.some.inj e)
    rfl
  | str z =>
    rw [fz_str h]
    cases (Option.some.inj e)
    rfl
  | _ => cases e
theorem look_fz {F : Hp} : ∀ {ks : List Key} {l : List D} {vs : List V} {q : Key}, FzL F l vs → ks.length = vs.length → (∀ d, lookK ks l q = some d → ∃ v, valV (ks.zip vs) q = some v ∧ Fz F d v) ∧ (lookK ks l q = none → valV (ks.zip vs) q = none)
  | [], l, vs, q, h, hl => by
    refine ⟨fun d e => ?_, fun _ => ?_⟩
    · cases l <;> cases e
    · simp [valV]
  | k :: ks, [], vs, q, h, hl => by
    simp only [FzL] at h
    subst h
    cases hl
  | k :: ks, d :: l, vs, q, h, hl => by
    simp only [FzL] at h
    obtain ⟨v, vr, rfl, h1, h2⟩ := h
    have ih := look_fz (ks := ks) (q := q) h2 (by simpa using hl)
    simp only [List.zip_cons_cons, lookK]
    by_cases e : k = q
    · rw [if_pos e, valV_pos e]
      exact ⟨fun d' e' => ⟨v, rfl, by cases e'; exact h1⟩, fun z => by cases z⟩
    · rw [if_neg e, valV_neg e]
      exact ih
theorem atI_fz {F : Hp} {l : List D} {vs : List V} {i : Int} {d : D} (h : FzL F l vs) (e : atI l i = some d) : ∃ v, atI vs i = some v ∧ Fz F d v := by
  unfold atI at e ⊢
  rw [h.length] at e
  cases q : ixN vs.length i with
  | none =>
    rw [q] at e
    cases e
  | some j =>
    rw [q] at e
    exact h.get e
/-- a subscript of what is frozen: by values -/
def rIxA (K : PySem.W.Frag) : R2 := fun x y H Q => rIx K x y H Q ∨ ∃ a v, x = .ref a ∧ DGet H a y (some v) ∧ Q v H
theorem ix_dict {X : Cx} (hu : X.A.units + 1 < cLine) : IxR X (fun x y H Q => ∃ a v, x = .ref a ∧ DGet H a y (some v) ∧ Q v H) := by
  intro value slice pins s σ H x y v u Q I rx ry h hs
  obtain ⟨a, z, rfl, g, q⟩ := h
  obtain rfl : v = Value.ref a := rx
  exact tail_any (dict_typeIs I g) PySem.F.slot_dict_getitem.lookup (d_getItem hu I g ry fun w' s3 I3 rw' => ⟨z, H, I3, rw', q⟩) hs
theorem ix_any {X : Cx} (hu : X.A.units + 1 < cLine) : IxR X (rIxA X.K) := ix_seq.or (ix_dict hu)
theorem fz_ix {K : PySem.W.Frag} {B F H : Hp} {s : L2.St} {m : Tau} {vs : List V} {ts : List T} {a b d : D} {v u : V} {Q : VK} (st : St lk B F H s m vs ts) (ha : Fz F a v) (hb : Fz F b u) (e : dIx a b = some d) (q : ∀ w, Fz F d w → Q w H) : rIxA K v u H Q := by
  unfold dIx at e
  split at e
  · rename_i l i
    obtain ⟨p, ws, rfl, e1, e2, e3⟩ := st.lst ha
    rw [fz_int hb]
    obtain ⟨w, e4, e5⟩ := atI_fz e3 e
    exact .inl (.inl ⟨p, ws, i, w, rfl, rfl, SqL.of e2, e4, q w e5⟩)
  · rename_i l i
    obtain ⟨p, ws, rfl, e1, e2, e3⟩ := st.tup ha
    rw [fz_int hb]
    obtain ⟨w, e4, e5⟩ := atI_fz e3 e
    exact .inl (.inr (.inl ⟨p, ws, i, w, rfl, rfl, SqT.of e2, e4, q w e5⟩))
  · rename_i z i
    rw [fz_str ha, fz_int hb]
    split at e
    · rename_i hz
      cases e2 : atI z.cps.toList i with
      | none =>
        rw [e2] at e
        cases e
      | some c =>
        rw [e2] at e
        cases e
        exact .inl (.inr (.inr ⟨z, i, c, rfl, rfl, hz, e2, q _ fzs⟩))
    · cases e
  · rename_i ks l b'
    split at e
    · rename_i k ek
      obtain ⟨p, ws, rfl, e1, e2, ⟨e3, _⟩, e4⟩ := st.dct ha
      rw [keyD_ok hb ek]
      obtain ⟨w, e5, e6⟩ := (look_fz (q := k) e4 e3).1 d e
      exact .inr ⟨p, w, rfl, .inl ⟨_, k, e2, rfl, e5.symm⟩, q w e6⟩
    · cases e
  · cases e
def oIx : O2 := fun x y P => match x, y with
  | .fz a, .fz b => match dIx a b with
    | some d => P (.fz d)
    | none => False
  | _, _ => False
theorem s_ix {K : PySem.W.Frag} : S2 (rIxA K) oIx := by
  intro lk B F H s m vs ts v u x y P Q st ho k
  unfold oIx at ho
  split at ho
  · rename_i a b
    split at ho
    · rename_i d e
      obtain ⟨hb, st1⟩ := st.tfz
      obtain ⟨ha, st2⟩ := st1.tfz
      exact fz_ix st2 ha hb e fun w hw => k _ ho w F H (Gr.refl B F) (st2.push hw)
    · exact ho.elim
  · exact ho.elim
/-! ### a slot that is read where it stands -/
/-- what a slot holds, as data (frozen or owned) -/
def look (m : Tau) (i : Nat) : Option T := match m[i]? with
  | some (some t) => some t
  | _ => none
theorem look_some {m : Tau} {i : Nat} {t : T} (h : look m i = some t) : m[i]? = some (some t) := by
  unfold look at h
  split at h
  · rename_i t' e
    cases h
    exact e
  · cases h
theorem St.lookV {B F H : Hp} {s : L2.St} {m : Tau} {vs : List V} {ts : List T} {i : Nat} {t : T} (st : St lk B F H s m vs ts) (h : look m i = some t) : ∃ v f, s[i]? = some (some v) ∧ Rp F H t v f := by
  obtain ⟨f, g, h1, h2, h3, h4⟩ := st.ex
  obtain ⟨v, f1, f2, k1, k2, _⟩ := h1.out (look_some h)
  exact ⟨v, f1, k1, k2⟩
/-- what is read of an owned thing of frozen ones -/
def tIx (t : T) (b : D) : Option D := match t with
  | .fz a => dIx a b
  | .ol l => match b with
    | .int i => match atI l i with
      | some (.fz d) => some d
      | _ => none
    | _ => none
  | .od ks l => match keyD b with
    | some k => match lookK ks l k with
      | some (.fz d) => some d
      | _ => none
    | none => none
  | _ => none
theorem RpL.get {F H : Hp} : ∀ {l : List T} {vs : List V} {f : Fp} {i : Nat} {t : T}, RpL F H l vs f → l[i]? = some t → ∃ v g, vs[i]? = some v ∧ Rp F H t v g := fun {l vs f i t} h e => by
  obtain ⟨v, g, r, h1, h2, _⟩ := h.item e
  exact ⟨v, g, h1, h2⟩
theorem atI_rp {F H : Hp} {l : List T} {vs : List V} {f : Fp} {i : Int} {t : T} (h : RpL F H l vs f) (e : atI l i = some t) : ∃ v g, atI vs i = some v ∧ Rp F H t v g := by
  unfold atI at e ⊢
  rw [h.length] at e
  cases q : ixN vs.length i with
  | none =>
    rw [q] at e
    cases e
  | some j =>
    rw [q] at e
    exact h.get e
theorem look_rp {F H : Hp} : ∀ {ks : List Key} {l : List T} {vs : List V} {f : Fp} {q : Key}, RpL F H l vs f → ks.length = vs.length → (∀ t, lookK ks l q = some t → ∃ v g, valV (ks.zip vs) q = some v ∧ Rp F H t v g) ∧ (lookK ks l q = none → valV (ks.zip vs) q = none)
  | [], l, vs, f, q, h, hl => by
    refine ⟨fun d e => ?_, fun _ => ?_⟩
    · cases l <;> cases e
    · simp [valV]
  | k :: ks, [], vs, f, q, h, hl => by
    simp only [RpL] at h
    obtain ⟨rfl, _⟩ := h
    cases hl
  | k :: ks, d :: l, vs, f, q, h, hl => by
    simp only [RpL] at h
    obtain ⟨v, vr, f1, f2, rfl, h1, h2, h3, rfl⟩ := h
    have ih := look_rp (ks := ks) (q := q) h2 (by simpa using hl)
    simp only [List.zip_cons_cons, lookK]
    by_cases e : k = q
    · rw [if_pos e, valV_pos e]
      exact ⟨fun d' e' => ⟨v, f1, rfl, by cases e'; exact h1⟩, fun z => by cases z⟩
    · rw [if_neg e, valV_neg e]
      exact ih
theorem rp_ix {K : PySem.W.Frag} {B F H : Hp} {s : L2.St} {m : Tau} {vs : List V} {ts : List T} {t : T} {b d : D} {v u : V} {f : Fp} {Q : VK} (st : St lk B F H s m vs ts) (ha : Rp F H t v f) (hb : Fz F b u) (e : tIx t b = some d) (q : ∀ w, Fz F d w → Q w H) : rIxA K v u H Q := by
  unfold tIx at e
  split at e
  · rename_i a
    simp only [Rp] at ha
    exact fz_ix st ha.1 hb e q
  · rename_i l
    split at e
    · rename_i i
      split at e
      · rename_i d' e1
        cases e
        simp only [Rp] at ha
        obtain ⟨p, ws, g, rfl, k1, k2, _, _⟩ := ha
        rw [fz_int hb]
        obtain ⟨w, f', e2, e3⟩ := atI_rp k2 e1
        simp only [Rp] at e3
        exact .inl (.inl ⟨p, ws, i, w, rfl, rfl, SqL.of k1, e2, q w e3.1⟩)
      · cases e
    · cases e
  · rename_i ks l
    split at e
    · rename_i k ek
      split at e
      · rename_i d' e1
        cases e
        simp only [Rp] at ha
        obtain ⟨p, ws, g, rfl, k1, ⟨kl, _⟩, k2, _, _⟩ := ha
        rw [keyD_ok hb ek]
        obtain ⟨w, f', e2, e3⟩ := (look_rp (q := k) k2 kl).1 _ e1
        simp only [Rp] at e3
        exact .inr ⟨p, w, rfl, .inl ⟨_, k, .inl k1, rfl, e2.symm⟩, q w e3.1⟩
      · cases e
    · cases e
  · cases e
def wIxS (i : Nat) (wb : WE) : WE := fun m Q => match look m i with
  | some _ => wb m fun y m1 => match look m1 i, y with
    | some t, .fz b => match tIx t b with
      | some d => Q (.fz d) m1
      | none => False
    | _, _ => False
  | none => False
section
variable {X : Cx} {a b e : Expr} {wa wb : WE} {pos p1 : Pos} {i : Nat} {x : Str}
theorem v_ixA (hu : X.A.units + 1 < cLine) (ha : PE X a (LE lk wa)) (hb : PE X b (LE lk wb)) (hp : PlainIx b := by first | exact fun _ _ => rfl | (intro _ _; rfl)) : PE X (.Subscript a b pos) (LE lk (w2 oIx wa wb)) := v_ix (ix_any hu) s_ix ha hb hp
/-- name[e]: the name's slot is read where it stands (it may be owned) -/
theorem v_ixS (i : Nat) (hu : X.A.units + 1 < cLine) (hn : PE X (.Name x p1) (tVar i)) (hb : PE X b (LE lk wb)) (hp : PlainIx b := by first | exact fun _ _ => rfl | (intro _ _; rfl)) : PE X (.Subscript (.Name x p1) b pos) (LE lk (wIxS i wb)) := by
  refine pe_mono (pe_ix (ix_any hu) hn hb hp) fun s H Q q => ?_
  obtain ⟨B, F, m, vs, ts, P, st, hw, k⟩ := q
  unfold wIxS at hw
  split at hw
  · rename_i t0 e0
    obtain ⟨v0, f0, ev, _⟩ := st.lookV e0
    refine ⟨v0, ev, B, F, m, vs, ts, _, st, hw, fun y m1 hy u F1 H1 g1 st1 => ?_⟩
    split at hy
    · rename_i t b' e
      split at hy
      · rename_i d ed
        obtain ⟨hb', st2⟩ := st1.tfz
        obtain ⟨v, f, e1, e2⟩ := st2.lookV e
        rw [ev] at e1
        cases e1
        exact rp_ix st2 e2 hb' ed fun w hw => k _ m1 hy w F1 H1 g1 (st2.push hw)
      · exact hy.elim
    · exact hy.elim
  · exact hw.elim
end
end VL
set_option Elab.async false
set_option linter.all false
set_option maxRecDepth 100000
set_option maxHeartbeats 4000000
/-! VL4: operations that read: in, len, ==, +, slices, list, tuple, sorted, all, any, int, min, max, is None. -/
namespace VL
open PySem PySem.Spec PyProof.Rows L2

/-! ### reading operations: the operands are frozen where they aren't -/
def oR1 (f : D → Option D) : O1 := fun x P => match f x.er with
  | some d => P (.fz d)
  | none => False
def oR2 (f : D → D → Option D) : O2 := fun x y P => match f x.er y.er with
  | some d => P (.fz d)
  | none => False
def oL1 (f : D → Option (List D)) : O1 := fun x P => match f x.er with
  | some l => P (.ol (l.map T.fz))
  | none => False
section
variable {K : PySem.W.Frag} {B F H : Hp} {s : L2.St} {m : Tau} {vs : List V} {ts : List T} {r : R2} {r1 : V → Hp → VK → Prop}
def Rd2 (r : R2) (f : D → D → Option D) : Prop := ∀ (lk : Lk) (B F H : Hp) (s : L2.St) (m : Tau) (vs : List V) (ts : List T) (a b d : D) (v u : V) (Q : VK), St lk B F H s m vs ts → Fz F a v → Fz F b u → f a b = some d → (∀ w, Fz F d w → Q w H) → r v u H Q
def Rd1 (r : V → Hp → VK → Prop) (f : D → Option D) : Prop := ∀ (lk : Lk) (B F H : Hp) (s : L2.St) (m : Tau) (vs : List V) (ts : List T) (a d : D) (v : V) (Q : VK), St lk B F H s m vs ts → Fz F a v → f a = some d → (∀ w, Fz F d w → Q w H) → r v H Q
def RdL1 (r : V → Hp → VK → Prop) (f : D → Option (List D)) : Prop := ∀ (lk : Lk) (B F H : Hp) (s : L2.St) (m : Tau) (vs : List V) (ts : List T) (a : D) (l : List D) (v : V) (Q : VK), St lk B F H s m vs ts → Fz F a v → f a = some l → (∀ ws p, FzL F l ws → H p = none → Q (.ref p) (upd H p (.lst ws))) → r v H Q
theorem s_R2 {f : D → D → Option D} (h : Rd2 r f) : S2 r (oR2 f) := by
  intro lk B F H s m vs ts v u x y P Q st ho k
  unfold oR2 at ho
  split at ho
  · rename_i d e
    obtain ⟨F1, g1, st1⟩ := st.freeze
    obtain ⟨hb, st2⟩ := st1.tfz
    obtain ⟨F2, g2, st3⟩ := st2.freeze
    obtain ⟨ha, st4⟩ := st3.tfz
    exact h lk B F2 H s m vs ts _ _ d v u Q st4 ha (hb.mono g2.same) e fun w hw => k _ ho w F2 H (g1.trans g2) (st4.push hw)
  · exact ho.elim
theorem s_R1 {f : D → Option D} (h : Rd1 r1 f) : S1 r1 (oR1 f) := by
  intro lk B F H s m vs ts u x P Q st ho k
  unfold oR1 at ho
  split at ho
  · rename_i d e
    obtain ⟨F1, g1, st1⟩ := st.freeze
    obtain ⟨hb, st2⟩ := st1.tfz
    exact h lk B F1 H s m vs ts _ d u Q st2 hb e fun w hw => k _ ho w F1 H g1 (st2.push hw)
  · exact ho.elim
theorem s_L1 {f : D → Option (List D)} (h : RdL1 r1 f) : S1 r1 (oL1 f) := by
  intro lk B F H s m vs ts u x P Q st ho k
  unfold oL1 at ho
  split at ho
  · rename_i l e
    obtain ⟨F1, g1, st1⟩ := st.freeze
    obtain ⟨hb, st2⟩ := st1.tfz
    refine h lk B F1 H s m vs ts _ l u Q st2 hb e fun ws p hw hp => k _ ho (.ref p) F1 _ g1 (st2.own0 hp fun H' e' => ?_)
    simp only [Rp]
    exact ⟨p, ws, fun _ => False, rfl, e', RpL.fz hw, id, rfl⟩
  · exact ho.elim
/-- one argument of a built-in -/
def oA1 (o : O1) : OA := fun xs P => match xs with
  | [x] => o x P
  | _ => False
theorem sA_of1 {ra : List V → Hp → VK → Prop} {o : O1} (h : S1 (fun v H Q => ra [v] H Q) o) : SA ra (oA1 o) := by
  intro lk B F H s m vs ts us xs P Q hl st ho k
  unfold oA1 at ho
  split at ho
  · rename_i x
    match us, hl with
    | [u], _ => exact h lk B F H s m vs ts u x P Q st ho k
  · exact ho.elim
def oA2 (o : O2) : OA := fun xs P => match xs with
  | [x, y] => o x y P
  | _ => False
end
section
variable {X : Cx} {e : Expr} {es : List Expr} {wa : WA} {pos p : Pos} {x : Str} {id : String} {r : List V → Hp → VK → Prop} {o : OA}
theorem v_callB (hc : CallR X (.builtin id) r) (hs : SA r o) (hm : X.mg x = none) (hv : bootBuiltins x = some (.builtin id)) (ha : PA X (e :: es) (LA lk wa)) (hg : Gl X x := by rfl) (hn : x ≠ "__name__" := by decide) (hdb : (x == ("__debug__" : Str)) = false := by decide)
    (he : starEach (e :: es) X.env = (false, eval e X.env) :: starEach es X.env := by rfl) (hpl : (backTo pos (starEach es X.env)).any (·.1) = false := by rfl) : PE X (.Call (.Name x p) (e :: es) [] pos) (LE lk (wA o wa)) :=
  pe_mono (pe_callB hc hg hm hv ha hn hdb he hpl) fun s H Q q => lA hs q
theorem v_callTy {Ty : String} (hc : CallR X (.type Ty) r) (hs : SA r o) (hm : X.mg x = none) (hv : bootBuiltins x = some (.type Ty)) (ha : PA X (e :: es) (LA lk wa)) (hg : Gl X x := by rfl) (hn : x ≠ "__name__" := by decide) (hdb : (x == ("__debug__" : Str)) = false := by decide)
    (he : starEach (e :: es) X.env = (false, eval e X.env) :: starEach es X.env := by rfl) (hpl : (backTo pos (starEach es X.env)).any (·.1) = false := by rfl) : PE X (.Call (.Name x p) (e :: es) [] pos) (LE lk (wA o wa)) :=
  pe_mono (pe_callTy hc hg hm hv ha hn hdb he hpl) fun s H Q q => lA hs q
end
theorem CallR.or {X : Cx} {f : Value} {r r' : List V → Hp → VK → Prop} (h : CallR X f r) (h' : CallR X f r') : CallR X f (fun xs H Q => r xs H Q ∨ r' xs H Q) := by
  intro pins s σ H xs us Q I rx q
  rcases q with q | q
  · exact h pins s σ H xs us Q I rx q
  · exact h' pins s σ H xs us Q I rx q

/-! ### len -/
def dLen (a : D) : Option D := match a with
  | .lst l => some (.int (l.length : Nat))
  | .tup l => some (.int (l.length : Nat))
  | .dct ks _ => some (.int (ks.length : Nat))
  | .str z => if z.length ≤ sizeLine then some (.int (z.length : Nat)) else none
  | _ => none
def rLenA (K : PySem.W.Frag) : List V → Hp → VK → Prop := fun xs H Q => (∃ p ys, xs = [.ref p] ∧ (SqL K H p ys ∨ SqT K H p ys) ∧ Q (.int ys.length) H) ∨ (∃ z : Str, xs = [.str z] ∧ z.length ≤ sizeLine ∧ Q (.int z.length) H) ∨ ∃ a kvs, xs = [V.ref a] ∧ Rd H a (.dK kvs) ∧ Q (.int kvs.length) H
theorem call_lenDR {X : Cx} : CallR X (.builtin "len") (fun xs H Q => ∃ a kvs, xs = [V.ref a] ∧ Rd H a (.dK kvs) ∧ Q (.int kvs.length) H) := by
  intro pins s σ H xs us Q I r q
  obtain ⟨a, kvs, rfl, hd, q⟩ := q
  obtain ⟨u, eu, rx⟩ := vals1 r
  subst eu
  obtain rfl : u = Value.ref a := rx
  exact d_len I hd fun t s' I' => ⟨.int kvs.length, H, I', ⟨t, rfl⟩, q⟩
theorem call_lenA {X : Cx} : CallR X (.builtin "len") (rLenA X.K) := call_len_seq.or (call_len_str.or call_lenDR)
theorem rd_len {K : PySem.W.Frag} : Rd1 (fun v H Q => rLenA K [v] H Q) dLen := by
  intro lk B F H s m vs ts a d v Q st ha e q
  unfold dLen at e
  split at e
  · obtain ⟨p, ws, rfl, e1, e2, e3⟩ := st.lst ha
    cases e
    refine .inl ⟨p, ws, rfl, .inl (SqL.of e2), ?_⟩
    rw [← e3.length]
    exact q _ fzi
  · obtain ⟨p, ws, rfl, e1, e2, e3⟩ := st.tup ha
    cases e
    refine .inl ⟨p, ws, rfl, .inr (SqT.of e2), ?_⟩
    rw [← e3.length]
    exact q _ fzi
  · obtain ⟨p, ws, rfl, e1, e2, ⟨e3, _⟩, e4⟩ := st.dct ha
    cases e
    refine .inr (.inr ⟨p, _, rfl, e2, ?_⟩)
    rw [List.length_zip, ← e3, Nat.min_self]
    exact q _ fzi
  · rw [fz_str ha]
    split at e
    · rename_i hz
      cases e
      exact .inr (.inl ⟨_, rfl, hz, q _ fzi⟩)
    · cases e
  · cases e
/-- what a slot holds is read (owned or not) -/
def tLen (t : T) : Option D := match t with
  | .fz a => dLen a
  | .ol l => some (.int (l.length : Nat))
  | .od ks _ => some (.int (ks.length : Nat))
  | _ => none
def wLenS (i : Nat) : WE := fun m Q => match look m i with
  | some t => match tLen t with
    | some d => Q (.fz d) m
    | none => False
  | none => False
section
variable {X : Cx} {e : Expr} {es : List Expr} {wa : WA} {pos p p1 : Pos} {x : Str}
theorem v_len (hm : X.mg "len" = none) (ha : PA X [e] (LA lk wa)) (hg : Gl X "len" := by rfl) (he : starEach [e] X.env = (false, eval e X.env) :: starEach [] X.env := by rfl) (hpl : (backTo pos (starEach [] X.env)).any (·.1) = false := by rfl) :
    PE X (.Call (.Name "len" p) [e] [] pos) (LE lk (wA (oA1 (oR1 dLen)) wa)) := v_callB call_lenA (sA_of1 (s_R1 rd_len)) hm PySem.boot_len ha hg (by decide) (by decide) he hpl
theorem v_lenS (i : Nat) (hm : X.mg "len" = none) (hn : PE X (.Name x p1) (tVar i)) (hg : Gl X "len" := by rfl) (hst : starEach [.Name x p1] X.env = (false, eval (.Name x p1) X.env) :: starEach [] X.env := by rfl) (hpl : (backTo pos (starEach [] X.env)).any (·.1) = false := by rfl) :
    PE X (.Call (.Name "len" p) [.Name x p1] [] pos) (LE lk (wLenS i)) := by
  refine pe_mono (pe_callB call_lenA hg hm PySem.boot_len (pa_cons hn pa_nil hst) (by decide) (by decide) hst hpl) fun s H Q q => ?_
  obtain ⟨B, F, m, vs, ts, P, st, hw, k⟩ := q
  unfold wLenS at hw
  split at hw
  · rename_i t e
    obtain ⟨v, f, ev, r⟩ := st.lookV e
    refine ⟨v, ev, ?_⟩
    split at hw
    · rename_i d ed
      unfold tLen at ed
      split at ed
      · simp only [Rp] at r
        exact rd_len lk B F H s m vs ts _ d v Q st r.1 ed fun w hw' => k _ m hw w F H (Gr.refl B F) (st.push hw')
      · simp only [Rp] at r
        obtain ⟨a, ws, g, rfl, e1, e2, _⟩ := r
        cases ed
        refine .inl ⟨a, ws, rfl, .inl (SqL.of e1), ?_⟩
        rw [← e2.length]
        exact k _ m hw _ F H (Gr.refl B F) (st.push fzi)
      · simp only [Rp] at r
        obtain ⟨a, ws, g, rfl, e1, ⟨e3, _⟩, e2, _⟩ := r
        cases ed
        refine .inr (.inr ⟨a, _, rfl, .inl e1, ?_⟩)
        rw [List.length_zip, ← e3, Nat.min_self]
        exact k _ m hw _ F H (Gr.refl B F) (st.push fzi)
      · cases ed
    · exact hw.elim
  · exact hw.elim
end
/-! ### in -/
def flatD : D → Bool
  | .non => true
  | .bl _ => true
  | .int _ => true
  | .str _ => true
  | _ => false
def eqD : D → D → Bool
  | .non, .non => true
  | .bl a, .bl b => a == b
  | .bl a, .int b => (if a then 1 else 0) == b
  | .int a, .bl b => a == (if b then 1 else 0)
  | .int a, .int b => a == b
  | .str a, .str b => a == b
  | _, _ => false
theorem flat_fz {F : Hp} {d : D} {v : V} (h : Fz F d v) (f : flatD d = true) : flatV v = true := by
  cases d with
  | non => rw [fz_non h]; rfl
  | bl b => rw [fz_bl h]; rfl
  | int b => rw [fz_int h]; rfl
  | str b => rw [fz_str h]; rfl
  | _ => cases f
theorem eq_fz {F : Hp} {d c : D} {v u : V} (h : Fz F d v) (k : Fz F c u) (f : flatD d = true) (g : flatD c = true) : eqV v u = eqD d c := by
  cases d with
  | non => rw [fz_non h]; cases c with
    | non => rw [fz_non k]; rfl
    | bl b => rw [fz_bl k]; rfl
    | int b => rw [fz_int k]; rfl
    | str b => rw [fz_str k]; rfl
    | _ => cases g
  | bl b => rw [fz_bl h]; cases c with
    | non => rw [fz_non k]; rfl
    | bl b => rw [fz_bl k]; rfl
    | int b => rw [fz_int k]; rfl
    | str b => rw [fz_str k]; rfl
    | _ => cases g
  | int b => rw [fz_int h]; cases c with
    | non => rw [fz_non k]; rfl
    | bl b => rw [fz_bl k]; rfl
    | int b => rw [fz_int k]; rfl
    | str b => rw [fz_str k]; rfl
    | _ => cases g
  | str b => rw [fz_str h]; cases c with
    | non => rw [fz_non k]; rfl
    | bl b => rw [fz_bl k]; rfl
    | int b => rw [fz_int k]; rfl
    | str b => rw [fz_str k]; rfl
    | _ => cases g
  | _ => cases f
def inD (a : D) (l : List D) : Bool := l.any fun y => eqD y a
theorem in_fz {F : Hp} {a : D} {v : V} (h : Fz F a v) (f : flatD a = true) : ∀ {l : List D} {ws : List V}, FzL F l ws → l.all flatD = true → ws.all flatV = true ∧ inV v ws = inD a l
  | [], ws, k, g => by
    simp only [FzL] at k
    subst k
    exact ⟨rfl, rfl⟩
  | d :: l, ws, k, g => by
    simp only [FzL] at k
    obtain ⟨w, wr, rfl, k1, k2⟩ := k
    simp only [List.all_cons, Bool.and_eq_true] at g ⊢
    obtain ⟨h1, h2⟩ := in_fz h f k2 g.2
    refine ⟨⟨flat_fz k1 g.1, h1⟩, ?_⟩
    simp only [inV, inD, List.any_cons] at h2 ⊢
    rw [eq_fz k1 h g.1 f]
    exact congrArg (fun z => eqD d a || z) h2
def memK (ks : List Key) (k : Key) : Bool := ks.any fun q => decide (q = k)
theorem memK_iff {ks : List Key} {k : Key} : memK ks k = true ↔ k ∈ ks := by
  unfold memK
  rw [List.any_eq_true]
  exact ⟨fun ⟨q, h1, h2⟩ => (of_decide_eq_true h2) ▸ h1, fun h => ⟨k, h, decide_eq_true rfl⟩⟩
def dIn (neg : Bool) (a b : D) : Option D := match b with
  | .lst l => if flatD a && l.all flatD then some (.bl (if neg then !inD a l else inD a l)) else none
  | .tup l => if flatD a && l.all flatD then some (.bl (if neg then !inD a l else inD a l)) else none
  | .dct ks _ => match keyD a with
    | some k => some (.bl (if neg then !memK ks k else memK ks k))
    | none => none
  | .str z => match a with
    | .str y => match y.cps.toList with
      | [c] => some (.bl (if neg then !decide (c ∈ z.cps.toList) else decide (c ∈ z.cps.toList)))
      | _ => none
    | _ => none
  | _ => none
def rInA (K : PySem.W.Frag) (neg : Bool) : R2 := fun x y H Q => rIn K neg x y H Q ∨ (∃ (c : Nat) (z : Str), x = .str ⟨#[c]⟩ ∧ y = .str z ∧ Q (.bl (if neg then !decide (c ∈ z.cps.toList) else decide (c ∈ z.cps.toList))) H) ∨ ∃ a o, y = .ref a ∧ DGet H a x o ∧ Q (.bl (if neg then !o.isSome else o.isSome)) H
section
variable {X : Cx}
theorem op_inA (hu : X.A.units + 1 < cLine) : OpR X (compareOp .In) (rInA X.K false) := by
  refine op_in_seq.or (op_in_sign.or ?_)
  intro pins s σ H x y v u Q I rx ry h
  obtain ⟨a, o, rfl, g, q⟩ := h
  obtain rfl : u = Value.ref a := ry
  exact d_in hu I g rx fun s3 I3 => ⟨.bl o.isSome, H, I3, rfl, q⟩
theorem op_notInA (hu : X.A.units + 1 < cLine) : OpR X (compareOp .NotIn) (rInA X.K true) := by
  refine op_notIn_seq.or (op_notIn_sign.or ?_)
  intro pins s σ H x y v u Q I rx ry h
  obtain ⟨a, o, rfl, g, q⟩ := h
  obtain rfl : u = Value.ref a := ry
  exact d_notIn hu I g rx fun s3 I3 => ⟨.bl (!o.isSome), H, I3, rfl, q⟩
end
theorem look_mem {α : Type} : ∀ {ks : List Key} {l : List α} {k : Key}, ks.length = l.length → ((lookK ks l k).isSome = memK ks k)
  | [], l, k, _ => by simp [lookK, memK]
  | q :: ks, [], k, h => by cases h
  | q :: ks, d :: l, k, h => by
    simp only [lookK]
    by_cases e : q = k
    · rw [if_pos e]
      simp [e, memK]
    · rw [if_neg e, look_mem (by simpa using h)]
      simp [memK, e]
theorem rd_in {K : PySem.W.Frag} {neg : Bool} : Rd2 (rInA K neg) (dIn neg) := by
  intro lk B F H s m vs ts a b d v u Q st ha hb e q
  unfold dIn at e
  split at e
  · split at e
    · rename_i hf
      rw [Bool.and_eq_true] at hf
      obtain ⟨p, ws, rfl, e1, e2, e3⟩ := st.lst hb
      obtain ⟨h1, h2⟩ := in_fz ha hf.1 e3 hf.2
      cases e
      refine .inl ⟨p, ws, rfl, .inl (SqL.of e2), flat_fz ha hf.1, h1, ?_⟩
      rw [h2]
      exact q _ fzb
    · cases e
  · split at e
    · rename_i hf
      rw [Bool.and_eq_true] at hf
      obtain ⟨p, ws, rfl, e1, e2, e3⟩ := st.tup hb
      obtain ⟨h1, h2⟩ := in_fz ha hf.1 e3 hf.2
      cases e
      refine .inl ⟨p, ws, rfl, .inr (SqT.of e2), flat_fz ha hf.1, h1, ?_⟩
      rw [h2]
      exact q _ fzb
    · cases e
  · rename_i ks l
    split at e
    · rename_i k ek
      obtain ⟨p, ws, rfl, e1, e2, ⟨e3, _⟩, e4⟩ := st.dct hb
      cases e
      refine .inr (.inr ⟨p, _, rfl, .inl ⟨_, k, e2, keyD_ok ha ek, rfl⟩, ?_⟩)
      have h1 : (valV (ks.zip ws) k).isSome = memK ks k := by
        rw [← look_mem (l := l) (k := k) (e3.trans e4.length.symm)]
        obtain ⟨p1, p2⟩ := look_fz (q := k) e4 e3
        cases z : lookK ks l k with
        | none => rw [p2 z]; rfl
        | some d => obtain ⟨v', z', _⟩ := p1 d z; rw [z']; rfl
      rw [h1]
      exact q _ fzb
    · cases e
  · split at e
    · split at e
      · rename_i z _ y _ c ec
        cases e
        rw [fz_str hb, fz_str ha]
        have ey : y = ⟨#[c]⟩ := by
          obtain ⟨ar⟩ := y
          have : ar.toList = [c] := ec
          congr 1
          apply Array.ext'
          rw [this]
        exact .inr (.inl ⟨c, z, by rw [ey], rfl, q _ fzb⟩)
      · cases e
    · cases e
  · cases e
/-- x in name: the name's slot is read where it stands -/
def tIn (neg : Bool) (a : D) (t : T) : Option D := match t with
  | .fz b => dIn neg a b
  | .ol l => dIn neg a (.lst (erL l))
  | .od ks l => dIn neg a (.dct ks (erL l))
  | _ => none
def wInS (neg : Bool) (wa : WE) (i : Nat) : WE := fun m Q => wa m fun x m1 => match look m1 i, x with
  | some t, .fz a => match tIn neg a t with
    | some d => Q (.fz d) m1
    | none => False
  | _, _ => False
open Classical in
/-- what is in a slot is frozen, for a look -/
theorem St.lookF {B F H : Hp} {s : L2.St} {m : Tau} {vs : List V} {ts : List T} {i : Nat} {t : T} (st : St lk B F H s m vs ts) (h : look m i = some t) : ∃ F' v, Same F F' ∧ s[i]? = some (some v) ∧ Fz F' t.er v ∧ St lk B F' H s (m.set i none) vs ts := by
  obtain ⟨v, ev, st1⟩ := st.take (look_some h)
  obtain ⟨F', g, st2⟩ := st1.freeze
  obtain ⟨k, st3⟩ := st2.tfz
  exact ⟨F', v, g.same, ev, k, st3⟩
section
variable {X : Cx} {a b e : Expr} {wa wb : WE} {pos p1 : Pos} {i : Nat} {x : Str}
theorem l_inS {K : PySem.W.Frag} {neg : Bool} {s : L2.St} {H : Hp} {Q : VK} (q : LE lk (wInS neg wa i) s H Q) : LE lk wa s H fun x H1 => ∃ v, s[i]? = some (some v) ∧ rInA K neg x v H1 Q := by
  obtain ⟨B, F, m, vs, ts, P, st, hw, k⟩ := q
  refine ⟨B, F, m, vs, ts, _, st, hw, fun y m1 hy u F1 H1 g1 st1 => ?_⟩
  split at hy
  · rename_i t a' e
    split at hy
    · rename_i d ed
      obtain ⟨ha, st2⟩ := st1.tfz
      obtain ⟨F2, v, sm, ev, hv, st3⟩ := st2.lookF e
      refine ⟨v, ev, ?_⟩
      have ed' : dIn neg a' t.er = some d := by
        unfold tIn at ed
        split at ed
        · exact ed
        · simp only [T.er]; exact ed
        · simp only [T.er]; exact ed
        · cases ed
      have fl : ∀ w, Fz F2 d w → Fz F1 d w := fun w hw => by
        have : ∃ bb, d = .bl bb := by
          unfold dIn at ed'
          split at ed' <;> (try split at ed') <;> (try split at ed') <;> first | cases ed'; exact ⟨_, rfl⟩ | cases ed'
        obtain ⟨bb, rfl⟩ := this
        rw [fz_bl hw]
        exact fzb
      exact rd_in lk B F2 H1 s _ vs ts a' _ d u v Q st3 (ha.mono sm) hv ed' fun w hw => k _ m1 hy w F1 H1 g1 (st2.push (fl w hw))
    · exact hy.elim
  · exact hy.elim
theorem v_in (hu : X.A.units + 1 < cLine) (ha : PE X a (LE lk wa)) (hb : PE X b (LE lk wb)) (hm : behindInMarks .In b = false := by with_unfolding_all rfl) : PE X (.Compare a [.In] [b] pos) (LE lk (w2 (oR2 (dIn false)) wa wb)) := v_cmp (op_inA hu) (s_R2 rd_in) ha hb hm
theorem v_notIn (hu : X.A.units + 1 < cLine) (ha : PE X a (LE lk wa)) (hb : PE X b (LE lk wb)) (hm : behindInMarks .NotIn b = false := by with_unfolding_all rfl) : PE X (.Compare a [.NotIn] [b] pos) (LE lk (w2 (oR2 (dIn true)) wa wb)) := v_cmp (op_notInA hu) (s_R2 rd_in) ha hb hm
theorem t_in (hu : X.A.units + 1 < cLine) (ha : PE X a (LE lk wa)) (hb : PE X b (LE lk wb)) (hm : behindInMarks .In b = false := by with_unfolding_all rfl) : PT X (.Compare a [.In] [b] pos) (LT lk (wB (w2 (oR2 (dIn false)) wa wb))) := v_tcmp (op_inA hu) (s_R2 rd_in) ha hb hm
theorem t_notIn (hu : X.A.units + 1 < cLine) (ha : PE X a (LE lk wa)) (hb : PE X b (LE lk wb)) (hm : behindInMarks .NotIn b = false := by with_unfolding_all rfl) : PT X (.Compare a [.NotIn] [b] pos) (LT lk (wB (w2 (oR2 (dIn true)) wa wb))) := v_tcmp (op_notInA hu) (s_R2 rd_in) ha hb hm
theorem v_inS (i : Nat) (hu : X.A.units + 1 < cLine) (ha : PE X a (LE lk wa)) (hn : PE X (.Name x p1) (tVar i)) (hm : behindInMarks .In (.Name x p1) = false := by with_unfolding_all rfl) : PE X (.Compare a [.In] [.Name x p1] pos) (LE lk (wInS false wa i)) := pe_mono (pe_cmpR (op_inA hu) ha hn hm) fun s H Q q => l_inS q
theorem v_notInS (i : Nat) (hu : X.A.units + 1 < cLine) (ha : PE X a (LE lk wa)) (hn : PE X (.Name x p1) (tVar i)) (hm : behindInMarks .NotIn (.Name x p1) = false := by with_unfolding_all rfl) : PE X (.Compare a [.NotIn] [.Name x p1] pos) (LE lk (wInS true wa i)) := pe_mono (pe_cmpR (op_notInA hu) ha hn hm) fun s H Q q => l_inS q
theorem t_inS (i : Nat) (hu : X.A.units + 1 < cLine) (ha : PE X a (LE lk wa)) (hn : PE X (.Name x p1) (tVar i)) (hm : behindInMarks .In (.Name x p1) = false := by with_unfolding_all rfl) : PT X (.Compare a [.In] [.Name x p1] pos) (LT lk (wB (wInS false wa i))) := pt_mono (pt_cmpR (op_inA hu) ha hn hm) fun s H Q q => l_inS (lB q)
theorem t_notInS (i : Nat) (hu : X.A.units + 1 < cLine) (ha : PE X a (LE lk wa)) (hn : PE X (.Name x p1) (tVar i)) (hm : behindInMarks .NotIn (.Name x p1) = false := by with_unfolding_all rfl) : PT X (.Compare a [.NotIn] [.Name x p1] pos) (LT lk (wB (wInS true wa i))) := pt_mono (pt_cmpR (op_notInA hu) ha hn hm) fun s H Q q => l_inS (lB q)
end
end VL
set_option Elab.async false
set_option linter.all false
set_option maxRecDepth 100000
set_option maxHeartbeats 4000000
/-! VL5: ==, +, *, //, **, slices, list, tuple, sorted, all, any, int, min, max, is None. -/
namespace VL
open PySem PySem.Spec PyProof.Rows L2

/-! ### == -/
mutual
/-- frozen data without dicts and objects, as the library's data -/
def pyD : D → Option PyData
  | .non => some .none
  | .bl b => some (.bool b)
  | .int i => some (.int i)
  | .str z => some (.str z)
  | .lst l => match pyL l with
    | some xs => some (.list xs)
    | none => none
  | .tup l => match pyL l with
    | some xs => some (.tuple xs)
    | none => none
  | _ => none
def pyL : List D → Option (List PyData)
  | [] => some []
  | d :: l => match pyD d, pyL l with
    | some x, some xs => some (x :: xs)
    | _, _ => none
end
mutual
theorem py_ok {K : PySem.W.Frag} {F H : Hp} (sf : ∀ a o, F a = some o → (∀ kvs, o ≠ .dK kvs) → H a = some o) : ∀ {d : D} {v : V} {x : PyData}, Fz F d v → pyD d = some x → Dp K H v x
  | .non, v, x, h, e => by
    rw [fz_non h]
    simp only [pyD, Option.some.injEq] at e
    subst e
    exact .non
  | .bl b, v, x, h, e => by
    rw [fz_bl h]
    simp only [pyD, Option.some.injEq] at e
    subst e
    exact .bl b
  | .int b, v, x, h, e => by
    rw [fz_int h]
    simp only [pyD, Option.some.injEq] at e
    subst e
    exact .int b
  | .str b, v, x, h, e => by
    rw [fz_str h]
    simp only [pyD, Option.some.injEq] at e
    subst e
    exact .str b
  | .lst l, v, x, h, e => by
    simp only [Fz] at h
    obtain ⟨a, ws, rfl, h2, h3⟩ := h
    simp only [pyD] at e
    split at e
    · rename_i xs exs
      cases e
      exact .lst (SqL.of (sf _ _ h2 fun kvs z => by cases z)) (pyL_ok sf h3 exs)
    · cases e
  | .tup l, v, x, h, e => by
    simp only [Fz] at h
    obtain ⟨a, ws, rfl, h2, h3⟩ := h
    simp only [pyD] at e
    split at e
    · rename_i xs exs
      cases e
      exact .tup (SqT.of (sf _ _ h2 fun kvs z => by cases z)) (pyL_ok sf h3 exs)
    · cases e
  | .dct _ _, v, x, h, e => by
    simp only [pyD] at e
    cases e
  | .ins _ _ _, v, x, h, e => by
    simp only [pyD] at e
    cases e
  | .any, v, x, h, e => by
    simp only [pyD] at e
    cases e
  | .scr _ _, v, x, h, e => by
    simp only [pyD] at e
    cases e
theorem pyL_ok {K : PySem.W.Frag} {F H : Hp} (sf : ∀ a o, F a = some o → (∀ kvs, o ≠ .dK kvs) → H a = some o) : ∀ {l : List D} {vs : List V} {xs : List PyData}, FzL F l vs → pyL l = some xs → DpAll K H vs xs
  | [], vs, xs, h, e => by
    simp only [FzL] at h
    subst h
    simp only [pyL, Option.some.injEq] at e
    subst e
    exact .nil
  | d :: l, vs, xs, h, e => by
    simp only [FzL] at h
    obtain ⟨v, vr, rfl, h1, h2⟩ := h
    simp only [pyL] at e
    split at e
    · rename_i x xs' e1 e2
      cases e
      exact .cons (py_ok sf h1 e1) (pyL_ok sf h2 e2)
    · cases e
end
theorem St.sf {B F H : Hp} {s : L2.St} {m : Tau} {vs : List V} {ts : List T} (st : St lk B F H s m vs ts) : ∀ a o, F a = some o → (∀ kvs, o ≠ .dK kvs) → H a = some o := fun a o e n => by
  rcases st.fr a o e with h | ⟨_, ob, kvs, z, _⟩
  · exact h
  · exact (n kvs z).elim
/-- a == b (neg: a != b) -/
def dEq (neg : Bool) (a b : D) : Option D := match pyD a, pyD b with
  | some x, some y => if SeqAt.shaped x && SeqAt.shaped y then some (.bl (if neg then !PyData.eqv x y else PyData.eqv x y)) else none
  | _, _ => none
theorem rd_eq {K : PySem.W.Frag} : Rd2 (rEqD K) (dEq false) := by
  intro lk B F H s m vs ts a b d v u Q st ha hb e q
  unfold dEq at e
  split at e
  · rename_i x y e1 e2
    split at e
    · rename_i hs
      rw [Bool.and_eq_true] at hs
      cases e
      exact ⟨x, y, py_ok st.sf ha e1, py_ok st.sf hb e2, hs.1, hs.2, q _ fzb⟩
    · cases e
  · cases e
theorem rd_ne {K : PySem.W.Frag} : Rd2 (rNeD K) (dEq true) := by
  intro lk B F H s m vs ts a b d v u Q st ha hb e q
  unfold dEq at e
  split at e
  · rename_i x y e1 e2
    split at e
    · rename_i hs
      rw [Bool.and_eq_true] at hs
      cases e
      exact ⟨x, y, py_ok st.sf ha e1, py_ok st.sf hb e2, hs.1, hs.2, q _ fzb⟩
    · cases e
  · cases e
section
variable {X : Cx} {a b e : Expr} {wa wb : WE} {pos p1 : Pos}
theorem v_eq (hu : X.A.units + 64 < cLine) (ha : PE X a (LE lk wa)) (hb : PE X b (LE lk wb)) : PE X (.Compare a [.Eq] [b] pos) (LE lk (w2 (oR2 (dEq false)) wa wb)) := v_cmp (op_eqD hu) (s_R2 rd_eq) ha hb
theorem v_ne (hu : X.A.units + 64 < cLine) (ha : PE X a (LE lk wa)) (hb : PE X b (LE lk wb)) : PE X (.Compare a [.NotEq] [b] pos) (LE lk (w2 (oR2 (dEq true)) wa wb)) := v_cmp (op_neD hu) (s_R2 rd_ne) ha hb
theorem t_eq (hu : X.A.units + 64 < cLine) (ha : PE X a (LE lk wa)) (hb : PE X b (LE lk wb)) : PT X (.Compare a [.Eq] [b] pos) (LT lk (wB (w2 (oR2 (dEq false)) wa wb))) := v_tcmp (op_eqD hu) (s_R2 rd_eq) ha hb
theorem t_ne (hu : X.A.units + 64 < cLine) (ha : PE X a (LE lk wa)) (hb : PE X b (LE lk wb)) : PT X (.Compare a [.NotEq] [b] pos) (LT lk (wB (w2 (oR2 (dEq true)) wa wb))) := v_tcmp (op_neD hu) (s_R2 rd_ne) ha hb
/-- is None -/
def isNon : D → Bool
  | .non => true
  | _ => false
def isAny : D → Bool
  | .any => true
  | .scr _ _ => true
  | _ => false
def dIsN (neg : Bool) (a b : D) : Option D := match b with
  | .non => match isAny a with
    | true => none
    | false => some (.bl (if neg then !isNon a else isNon a))
  | _ => none
theorem isN_fz {F : Hp} {a : D} {v : V} (h : Fz F a v) (na : isAny a = false) : decide (v = .non) = isNon a := by
  cases a with
  | non => rw [fz_non h]; rfl
  | bl b => rw [fz_bl h]; rfl
  | int b => rw [fz_int h]; rfl
  | str b => rw [fz_str h]; rfl
  | lst l => simp only [Fz] at h; obtain ⟨p, ws, rfl, _⟩ := h; rfl
  | tup l => simp only [Fz] at h; obtain ⟨p, ws, rfl, _⟩ := h; rfl
  | dct ks l => simp only [Fz] at h; obtain ⟨p, ws, rfl, _⟩ := h; rfl
  | ins C fs l => simp only [Fz] at h; obtain ⟨p, dx, ws, rfl, _⟩ := h; rfl
  | any => cases na
  | scr _ _ => cases na
theorem rd_isN : Rd2 (fun x y H Q => y = .non ∧ Q (.bl (decide (x = .non))) H) (dIsN false) := by
  intro lk B F H s m vs ts a b d v u Q st ha hb e q
  unfold dIsN at e
  split at e
  · refine ⟨fz_non hb, ?_⟩
    split at e
    · cases e
    · rename_i na
      rw [isN_fz ha na]
      cases e
      exact q _ fzb
  · cases e
theorem rd_notN : Rd2 (fun x y H Q => y = .non ∧ Q (.bl (!decide (x = .non))) H) (dIsN true) := by
  intro lk B F H s m vs ts a b d v u Q st ha hb e q
  unfold dIsN at e
  split at e
  · refine ⟨fz_non hb, ?_⟩
    split at e
    · cases e
    · rename_i na
      rw [isN_fz ha na]
      cases e
      exact q _ fzb
  · cases e
theorem v_isN (ha : PE X a (LE lk wa)) (hb : PE X b (LE lk wb)) : PE X (.Compare a [.Is] [b] pos) (LE lk (w2 (oR2 (dIsN false)) wa wb)) := v_cmp op_isN (s_R2 rd_isN) ha hb
theorem v_notN (ha : PE X a (LE lk wa)) (hb : PE X b (LE lk wb)) : PE X (.Compare a [.IsNot] [b] pos) (LE lk (w2 (oR2 (dIsN true)) wa wb)) := v_cmp op_notN (s_R2 rd_notN) ha hb
theorem t_isN (ha : PE X a (LE lk wa)) (hb : PE X b (LE lk wb)) : PT X (.Compare a [.Is] [b] pos) (LT lk (wB (w2 (oR2 (dIsN false)) wa wb))) := v_tcmp op_isN (s_R2 rd_isN) ha hb
theorem t_notN (ha : PE X a (LE lk wa)) (hb : PE X b (LE lk wb)) : PT X (.Compare a [.IsNot] [b] pos) (LT lk (wB (w2 (oR2 (dIsN true)) wa wb))) := v_tcmp op_notN (s_R2 rd_notN) ha hb
end
/-! ### ints of any size -/
/-- * -/
abbrev bits (i : Int) : Nat := Builtin.Int.intBits i
def CMulB (i j : Int) : Prop := bits i + bits j ≤ 134217728
def CDivB (_ j : Int) : Prop := 0 < j ∧ j.natAbs.log2 < 9000
def CPowB (i j : Int) : Prop := 0 ≤ j ∧ (bits i : Int) * j ≤ 2 ^ 27
section
variable {X : Cx}
theorem op_mulB : OpR X (binaryOp .Mult) (rI CMulB fun i j => .int (i * j)) := opI fun _ _ _ _ _ _ _ hc q => mul_int q (IntMulOk.of_le (Nat.le_refl _) (Nat.le_refl _) hc)
theorem op_fdivB : OpR X (binaryOp .FloorDiv) (rI CDivB fun i j => .int (i / j)) := op_fdivW
theorem op_powB : OpR X (binaryOp .Pow) (rI CPowB fun i j => .int (i ^ j.toNat)) := opI fun _ _ _ _ _ _ _ hc q => pow_int hc.1 hc.2 q
end
abbrev oMul : O2 := oIC CMulB fun i j => .int (i * j)
abbrev oDiv : O2 := oIC CDivB fun i j => .int (i / j)
abbrev oPow : O2 := oIC CPowB fun i j => .int (i ^ j.toNat)
def oNeg : O1 := fun x P => match x with
  | .fz (.int i) => P (.fz (.int (-i)))
  | _ => False
section
variable {X : Cx} {a b e : Expr} {wa wb : WE} {pos p1 : Pos}
theorem v_mul (ha : PE X a (LE lk wa)) (hb : PE X b (LE lk wb)) : PE X (.BinOp a .Mult b pos) (LE lk (w2 oMul wa wb)) := v_bin op_mulB (s_IC fun _ _ _ => fzi) ha hb
theorem v_div (ha : PE X a (LE lk wa)) (hb : PE X b (LE lk wb)) : PE X (.BinOp a .FloorDiv b pos) (LE lk (w2 oDiv wa wb)) := v_bin op_fdivB (s_IC fun _ _ _ => fzi) ha hb
theorem v_pow (ha : PE X a (LE lk wa)) (hb : PE X b (LE lk wb)) : PE X (.BinOp a .Pow b pos) (LE lk (w2 oPow wa wb)) := v_bin op_powB (s_IC fun _ _ _ => fzi) ha hb
theorem v_neg (ha : PE X a (LE lk wa)) : PE X (.UnaryOp .USub a pos) (LE lk (w1 oNeg wa)) := v_un un_neg (by
  intro lk B F H s m vs ts u x P Q st ho k
  unfold oNeg at ho
  split at ho
  · rename_i i
    obtain ⟨rfl, st1⟩ := st.tint
    exact ⟨i, rfl, k _ ho _ F H (Gr.refl B F) (st1.push fzi)⟩
  · exact ho.elim) ha
end
/-! ### + -/
/-- the items of a list in hand -/
def items (t : T) : Option (List T) := match t with
  | .ol l => some l
  | .fz (.lst l) => some (l.map T.fz)
  | _ => none
theorem RpL.empty {F H : Hp} {l : List D} {ws : List V} (h : FzL F l ws) : RpL F H (l.map T.fz) ws (fun _ => False) := RpL.fz h
/-- a list in hand is opened: its items are in hand -/
theorem St.openL {B F H : Hp} {s : L2.St} {m : Tau} {v : V} {vs : List V} {t : T} {ts : List T} {l : List T} (st : St lk B F H s m (v :: vs) (t :: ts)) (e : items t = some l) :
    ∃ a ws, v = .ref a ∧ H a = some (.lst ws) ∧ ws.length = l.length ∧ St lk B F H s m (ws ++ vs) (l ++ ts) := by
  unfold items at e
  split at e
  · rename_i l'
    cases e
    obtain ⟨f, g, h1, h2, h3, h4⟩ := st.ex
    simp only [RpL] at h2
    obtain ⟨w, vr, f1, f2, q, k1, k2, k3, rfl⟩ := h2
    cases q
    simp only [Rp] at k1
    obtain ⟨a, ws, g1, rfl, e1, e2, e3, rfl⟩ := k1
    refine ⟨a, ws, rfl, e1, e2.length.symm, ⟨f, fun b => g1 b ∨ f2 b, h1, e2.append k2 fun b p q => k3 b (.inr p) q, fun b p q => ?_, fun b p => ?_⟩, st.fr, st.bk⟩
    · rcases q with q | q
      · exact h3 b p (.inl (.inr q))
      · exact h3 b p (.inr q)
    · rcases p with p | p | p
      · exact h4 b (.inl p)
      · exact h4 b (.inr (.inl (.inr p)))
      · exact h4 b (.inr (.inr p))
  · rename_i l'
    cases e
    obtain ⟨k, st1⟩ := st.tfz
    obtain ⟨a, ws, rfl, e1, e2, e3⟩ := st1.lst k
    refine ⟨a, ws, rfl, e2, by rw [List.length_map, e3.length], ?_⟩
    obtain ⟨f, g, h1, h2, h3, h4⟩ := st1.ex
    refine ⟨⟨f, g, h1, ?_, h3, h4⟩, st1.fr, st1.bk⟩
    have := (RpL.fz (H := H) e3).append h2 fun _ z _ => z
    have ee : (fun b => False ∨ g b) = g := by funext b; simp
    rw [ee] at this
    exact this
  · cases e
def oAdd : O2 := fun x y P => match x, y with
  | .fz (.int i), .fz (.int j) => P (.fz (.int (i + j)))
  | .fz (.str a), .fz (.str b) => a.length + b.length ≤ sizeLine ∧ P (.fz (.str (a ++ b)))
  | x, y => match items x, items y with
    | some l, some k => l.length + k.length ≤ sizeLine ∧ P (.ol (l ++ k))
    | _, _ => False
def rAddA : R2 := fun x y H Q => rI0 (fun i j => .int (i + j)) x y H Q ∨ (∃ i j, x = .str i ∧ y = .str j ∧ i.length + j.length ≤ sizeLine ∧ Q (.str (i ++ j)) H) ∨ rCat x y H Q
theorem op_addA {X : Cx} : OpR X (binaryOp .Add) rAddA := op_add.or (op_add_str.or op_cat)
theorem St.swap2 {B F H : Hp} {s : L2.St} {m : Tau} {us ws vs : List V} {xs ys ts : List T} (st : St lk B F H s m (us ++ (ws ++ vs)) (xs ++ (ys ++ ts))) : St lk B F H s m ((us ++ ws) ++ vs) ((xs ++ ys) ++ ts) := by
  rw [List.append_assoc, List.append_assoc]
  exact st
theorem s_add : S2 rAddA oAdd := by
  intro lk B F H s m vs ts v u x y P Q st ho k
  unfold oAdd at ho
  split at ho
  · rename_i i j
    obtain ⟨rfl, st1⟩ := st.tint
    obtain ⟨rfl, st2⟩ := st1.tint
    exact .inl ⟨i, j, rfl, rfl, k _ ho _ F H (Gr.refl B F) (st2.push fzi)⟩
  · rename_i i j
    obtain ⟨rfl, st1⟩ := st.tstr
    obtain ⟨rfl, st2⟩ := st1.tstr
    exact .inr (.inl ⟨i, j, rfl, rfl, ho.1, k _ ho.2 _ F H (Gr.refl B F) (st2.push fzs)⟩)
  · split at ho
    · rename_i l n e1 e2
      obtain ⟨b, zs, rfl, h1, h2, st1⟩ := st.openL e2
      have st2 := St.rot st1 h2
      obtain ⟨a, ws, rfl, k1, k2, st3⟩ := st2.openL e1
      refine .inr (.inr ⟨a, b, ws, zs, rfl, rfl, k1, h1, by rw [k2, h2]; exact ho.1, fun p hp => k _ ho.2 (.ref p) F _ (Gr.refl B F) ?_⟩)
      refine St.own (us := ws ++ zs) (xs := l ++ n) (o := .lst (ws ++ zs)) (t := .ol (l ++ n)) st3.swap2 (by simp [k2, h2]) hp fun H' f e r nf => ?_
      simp only [Rp]
      exact ⟨p, _, f, rfl, e, r, nf, rfl⟩
    · exact ho.elim
theorem v_add {X : Cx} {a b : Expr} {wa wb : WE} {pos : Pos} (ha : PE X a (LE lk wa)) (hb : PE X b (LE lk wb)) : PE X (.BinOp a .Add b pos) (LE lk (w2 oAdd wa wb)) := v_bin op_addA s_add ha hb
/-! ### slices -/
abbrev WO := Tau → (Option Int → Tau → Prop) → Prop
def LO (lk : Lk) (w : WO) : TO := fun s H Q => ∃ B F m vs ts P, St lk B F H s m vs ts ∧ w m P ∧ ∀ o m', P o m' → ∀ F' H', Gr B F F' → St lk B F' H' s m' vs ts → Q o H'
def wNo : WO := fun m Q => Q none m
def wPart (we : WE) : WO := fun m Q => we m fun t m1 => match t with
  | .fz (.int i) => Q (some i) m1
  | _ => False
def cutL {α : Type} (xs : List α) (lo hi : Option Int) : List α := (xs.drop (HT.sIx xs.length 0 lo)).take (HT.sIx xs.length xs.length hi - HT.sIx xs.length 0 lo)
theorem cut_fz {F : Hp} {l : List D} {ws : List V} (h : FzL F l ws) (lo hi : Option Int) : FzL F (cutL l lo hi) (cutV ws lo hi) := by
  unfold cutL cutV
  rw [← h.length]
  exact (h.drop _).take _
def oCut (lo hi : Option Int) : O1 := fun x P => match x.er with
  | .lst l => P (.ol ((cutL l lo hi).map T.fz))
  | .str z => z.length ≤ sizeLine ∧ P (.fz (.str (cutS z lo hi)))
  | _ => False
def wCut (wa : WE) (wl wh : WO) : WE := fun m Q => wa m fun x m1 => wl m1 fun lo m2 => wh m2 fun hi m3 => oCut lo hi x fun z => Q z m3
section
variable {X : Cx} {a b e : Expr} {wa wb : WE} {wl wh : WO} {lo hi : Option Expr} {pos p1 p2 p3 : Pos}
theorem vo_none : PO X none (LO lk wNo) := ⟨fun pins s σ H Q I q => po_none.run pins s σ H Q I (by
  obtain ⟨B, F, m, vs, ts, P, st, hw, k⟩ := q
  exact k none m hw F H (Gr.refl B F) st)⟩
theorem vo_some (h : PE X e (LE lk wa)) : PO X (some e) (LO lk (wPart wa)) := ⟨fun pins s σ H Q I q => (po_some h).run pins s σ H Q I (by
  obtain ⟨B, F, m, vs, ts, P, st, hw, k⟩ := q
  refine ⟨B, F, m, vs, ts, _, st, hw, fun x m1 hx v F1 H1 g1 st1 => ?_⟩
  split at hx
  · rename_i i
    obtain ⟨rfl, st2⟩ := st1.tint
    exact ⟨i, rfl, k _ m1 hx F1 H1 g1 st2⟩
  · exact hx.elim)⟩
theorem v_cut (he : PE X e (LE lk wa)) (hl : PO X lo (LO lk wl)) (hh : PO X hi (LO lk wh)) : PE X (.Subscript e (.Slice lo hi none p2) pos) (LE lk (wCut wa wl wh)) := by
  refine pe_mono (pe_slice (sl_list.or sl_str) he hl hh) fun s H Q q => ?_
  obtain ⟨B, F, m, vs, ts, P, st, hw, k⟩ := q
  refine ⟨B, F, m, vs, ts, _, st, hw, fun x m1 hx v F1 H1 g1 st1 => ⟨B, F1, m1, v :: vs, x :: ts, _, st1, hx, fun lo m2 hlo F2 H2 g2 st2 => ⟨B, F2, m2, v :: vs, x :: ts, _, st2, hlo, fun hi m3 hhi F3 H3 g3 st3 => ?_⟩⟩⟩
  obtain ⟨F4, g4, st4⟩ := st3.freeze
  obtain ⟨hx', st5⟩ := st4.tfz
  have g : Gr B F F4 := ((g1.trans g2).trans g3).trans g4
  unfold oCut at hhi
  split at hhi
  · rename_i l el
    rw [el] at hx'
    obtain ⟨p, ws, rfl, e1, e2, e3⟩ := st5.lst hx'
    refine .inl ⟨p, ws, rfl, SqL.of e2, fun p' hp => k _ m3 hhi (.ref p') F4 _ g (st5.own0 hp fun H' e' => ?_)⟩
    simp only [Rp]
    exact ⟨p', _, fun _ => False, rfl, e', RpL.fz (cut_fz e3 lo hi), id, rfl⟩
  · rename_i z ez
    rw [ez] at hx'
    rw [fz_str hx']
    exact .inr ⟨z, rfl, hhi.1, k _ m3 hhi.2 _ F4 _ g (st5.push fzs)⟩
  · exact hhi.elim
/-- xs[::-1] -/
def dRev (a : D) : Option (List D) := match a with
  | .lst l => some l.reverse
  | _ => none
theorem v_rev {k : Nat} (he : PE X e (LE lk wa)) : PE X (.Subscript e (.Slice none none (some (.UnaryOp .USub (.Constant (.int 1) k p1) p2)) p3) pos) (LE lk (w1 (oL1 dRev) wa)) := by
  refine pe_mono (pe_revL he) fun s H Q q => ?_
  refine l1 (r := fun x H1 Q => ∃ a xs, x = V.ref a ∧ SqL X.K H1 a xs ∧ ∀ p, H1 p = none → Q (.ref p) (upd H1 p (.lst xs.reverse))) (s_L1 ?_) q
  intro lk B F H s m vs ts a l v Q st ha e q
  unfold dRev at e
  split at e
  · cases e
    obtain ⟨p, ws, rfl, e1, e2, e3⟩ := st.lst ha
    exact ⟨p, ws, rfl, SqL.of e2, fun p' hp => q _ p' e3.reverse hp⟩
  · cases e
end
end VL
set_option Elab.async false
set_option linter.all false
set_option maxRecDepth 100000
set_option maxHeartbeats 4000000
/-! VL6: built-ins: list, tuple, sorted, all, any, int, min, max, dict, d.get, list(d.items()). -/
namespace VL
open PySem PySem.Spec PyProof.Rows L2

theorem ri (r1 : V → Hp → VK → Prop) : r1 = r1 := rfl
section
variable {X : Cx} {e : Expr} {es : List Expr} {wa : WA} {pos p : Pos} {x : Str}
/-! ### list, tuple -/
def dItems (a : D) : Option (List D) := match a with
  | .lst l => some l
  | .tup l => some l
  | _ => none
def dTup (a : D) : Option D := match a with
  | .lst l => some (.tup l)
  | .tup l => some (.tup l)
  | _ => none
theorem v_list (hm : X.mg "list" = none) (ha : PA X [e] (LA lk wa)) (hg : Gl X "list" := by rfl) (he : starEach [e] X.env = (false, eval e X.env) :: starEach [] X.env := by rfl) (hpl : (backTo pos (starEach [] X.env)).any (·.1) = false := by rfl) :
    PE X (.Call (.Name "list" p) [e] [] pos) (LE lk (wA (oA1 (oL1 dItems)) wa)) := by
  refine v_callTy call_list_of (sA_of1 (s_L1 ?_)) hm (by decide +kernel) ha hg (by decide) (by decide) he hpl
  intro lk B F H s m vs ts a l v Q st ha e q
  unfold dItems at e
  split at e
  · cases e
    obtain ⟨p, ws, rfl, e1, e2, e3⟩ := st.lst ha
    exact ⟨p, ws, rfl, .inl (SqL.of e2), fun p' hp => q _ p' e3 hp⟩
  · cases e
    obtain ⟨p, ws, rfl, e1, e2, e3⟩ := st.tup ha
    exact ⟨p, ws, rfl, .inr (SqT.of e2), fun p' hp => q _ p' e3 hp⟩
  · cases e
theorem s_tup {X : Cx} : S1 (fun v H Q => ∃ p ys, [v] = [.ref p] ∧ ((SqL X.K H p ys ∧ ∀ l, H l = none → Q (.ref l) (upd H l (.tup ys))) ∨ (SqT X.K H p ys ∧ Q (.ref p) H))) (oR1 dTup) := by
  intro lk B F H s m vs ts u x P Q st ho k
  unfold oR1 at ho
  split at ho
  · rename_i d e
    obtain ⟨F1, g1, st1⟩ := st.freeze
    obtain ⟨hb, st2⟩ := st1.tfz
    unfold dTup at e
    split at e
    · rename_i l el
      cases e
      rw [el] at hb
      obtain ⟨p, ws, rfl, e1, e2, e3⟩ := st2.lst hb
      refine ⟨p, ws, rfl, .inl ⟨SqL.of e2, fun p' hp => ?_⟩⟩
      obtain ⟨F2, g2, st3⟩ := St.mk0 (o := .tup ws) (d := .tup l) st2 hp fun F' sm e' => by
        simp only [Fz]
        exact ⟨p', ws, rfl, e', e3.mono sm⟩
      exact k _ ho _ F2 _ (g1.trans g2) st3
    · rename_i l el
      cases e
      rw [el] at hb
      obtain ⟨p, ws, rfl, e1, e2, e3⟩ := st2.tup hb
      exact ⟨p, ws, rfl, .inr ⟨SqT.of e2, k _ ho _ F1 H g1 (st2.push hb)⟩⟩
    · cases e
  · exact ho.elim
theorem v_tuple (hm : X.mg "tuple" = none) (ha : PA X [e] (LA lk wa)) (hg : Gl X "tuple" := by rfl) (he : starEach [e] X.env = (false, eval e X.env) :: starEach [] X.env := by rfl) (hpl : (backTo pos (starEach [] X.env)).any (·.1) = false := by rfl) :
    PE X (.Call (.Name "tuple" p) [e] [] pos) (LE lk (wA (oA1 (oR1 dTup)) wa)) := v_callTy call_tuple_of (sA_of1 s_tup) hm (by decide +kernel) ha hg (by decide) (by decide) he hpl
/-! ### int, min, max -/
def dInt (a : D) : Option D := match a with
  | .int i => some (.int i)
  | .bl b => some (.int (if b then 1 else 0))
  | _ => none
theorem v_toInt (hm : X.mg "int" = none) (ha : PA X [e] (LA lk wa)) (hg : Gl X "int" := by rfl) (he : starEach [e] X.env = (false, eval e X.env) :: starEach [] X.env := by rfl) (hpl : (backTo pos (starEach [] X.env)).any (·.1) = false := by rfl) :
    PE X (.Call (.Name "int" p) [e] [] pos) (LE lk (wA (oA1 (oR1 dInt)) wa)) := by
  refine v_callTy call_int1 (sA_of1 (s_R1 ?_)) hm (by decide +kernel) ha hg (by decide) (by decide) he hpl
  intro lk B F H s m vs ts a d v Q st ha e q
  unfold dInt at e
  split at e
  · cases e
    rw [fz_int ha]
    exact .inl ⟨_, rfl, q _ fzi⟩
  · cases e
    rw [fz_bl ha]
    exact .inr ⟨_, rfl, q _ fzi⟩
  · cases e
theorem sA_of2 {ra : List V → Hp → VK → Prop} {o : O2} (h : S2 (fun v u H Q => ra [v, u] H Q) o) (hsw : ∀ a b P, o a b P → ∃ i j, a = .fz (.int i) ∧ b = .fz (.int j)) : SA ra (oA2 o) := by
  intro lk B F H s m vs ts us xs P Q hl st ho k
  unfold oA2 at ho
  split at ho
  · rename_i x y
    match us, hl with
    | [u, v], _ =>
      obtain ⟨i, j, rfl, rfl⟩ := hsw x y P ho
      obtain ⟨rfl, st1⟩ := St.tint st
      obtain ⟨rfl, st2⟩ := St.tint st1
      exact h lk B F H s m vs ts _ _ _ _ P Q ((st2.push fzi).push fzi) ho k
  · exact ho.elim
theorem oI_two {g : Int → Int → D} : ∀ a b P, oI g a b P → ∃ i j, a = .fz (.int i) ∧ b = .fz (.int j) := by
  intro a b P h
  unfold oI at h
  split at h
  · exact ⟨_, _, rfl, rfl⟩
  · exact h.elim
theorem v_min2 {a b : Expr} (hm : X.mg "min" = none) (hc : X.calm = true) (ha : PA X [a, b] (LA lk wa)) (hg : Gl X "min" := by rfl) (he : starEach [a, b] X.env = (false, eval a X.env) :: starEach [b] X.env := by rfl) (hpl : (backTo pos (starEach [b] X.env)).any (·.1) = false := by rfl) :
    PE X (.Call (.Name "min" p) [a, b] [] pos) (LE lk (wA (oA2 (oI fun i j => .int (if j < i then j else i))) wa)) := by
  refine v_callB (call_min2 hc) (sA_of2 ?_ oI_two) hm (by decide +kernel) ha hg (by decide) (by decide) he hpl
  intro lk B F H s m vs ts v u x y P Q st ho k
  unfold oI at ho
  split at ho
  · rename_i i j
    obtain ⟨rfl, st1⟩ := st.tint
    obtain ⟨rfl, st2⟩ := st1.tint
    exact ⟨i, j, rfl, k _ ho _ F H (Gr.refl B F) (st2.push fzi)⟩
  · exact ho.elim
theorem v_max2 {a b : Expr} (hm : X.mg "max" = none) (hc : X.calm = true) (ha : PA X [a, b] (LA lk wa)) (hg : Gl X "max" := by rfl) (he : starEach [a, b] X.env = (false, eval a X.env) :: starEach [b] X.env := by rfl) (hpl : (backTo pos (starEach [b] X.env)).any (·.1) = false := by rfl) :
    PE X (.Call (.Name "max" p) [a, b] [] pos) (LE lk (wA (oA2 (oI fun i j => .int (if j > i then j else i))) wa)) := by
  refine v_callB (call_max2 hc) (sA_of2 ?_ oI_two) hm (by decide +kernel) ha hg (by decide) (by decide) he hpl
  intro lk B F H s m vs ts v u x y P Q st ho k
  unfold oI at ho
  split at ho
  · rename_i i j
    obtain ⟨rfl, st1⟩ := st.tint
    obtain ⟨rfl, st2⟩ := st1.tint
    exact ⟨i, j, rfl, k _ ho _ F H (Gr.refl B F) (st2.push fzi)⟩
  · exact ho.elim
/-! ### all, any -/
def blsOf : List D → Option (List Bool)
  | [] => some []
  | .bl b :: l => match blsOf l with
    | some bs => some (b :: bs)
    | none => none
  | _ :: _ => none
theorem bls_fz {F : Hp} : ∀ {l : List D} {ws : List V} {bs : List Bool}, FzL F l ws → blsOf l = some bs → ws = bs.map V.bl
  | [], ws, bs, h, e => by
    simp only [FzL] at h
    cases e
    exact h
  | d :: l, ws, bs, h, e => by
    simp only [FzL] at h
    obtain ⟨w, wr, rfl, h1, h2⟩ := h
    unfold blsOf at e
    split at e <;> (try cases e)
    · rename_i q
      cases q
    · rename_i b l' q
      injection q with q1 q2
      subst q1 q2
      split at e
      · rename_i bs' e'
        cases e
        rw [fz_bl h1, bls_fz h2 e']
        rfl
      · cases e
def dAll (a : D) : Option D := match a with
  | .lst l => match blsOf l with
    | some bs => some (.bl (bs.all id))
    | none => none
  | _ => none
def dAny (a : D) : Option D := match a with
  | .lst l => match blsOf l with
    | some bs => some (.bl (bs.any id))
    | none => none
  | _ => none
theorem v_all (hm : X.mg "all" = none) (hc : X.calm = true) (ha : PA X [e] (LA lk wa)) (hg : Gl X "all" := by rfl) (he : starEach [e] X.env = (false, eval e X.env) :: starEach [] X.env := by rfl) (hpl : (backTo pos (starEach [] X.env)).any (·.1) = false := by rfl) :
    PE X (.Call (.Name "all" p) [e] [] pos) (LE lk (wA (oA1 (oR1 dAll)) wa)) := by
  refine v_callB (cr_all hc) (sA_of1 (s_R1 ?_)) hm (by decide +kernel) ha hg (by decide) (by decide) he hpl
  intro lk B F H s m vs ts a d v Q st ha e q
  unfold dAll at e
  split at e
  · split at e
    · rename_i bs eb
      cases e
      obtain ⟨p, ws, rfl, e1, e2, e3⟩ := st.lst ha
      exact ⟨p, bs, rfl, by rw [← bls_fz e3 eb]; exact SqL.of e2, q _ fzb⟩
    · cases e
  · cases e
theorem v_any (hm : X.mg "any" = none) (hc : X.calm = true) (ha : PA X [e] (LA lk wa)) (hg : Gl X "any" := by rfl) (he : starEach [e] X.env = (false, eval e X.env) :: starEach [] X.env := by rfl) (hpl : (backTo pos (starEach [] X.env)).any (·.1) = false := by rfl) :
    PE X (.Call (.Name "any" p) [e] [] pos) (LE lk (wA (oA1 (oR1 dAny)) wa)) := by
  refine v_callB (cr_any hc) (sA_of1 (s_R1 ?_)) hm (by decide +kernel) ha hg (by decide) (by decide) he hpl
  intro lk B F H s m vs ts a d v Q st ha e q
  unfold dAny at e
  split at e
  · split at e
    · rename_i bs eb
      cases e
      obtain ⟨p, ws, rfl, e1, e2, e3⟩ := st.lst ha
      exact ⟨p, bs, rfl, by rw [← bls_fz e3 eb]; exact SqL.of e2, q _ fzb⟩
    · cases e
  · cases e
end
/-! ### sorted: texts (below 64), ints, a dict's keys -/
def leS (a b : Str) : Bool := !decide (b.cps.toList < a.cps.toList)
def sS (l : List Str) : List Str := l.mergeSort leS
def sI (l : List Int) : List Int := l.mergeSort fun a b => decide (a ≤ b)
theorem leS_le {a b : Str} : leS a b = true ↔ a.cps.toList ≤ b.cps.toList := by
  unfold leS
  rw [Bool.not_eq_true', decide_eq_false_iff_not]
  exact Iff.rfl
theorem leS_trans (a b c : Str) (h : leS a b = true) (k : leS b c = true) : leS a c = true := by
  rw [leS_le] at *
  exact List.le_trans h k
theorem leS_total (a b : Str) : (leS a b || leS b a) = true := by
  rw [Bool.or_eq_true, leS_le, leS_le]
  exact List.le_total _ _
theorem str_ext {a b : Str} (h : a.cps.toList = b.cps.toList) : a = b := by
  obtain ⟨x⟩ := a
  obtain ⟨y⟩ := b
  congr 1
  exact Array.ext' h
theorem leS_anti {a b : Str} (h : leS a b = true) (k : leS b a = true) : a = b := by
  rw [leS_le] at *
  exact str_ext (List.le_antisymm h k)
theorem rising_pw : ∀ (l : List Str) (p : Str), risingS p l = true → (∀ x ∈ l, leS p x = true) ∧ l.Pairwise (fun a b => leS a b = true)
  | [], p, _ => ⟨fun x h => (by cases h), List.Pairwise.nil⟩
  | x :: l, p, h => by
    unfold risingS at h
    rw [Bool.and_eq_true, ltCps_eq] at h
    obtain ⟨h1, h2⟩ := h
    obtain ⟨k1, k2⟩ := rising_pw l x h2
    have h1' : leS p x = true := h1
    refine ⟨fun y hy => ?_, List.Pairwise.cons k1 k2⟩
    rcases List.mem_cons.mp hy with rfl | hy
    · exact h1'
    · exact leS_trans _ _ _ h1' (k1 y hy)
theorem sorted_sS {xs ys : List Str} (hp : ys.Perm xs) (h : sortedS ys = true) : ys = sS xs := by
  have pw : ys.Pairwise (fun a b => leS a b = true) := by
    cases ys with
    | nil => exact List.Pairwise.nil
    | cons x l =>
      obtain ⟨k1, k2⟩ := rising_pw l x h
      exact List.Pairwise.cons k1 k2
  exact List.Perm.eq_of_pairwise (le := fun a b => leS a b = true) (fun a b _ _ h k => leS_anti h k) pw (List.pairwise_mergeSort leS_trans leS_total xs) (hp.trans (List.mergeSort_perm xs leS).symm)
theorem sorted_sI {xs ys : List Int} (hp : ys.Perm xs) (h : ys.Pairwise (· ≤ ·)) : ys = sI xs := by
  refine List.Perm.eq_of_pairwise (le := fun a b => decide (a ≤ b) = true) (fun a b _ _ h k => Int.le_antisymm (of_decide_eq_true h) (of_decide_eq_true k)) (h.imp fun z => decide_eq_true z)
    (List.pairwise_mergeSort (le := fun (a b : Int) => decide (a ≤ b)) (fun a b c h k => decide_eq_true (Int.le_trans (of_decide_eq_true h) (of_decide_eq_true k))) (fun a b => ?_) xs) (hp.trans (List.mergeSort_perm xs _).symm)
  rw [Bool.or_eq_true]
  rcases Int.le_total a b with h | h
  · exact .inl (decide_eq_true h)
  · exact .inr (decide_eq_true h)
def strsOf : List D → Option (List Str)
  | [] => some []
  | .str b :: l => match strsOf l with
    | some bs => some (b :: bs)
    | none => none
  | _ :: _ => none
def intsOf : List D → Option (List Int)
  | [] => some []
  | .int b :: l => match intsOf l with
    | some bs => some (b :: bs)
    | none => none
  | _ :: _ => none
def kstrs : List Key → Option (List Str)
  | [] => some []
  | .inr b :: l => match kstrs l with
    | some bs => some (b :: bs)
    | none => none
  | _ :: _ => none
def kints : List Key → Option (List Int)
  | [] => some []
  | .inl b :: l => match kints l with
    | some bs => some (b :: bs)
    | none => none
  | _ :: _ => none
theorem strs_fz {F : Hp} : ∀ {l : List D} {ws : List V} {bs : List Str}, FzL F l ws → strsOf l = some bs → ws = bs.map V.str
  | [], ws, bs, h, e => by
    simp only [FzL] at h
    cases e
    exact h
  | d :: l, ws, bs, h, e => by
    simp only [FzL] at h
    obtain ⟨w, wr, rfl, h1, h2⟩ := h
    unfold strsOf at e
    split at e <;> (try cases e)
    · rename_i q
      cases q
    · rename_i b l' q
      injection q with q1 q2
      subst q1 q2
      split at e
      · rename_i bs' e'
        cases e
        rw [fz_str h1, strs_fz h2 e']
        rfl
      · cases e
theorem ints_fz {F : Hp} : ∀ {l : List D} {ws : List V} {bs : List Int}, FzL F l ws → intsOf l = some bs → ws = bs.map V.int
  | [], ws, bs, h, e => by
    simp only [FzL] at h
    cases e
    exact h
  | d :: l, ws, bs, h, e => by
    simp only [FzL] at h
    obtain ⟨w, wr, rfl, h1, h2⟩ := h
    unfold intsOf at e
    split at e <;> (try cases e)
    · rename_i q
      cases q
    · rename_i b l' q
      injection q with q1 q2
      subst q1 q2
      split at e
      · rename_i bs' e'
        cases e
        rw [fz_int h1, ints_fz h2 e']
        rfl
      · cases e
theorem kstrs_ok : ∀ {ks : List Key} {bs : List Str}, kstrs ks = some bs → ks = bs.map Sum.inr
  | [], bs, e => by cases e; rfl
  | k :: ks, bs, e => by
    unfold kstrs at e
    split at e <;> (try cases e)
    · rename_i q
      cases q
    · rename_i b l' q
      injection q with q1 q2
      subst q1 q2
      split at e
      · rename_i bs' e'
        cases e
        rw [kstrs_ok e']
        rfl
      · cases e
theorem kints_ok : ∀ {ks : List Key} {bs : List Int}, kints ks = some bs → ks = bs.map Sum.inl
  | [], bs, e => by cases e; rfl
  | k :: ks, bs, e => by
    unfold kints at e
    split at e <;> (try cases e)
    · rename_i q
      cases q
    · rename_i b l' q
      injection q with q1 q2
      subst q1 q2
      split at e
      · rename_i bs' e'
        cases e
        rw [kints_ok e']
        rfl
      · cases e
theorem fz_strs {F : Hp} : ∀ bs : List Str, FzL F (bs.map D.str) (bs.map V.str)
  | [] => by simp only [List.map_nil, FzL]
  | b :: bs => by
    simp only [List.map_cons, FzL]
    exact ⟨_, _, rfl, fzs, fz_strs bs⟩
theorem fz_ints {F : Hp} : ∀ bs : List Int, FzL F (bs.map D.int) (bs.map V.int)
  | [] => by simp only [List.map_nil, FzL]
  | b :: bs => by
    simp only [List.map_cons, FzL]
    exact ⟨_, _, rfl, fzi, fz_ints bs⟩
/-- sorted(x) -/
def dSort (a : D) : Option (List D) := match a with
  | .lst l => match strsOf l with
    | some bs => if bs.length < 64 then some ((sS bs).map D.str) else none
    | none => match intsOf l with
      | some bs => some ((sI bs).map D.int)
      | none => none
  | .dct ks _ => match kstrs ks with
    | some bs => if bs.length < 64 then some ((sS bs).map D.str) else none
    | none => match kints ks with
      | some bs => if bs.length < 64 then some ((sI bs).map D.int) else none
      | none => none
  | _ => none
def rSortA (K : PySem.W.Frag) : List V → Hp → VK → Prop := fun xs H Q => rSortedS K xs H Q ∨ rSortedI K xs H Q ∨ (∃ (a : Addr) (kvs : List (Key × V)) (ks : List Str), xs = [.ref a] ∧ Rd H a (.dK kvs) ∧ kvs.map (·.1) = ks.map Sum.inr ∧ ks.length < 64 ∧
    ∀ ys p, ys.Perm ks → sortedS ys = true → H p = none → Q (.ref p) (upd H p (.lst (ys.map V.str)))) ∨ (∃ (a : Addr) (kvs : List (Key × V)) (ks : List Int), xs = [.ref a] ∧ Rd H a (.dK kvs) ∧ kvs.map (·.1) = ks.map Sum.inl ∧ ks.length < 64 ∧
    ∀ (ys : List Int) (p : Addr), ys.Perm ks → ys.Pairwise (· ≤ ·) → H p = none → Q (.ref p) (upd H p (.lst (ys.map V.int))))
theorem call_sortA {X : Cx} (hc : X.calm = true) : CallR X (.builtin "sorted") (rSortA X.K) := cr_sortedS.or (cr_sortedI.or ((call_sortedD hc).or (call_sortedDI hc)))
theorem map_zip1 : ∀ {ks : List Key} {ws : List V}, ks.length = ws.length → (ks.zip ws).map (·.1) = ks
  | [], ws, h => by simp
  | k :: ks, [], h => by cases h
  | k :: ks, w :: ws, h => by simp [map_zip1 (ks := ks) (ws := ws) (by simpa using h)]
theorem rd_sort {K : PySem.W.Frag} : RdL1 (fun v H Q => rSortA K [v] H Q) dSort := by
  intro lk B F H s m vs ts a l v Q st ha e q
  unfold dSort at e
  split at e
  · obtain ⟨p, ws, rfl, e1, e2, e3⟩ := st.lst ha
    split at e
    · rename_i bs eb
      split at e
      · rename_i h64
        cases e
        refine .inl ⟨p, bs, rfl, by rw [← strs_fz e3 eb]; exact SqL.of e2, h64, fun ys p' hp hs hn => ?_⟩
        rw [sorted_sS hp hs]
        exact q _ p' (fz_strs _) hn
      · cases e
    · split at e
      · rename_i bs eb
        cases e
        refine .inr (.inl ⟨p, bs, rfl, by rw [← ints_fz e3 eb]; exact SqL.of e2, fun ys p' hp hs hn => ?_⟩)
        rw [sorted_sI hp hs]
        exact q _ p' (fz_ints _) hn
      · cases e
  · rename_i ks l'
    obtain ⟨p, ws, rfl, e1, e2, ⟨e3, _⟩, e4⟩ := st.dct ha
    split at e
    · rename_i bs eb
      split at e
      · rename_i h64
        cases e
        refine .inr (.inr (.inl ⟨p, _, bs, rfl, e2, by rw [map_zip1 e3, kstrs_ok eb], h64, fun ys p' hp hs hn => ?_⟩))
        rw [sorted_sS hp hs]
        exact q _ p' (fz_strs _) hn
      · cases e
    · split at e
      · rename_i bs eb
        split at e
        · rename_i h64
          cases e
          refine .inr (.inr (.inr ⟨p, _, bs, rfl, e2, by rw [map_zip1 e3, kints_ok eb], h64, fun ys p' hp hs hn => ?_⟩))
          rw [sorted_sI hp hs]
          exact q _ p' (fz_ints _) hn
        · cases e
      · cases e
  · cases e
section
variable {X : Cx} {e : Expr} {es : List Expr} {wa : WA} {pos p : Pos} {x : Str}
theorem v_sorted (hm : X.mg "sorted" = none) (hc : X.calm = true) (ha : PA X [e] (LA lk wa)) (hg : Gl X "sorted" := by rfl) (he : starEach [e] X.env = (false, eval e X.env) :: starEach [] X.env := by rfl) (hpl : (backTo pos (starEach [] X.env)).any (·.1) = false := by rfl) :
    PE X (.Call (.Name "sorted" p) [e] [] pos) (LE lk (wA (oA1 (oL1 dSort)) wa)) := v_callB (call_sortA hc) (sA_of1 (s_L1 rd_sort)) hm (by decide +kernel) ha hg (by decide) (by decide) he hpl
end
/-! ### d.get(k) -/
def wGet (wa wb : WE) : WE := fun m Q => wa m fun x m1 => match x with
  | .fz (.dct ks l) => wb m1 fun y m2 => match y with
    | .fz b => match keyD b with
      | some k => Q (.fz ((lookK ks l k).getD .non)) m2
      | none => False
    | _ => False
  | _ => False
section
variable {X : Cx} {o e : Expr} {wa wb : WE} {apos cpos : Pos}
theorem v_get (hu : X.A.units + 1 < cLine) (ho : PE X o (LE lk wa)) (he : PE X e (LE lk wb)) (m : M1 X o "get" apos e cpos) : PE X (.Call (.Attribute o "get" apos) [e] [] cpos) (LE lk (wGet wa wb)) := by
  refine pe_mono (pe_dget1 hu ho he m) fun s H Q q => ?_
  obtain ⟨B, F, m, vs, ts, P, st, hw, k⟩ := q
  refine ⟨B, F, m, vs, ts, _, st, hw, fun x m1 hx v F1 H1 g1 st1 => ?_⟩
  split at hx
  · rename_i ks l
    obtain ⟨hd, st1'⟩ := st1.tfz
    obtain ⟨p, ws, rfl, e1, e2, e3, e4⟩ := st1'.dct hd
    refine ⟨p, rfl, .inl ⟨_, e2⟩, B, F1, m1, _, _, _, st1, hx, fun y m2 hy u F2 H2 g2 st2 => ?_⟩
    split at hy
    · rename_i b
      split at hy
      · rename_i kk ek
        obtain ⟨hb, st3⟩ := st2.tfz
        obtain ⟨hd', st4⟩ := st3.tfz
        obtain ⟨p', ws', q, e1', e2', ⟨e3', _⟩, e4'⟩ := st4.dct hd'
        cases q
        obtain ⟨r1, r2⟩ := look_fz (q := kk) e4' e3'
        cases z : lookK ks l kk with
        | none =>
          rw [z] at hy
          exact ⟨none, .inl ⟨_, kk, e2', keyD_ok hb ek, (r2 z).symm⟩, k _ m2 hy _ F2 H2 (g1.trans g2) (st4.push fzn)⟩
        | some d =>
          rw [z] at hy
          obtain ⟨w, h1, h2⟩ := r1 d z
          exact ⟨some w, .inl ⟨_, kk, e2', keyD_ok hb ek, h1.symm⟩, k _ m2 hy _ F2 H2 (g1.trans g2) (st4.push h2)⟩
      · exact hy.elim
    · exact hy.elim
  · exact hx.elim
end
/-! ### pairs, dict(pairs), list(d.items()) -/
def kD : Key → D
  | .inl i => .int i
  | .inr z => .str z
theorem fz_kD {F : Hp} : ∀ k : Key, Fz F (kD k) (kV k)
  | .inl i => fzi
  | .inr z => fzs
/-- in its place, or at the end -/
def putL {α : Type} (ks : List Key) (l : List α) (k : Key) (a : α) : List Key × List α := if memK ks k then (ks, l.set (ks.findIdx fun q => decide (q = k)) a) else (ks ++ [k], l ++ [a])
theorem putK_any {kvs : List (Key × V)} {k : Key} {v : V} (h : (kvs.any fun kv => decide (kv.1 = k)) = false) : putK kvs k v = kvs ++ [(k, v)] := by
  unfold putK
  rw [h]
  rfl
theorem zip_any : ∀ {ks : List Key} {vs : List V} {k : Key}, ks.length = vs.length → ((ks.zip vs).any fun kv => decide (kv.1 = k)) = memK ks k
  | [], vs, k, h => by simp [memK]
  | q :: ks, [], k, h => by cases h
  | q :: ks, v :: vs, k, h => by
    have := zip_any (ks := ks) (vs := vs) (k := k) (by simpa using h)
    unfold memK at this ⊢
    simp only [List.zip_cons_cons, List.any_cons, this]
theorem map_put : ∀ {ks : List Key} {vs : List V} {k : Key} {v : V}, ks.length = vs.length → ks.Nodup → k ∈ ks → (ks.zip vs).map (fun kv => if kv.1 = k then (kv.1, v) else kv) = ks.zip (vs.set (ks.findIdx fun q => decide (q = k)) v)
  | [], vs, k, v, h, n, hk => by cases hk
  | q :: ks, [], k, v, h, n, hk => by cases h
  | q :: ks, w :: vs, k, v, h, n, hk => by
    obtain ⟨n1, n2⟩ := List.nodup_cons.mp n
    by_cases e : q = k
    · subst e
      have e1 : (ks.zip vs).map (fun kv => if kv.1 = q then (kv.1, v) else kv) = ks.zip vs := by
        have : ∀ kv ∈ ks.zip vs, (if kv.1 = q then (kv.1, v) else kv) = kv := fun kv hkv => by
          rw [if_neg]
          intro z
          have := (List.of_mem_zip hkv).1
          rw [z] at this
          exact n1 this
        rw [List.map_congr_left this, List.map_id']
      simp only [List.zip_cons_cons, List.map_cons, e1, if_pos, List.findIdx_cons, decide_true, cond_true, List.set_cons_zero]
    · have hk' : k ∈ ks := by
        rcases List.mem_cons.mp hk with z | z
        · exact (e z.symm).elim
        · exact z
      have ih := map_put (ks := ks) (vs := vs) (v := v) (by simpa using h) n2 hk'
      have de : decide (q = k) = false := decide_eq_false e
      simp only [List.zip_cons_cons, List.map_cons, if_neg e, ih, List.findIdx_cons, de, cond_false, List.set_cons_succ]
theorem putK_zip {ks : List Key} {vs : List V} {k : Key} {v : V} (hl : ks.length = vs.length) (hn : ks.Nodup) : putK (ks.zip vs) k v = (putL ks vs k v).1.zip (putL ks vs k v).2 := by
  unfold putL
  by_cases h : memK ks k = true
  · rw [if_pos h]
    unfold putK
    rw [zip_any hl, if_pos h]
    exact map_put hl hn (memK_iff.mp h)
  · rw [if_neg h]
    rw [putK_any (by rw [zip_any hl]; exact Bool.not_eq_true _ ▸ h)]
    rw [List.zip_append hl]
    rfl
theorem putL_len {α : Type} {ks : List Key} {vs : List α} {k : Key} {v : α} (hl : ks.length = vs.length) : (putL ks vs k v).1.length = (putL ks vs k v).2.length := by
  unfold putL
  split <;> simp [hl]
theorem putL_nd {α : Type} {ks : List Key} {vs : List α} {k : Key} {v : α} (hn : ks.Nodup) : (putL ks vs k v).1.Nodup := by
  unfold putL
  split
  · exact hn
  · rename_i h
    rw [List.nodup_append]
    refine ⟨hn, by simp, fun a ha b hb => ?_⟩
    have := List.mem_singleton.mp hb
    subst this
    intro z
    subst z
    exact h (memK_iff.mpr ha)
theorem putL_ks {α β : Type} {ks : List Key} {vs : List α} {ws : List β} {k : Key} {v : α} {w : β} : (putL ks vs k v).1 = (putL ks ws k w).1 := by
  unfold putL
  split <;> rfl
theorem FzL.set {F : Hp} : ∀ {l : List D} {ws : List V} (i : Nat) {d : D} {w : V}, FzL F l ws → Fz F d w → FzL F (l.set i d) (ws.set i w)
  | [], ws, i, d, w, h, k => by
    simp only [FzL] at h
    subst h
    simp [FzL]
  | c :: l, ws, 0, d, w, h, k => by
    simp only [FzL] at h
    obtain ⟨v, vr, rfl, h1, h2⟩ := h
    simp only [List.set_cons_zero, FzL]
    exact ⟨w, vr, rfl, k, h2⟩
  | c :: l, ws, i + 1, d, w, h, k => by
    simp only [FzL] at h
    obtain ⟨v, vr, rfl, h1, h2⟩ := h
    simp only [List.set_cons_succ, FzL]
    exact ⟨v, _, rfl, h1, h2.set i k⟩
theorem putL_fz {F : Hp} {ks : List Key} {l : List D} {ws : List V} {k : Key} {d : D} {w : V} (h : FzL F l ws) (hk : Fz F d w) : FzL F (putL ks l k d).2 (putL ks ws k w).2 := by
  unfold putL
  split
  · exact h.set _ hk
  · exact h.append (by simp only [FzL]; exact ⟨w, [], rfl, hk, rfl⟩)
/-- dict(pairs) -/
def mrg : List (Key × D) → List Key × List D → List Key × List D
  | [], acc => acc
  | (k, d) :: r, acc => mrg r (putL acc.1 acc.2 k d)
def pairsOf : List D → Option (List (Key × D))
  | [] => some []
  | .tup [a, d] :: l => match keyD a, pairsOf l with
    | some k, some r => some ((k, d) :: r)
    | _, _ => none
  | _ :: _ => none
theorem mrg_ok {F : Hp} : ∀ {ps : List (Key × D)} {kvs : List (Key × V)} {ks : List Key} {l : List D} {ws : List V}, Paired (fun (p : Key × D) (q : Key × V) => p.1 = q.1 ∧ Fz F p.2 q.2) ps kvs → ks.length = ws.length → ks.Nodup → FzL F l ws →
    ∃ ws', mergeK (ks.zip ws) kvs = (mrg ps (ks, l)).1.zip ws' ∧ (mrg ps (ks, l)).1.length = ws'.length ∧ (mrg ps (ks, l)).1.Nodup ∧ FzL F (mrg ps (ks, l)).2 ws'
  | [], kvs, ks, l, ws, h, h1, h2, h3 => by
    cases h
    exact ⟨ws, rfl, h1, h2, h3⟩
  | (k, d) :: ps, kvs, ks, l, ws, h, h1, h2, h3 => by
    cases h with
    | @cons _ q _ qs r t =>
      obtain ⟨k', v⟩ := q
      obtain ⟨rfl, r⟩ := r
      have ih := mrg_ok (ks := (putL ks l k d).1) (l := (putL ks l k d).2) (ws := (putL ks ws k v).2) t (by rw [putL_ks (w := v) (ws := ws)]; exact putL_len h1) (putL_nd h2) (putL_fz h3 r)
      obtain ⟨ws', i1, i2, i3, i4⟩ := ih
      refine ⟨ws', ?_, i2, i3, i4⟩
      show mergeK (putK (ks.zip ws) k v) qs = _
      rw [putK_zip h1 h2, ← putL_ks (v := d) (vs := l)]
      exact i1
theorem pairs_ok {K : PySem.W.Frag} {F H : Hp} (sf : ∀ a o, F a = some o → (∀ kvs, o ≠ .dK kvs) → H a = some o) : ∀ {l : List D} {ws : List V} {ps : List (Key × D)}, FzL F l ws → pairsOf l = some ps →
    ∃ (as : List Addr) (kvs : List (Key × V)), ws = as.map V.ref ∧ Paired (fun (p : Key × D) (q : Key × V) => p.1 = q.1 ∧ Fz F p.2 q.2) ps kvs ∧ Paired (fun p (kv : Key × V) => SqT K H p [kV kv.1, kv.2]) as kvs
  | [], ws, ps, h, e => by
    simp only [FzL] at h
    cases e
    exact ⟨[], [], h, .nil, .nil⟩
  | d :: l, ws, ps, h, e => by
    simp only [FzL] at h
    obtain ⟨w, wr, rfl, h1, h2⟩ := h
    unfold pairsOf at e
    split at e <;> (try cases e)
    · rename_i q
      cases q
    · rename_i a d' l' q
      injection q with q1 q2
      subst q1 q2
      split at e
      · rename_i k r ek er
        cases e
        obtain ⟨as, kvs, i1, i2, i3⟩ := pairs_ok sf h2 er
        simp only [Fz] at h1
        obtain ⟨p, us, rfl, e1, e2⟩ := h1
        simp only [FzL] at e2
        obtain ⟨u1, r1, rfl, f1, u2, r2, rfl, f2, rfl⟩ := e2
        rw [keyD_ok f1 ek] at e1
        exact ⟨p :: as, (k, u2) :: kvs, by rw [i1]; rfl, .cons ⟨rfl, f2⟩ i2, .cons (SqT.of (sf _ _ e1 fun kvs z => by cases z)) i3⟩
      · cases e
def oDict : O1 := fun x P => match x.er with
  | .lst l => match pairsOf l with
    | some ps => P (.od (mrg ps ([], [])).1 ((mrg ps ([], [])).2.map T.fz))
    | none => False
  | _ => False
section
variable {X : Cx} {e : Expr} {es : List Expr} {wa : WA} {we : WE} {pos p apos cpos : Pos} {x : Str}
theorem v_dict (hm : X.mg "dict" = none) (hc : X.calm = true) (ha : PA X [e] (LA lk wa)) (hg : Gl X "dict" := by rfl) (he : starEach [e] X.env = (false, eval e X.env) :: starEach [] X.env := by rfl) (hpl : (backTo pos (starEach [] X.env)).any (·.1) = false := by rfl) :
    PE X (.Call (.Name "dict" p) [e] [] pos) (LE lk (wA (oA1 oDict) wa)) := by
  refine v_callTy (call_dictP hc) (sA_of1 ?_) hm (by decide +kernel) ha hg (by decide) (by decide) he hpl
  intro lk B F H s m vs ts u x P Q st ho k
  unfold oDict at ho
  split at ho
  · rename_i l el
    split at ho
    · rename_i ps eps
      obtain ⟨F1, g1, st1⟩ := st.freeze
      obtain ⟨hb, st2⟩ := st1.tfz
      rw [el] at hb
      obtain ⟨p, ws, rfl, e1, e2, e3⟩ := st2.lst hb
      obtain ⟨as, kvs, rfl, i2, i3⟩ := pairs_ok (K := X.K) st2.sf e3 eps
      refine ⟨p, as, kvs, rfl, SqL.of e2, i3, fun p' hp => k _ ho (.ref p') F1 _ g1 (st2.own0 hp fun H' e' => ?_)⟩
      obtain ⟨ws', j1, j2, j3, j4⟩ := mrg_ok (ks := []) (l := []) (ws := []) i2 rfl List.nodup_nil (by simp only [FzL])
      have j1' : mergeK [] kvs = (mrg ps ([], [])).1.zip ws' := j1
      simp only [Rp]
      exact ⟨p', ws', fun _ => False, rfl, by rw [← j1']; exact e', ⟨j2, j3⟩, RpL.fz j4, id, rfl⟩
    · exact ho.elim
  · exact ho.elim
/-- new objects, one of them owned -/
theorem St.big {lk : Lk} {B F H F' H' : Hp} {s : L2.St} {m : Tau} {vs : List V} {ts : List T} {p : Addr} {t : T} (st : St lk B F H s m vs ts) (sm : Same H H') (hp : H p = none) (eF : Same F F') (nw : ∀ a o, F' a = some o → F a = some o ∨ (H a = none ∧ a ≠ p ∧ H' a = some o))
    (mk : Rp F' H' t (.ref p) (fun b => b = p ∨ False)) : Gr B F F' ∧ St lk B F' H' s m (.ref p :: vs) (t :: ts) := by
  have g : Gr B F F' := ⟨eF, fun a o e => by
    rcases nw a o e with h | ⟨h, _, _⟩
    · exact .inl h
    · exact .inr (st.bk.none h)⟩
  have st1 : St lk B F' H' s m vs ts := st.grow sm eF (fun a o e => by
    rcases nw a o e with h | ⟨_, _, h⟩
    · exact (st.fr.same sm) a o h
    · exact .inl h) fun a o e => by
    rcases nw a o e with h | ⟨h, _, _⟩
    · exact .inl h
    · exact .inr h
  refine ⟨g, ?_⟩
  obtain ⟨f0, g0, q1, q2, q3, q4⟩ := st.ex
  have d1 : ¬ f0 p := fun z => by
    obtain ⟨o, e⟩ := q1.dom p z
    rw [hp] at e; cases e
  have d2 : ¬ g0 p := fun z => by
    obtain ⟨o, e⟩ := q2.dom p z
    rw [hp] at e; cases e
  have fd : ∀ a, f0 a → H' a = H a := fun a p => by
    obtain ⟨o, q⟩ := q1.dom a p
    rw [q, sm a o q]
  have gd : ∀ a, g0 a → H' a = H a := fun a p => by
    obtain ⟨o, q⟩ := q2.dom a p
    rw [q, sm a o q]
  refine ⟨⟨f0, fun b => (b = p ∨ False) ∨ g0 b, q1.frame eF fd, ?_, fun a z q => ?_, fun a z => ?_⟩, st1.fr, st1.bk⟩
  · rw [RpL]
    exact ⟨.ref p, vs, _, g0, rfl, mk, q2.frame eF gd, fun a z q => by
      rcases z with rfl | z
      · exact d2 q
      · exact z, rfl⟩
  · rcases q with (rfl | q) | q
    · exact d1 z
    · exact q
    · exact q3 a z q
  · have key : ∀ a, F a = none → (∃ o, H a = some o) → F' a = none := fun a e ⟨o, e2⟩ => by
      cases q : F' a with
      | none => rfl
      | some o' =>
        rcases nw a o' q with h | ⟨h, _, _⟩
        · rw [e] at h; cases h
        · rw [e2] at h; cases h
    rcases z with z | (rfl | z) | z
    · exact ⟨key a (q4 a (.inl z)).1 (q1.dom a z), (q4 a (.inl z)).2⟩
    · refine ⟨?_, st.bk.none hp⟩
      cases q : F' a with
      | none => rfl
      | some o' =>
        rcases nw a o' q with h | ⟨_, h, _⟩
        · rw [st.fr.none hp] at h; cases h
        · exact (h rfl).elim
    · exact z.elim
    · exact ⟨key a (q4 a (.inr z)).1 (q2.dom a z), (q4 a (.inr z)).2⟩
/-- list(d.items()), d not walked just then -/
def pairD (ks : List Key) (l : List D) : List D := (ks.zip l).map fun q => .tup [kD q.1, q.2]
def dListItems (a : D) : Option (List D) := match a with
  | .dct ks l => some (pairD ks l)
  | _ => none
theorem items_fz {F F' H' : Hp} (sm : Same F F') : ∀ {ks : List Key} {l : List D} {ws : List V} {as : List Addr}, FzL F l ws → ks.length = ws.length → Paired (fun (t : Addr) (q : Key × V) => H' t = some (.tup [kV q.1, q.2])) as (ks.zip ws) → (∀ a ∈ as, F' a = H' a) → FzL F' (pairD ks l) (as.map V.ref)
  | [], l, ws, as, h, hl, r, k => by
    cases r
    simp [pairD, FzL]
  | k0 :: ks, [], ws, as, h, hl, r, k => by
    simp only [FzL] at h
    subst h
    cases hl
  | k0 :: ks, d :: l, ws, as, h, hl, r, k => by
    simp only [FzL] at h
    obtain ⟨w, wr, rfl, h1, h2⟩ := h
    cases r with
    | @cons a _ as' _ r1 r2 =>
      have ih := items_fz sm (ks := ks) h2 (by simpa using hl) r2 fun b hb => k b (List.mem_cons_of_mem _ hb)
      unfold pairD at ih ⊢
      simp only [List.zip_cons_cons, List.map_cons, FzL]
      refine ⟨_, _, rfl, ?_, ih⟩
      simp only [Fz]
      refine ⟨a, _, rfl, by rw [k a List.mem_cons_self]; exact r1, ?_⟩
      simp only [FzL]
      exact ⟨_, _, rfl, fz_kD k0, _, _, rfl, h1.mono sm, rfl⟩
open Classical in
theorem v_listItems (hm : X.mg "list" = none) (hc : X.calm = true) (he : PE X e (LE noLk we)) (hg : Gl X "list" := by rfl) (hbase : attributeBase e "items" X.env (eval e X.env) = eval e X.env := by rfl) (hline : (apos.endLine == cpos.line) = true := by rfl)
    (hs : starEach [.Call (.Attribute e "items" apos) [] [] cpos] X.env = (false, eval (.Call (.Attribute e "items" apos) [] [] cpos) X.env) :: starEach [] X.env := by rfl) : PE X (.Call (.Name "list" p) [.Call (.Attribute e "items" apos) [] [] cpos] [] pos) (LE noLk (w1 (oL1 dListItems) we)) := by
  refine pe_mono (LiI.pe_listItems hc he hg hm (by decide +kernel) hbase hline hs) fun s H Q q => ?_
  obtain ⟨B, F, m, vs, ts, P, st, hw, k⟩ := q
  refine ⟨B, F, m, vs, ts, _, st, hw, fun x m1 hx v F1 H1 g1 st1 => ?_⟩
  unfold oL1 at hx
  split at hx
  · rename_i l el
    obtain ⟨F2, g2, st2⟩ := st1.freeze
    obtain ⟨hb, st3⟩ := st2.tfz
    unfold dListItems at el
    split at el
    · rename_i ks l' ed
      cases el
      rw [ed] at hb
      simp only [Fz] at hb
      obtain ⟨d, ws, rfl, e2, ⟨e3, _⟩, e4⟩ := hb
      have e5 : H1 d = some (.dK (ks.zip ws)) := by
        rcases st3.fr d _ e2 with h | ⟨z, _⟩
        · exact h
        · exact z.elim
      refine ⟨d, ks.zip ws, rfl, e5, fun H' p as sm hp has hpn hl hpair => ?_⟩
      have nF : ∀ a ∈ as, F2 a = none := fun a ha => st3.fr.none (has a ha)
      have eF : Same F2 (fun a => if a ∈ as then H' a else F2 a) := fun a o e => by
        show (if a ∈ as then H' a else F2 a) = some o
        rw [if_neg]
        · exact e
        · intro z
          rw [nF a z] at e; cases e
      obtain ⟨g3, st4⟩ := st3.big (F' := fun a => if a ∈ as then H' a else F2 a) (t := .ol ((pairD ks l').map T.fz)) sm hp eF (fun a o e => by
        have e : (if a ∈ as then H' a else F2 a) = some o := e
        by_cases z : a ∈ as
        · rw [if_pos z] at e
          exact .inr ⟨has a z, fun q => hpn (q ▸ z), e⟩
        · rw [if_neg z] at e
          exact .inl e) (by
        simp only [Rp]
        refine ⟨p, _, fun _ => False, rfl, hl, RpL.fz (items_fz (H' := H') eF e4 e3 hpair fun a ha => ?_), id, rfl⟩
        show (if a ∈ as then H' a else F2 a) = H' a
        rw [if_pos ha])
      exact k _ m1 hx _ _ _ ((g1.trans g2).trans g3) st4
    · cases el
  · exact hx.elim
end
end VL
set_option Elab.async false
set_option linter.all false
set_option maxRecDepth 100000
set_option maxHeartbeats 4000000
/-! VL7: what is walked (lists, tuples, ranges, texts, dicts, enumerate, zip), targets, comprehensions. -/
namespace VL
open PySem PySem.Spec PyProof.Rows L2

/-! ### sources -/
/-- an iterator over the data ds, as long as G of the frozen part holds -/
structure Src (J : It) (lk : Lk) (B : Hp) (ds : List D) (G : Hp → Prop) : Prop where
  mono : ∀ F F', G F → Same F F' → G F'
  stop : ∀ F H s m vs ts i, G F → St lk B F H s m vs ts → ds.length ≤ i → J.stop i H
  go : ∀ F H s m vs ts i, G F → St lk B F H s m vs ts → i < ds.length → J.go i H
  yld : ∀ F H s m vs ts i d x H', G F → St lk B F H s m vs ts → ds[i]? = some d → J.yld i H x H' → ∃ F', Gr B F F' ∧ St lk B F' H' s m vs ts ∧ Fz F' d x
abbrev WI := Tau → (List D → Tau → Prop) → Prop
def LI (lk : Lk) (w : WI) : TI := fun s H R => ∃ B F m vs ts P, St lk B F H s m vs ts ∧ w m P ∧ ∀ ds m', P ds m' → ∀ J G F' H', Gr B F F' → St lk B F' H' s m' vs ts → Src J lk B ds G → G F' → R J H'
theorem pi_mono {X : Cx} {tg e : Expr} {t t' : TI} (h : PI X tg e t) (k : ∀ s H R, t' s H R → t s H R) : PI X tg e t' := ⟨fun pins s σ H R I q => h.run pins s σ H R I (k σ H R q)⟩
theorem fzl_get {F : Hp} {ds : List D} {ws : List V} {i : Nat} {d : D} (h : FzL F ds ws) (e : ds[i]? = some d) : ∃ w, ws[i]? = some w ∧ Fz F d w := h.get e
theorem St.frl {lk : Lk} {B F H : Hp} {s : L2.St} {m : Tau} {vs : List V} {ts : List T} {a : Addr} {ws : List V} (st : St lk B F H s m vs ts) (e : F a = some (.lst ws)) : H a = some (.lst ws) := st.sf a _ e fun kvs z => by cases z
theorem St.frt {lk : Lk} {B F H : Hp} {s : L2.St} {m : Tau} {vs : List V} {ts : List T} {a : Addr} {ws : List V} (st : St lk B F H s m vs ts) (e : F a = some (.tup ws)) : H a = some (.tup ws) := st.sf a _ e fun kvs z => by cases z
theorem src_list {K : PySem.W.Frag} {lk : Lk} {B : Hp} {ds : List D} (a : Addr) : Src (Itl K a) lk B ds (fun F => ∃ ws, F a = some (.lst ws) ∧ FzL F ds ws) where
  mono := fun F F' ⟨ws, h1, h2⟩ e => ⟨ws, e _ _ h1, h2.mono e⟩
  stop := fun F H s m vs ts i ⟨ws, h1, h2⟩ st hi => ⟨ws, SqL.of (st.frl h1), by rw [← h2.length]; exact hi⟩
  go := fun F H s m vs ts i ⟨ws, h1, h2⟩ st hi => by
    obtain ⟨w, e, _⟩ := h2.get (List.getElem?_eq_getElem hi)
    exact ⟨ws, w, SqL.of (st.frl h1), e⟩
  yld := fun F H s m vs ts i d x H' ⟨ws, h1, h2⟩ st e y => by
    obtain ⟨rfl, y⟩ := y
    obtain ⟨w, e2, k⟩ := h2.get e
    have := y ws (SqL.of (st.frl h1))
    rw [e2] at this
    cases this
    exact ⟨F, Gr.refl B F, st, k⟩
theorem src_tup {K : PySem.W.Frag} {lk : Lk} {B : Hp} {ds : List D} (a : Addr) : Src (Itt K a) lk B ds (fun F => ∃ ws, F a = some (.tup ws) ∧ FzL F ds ws) where
  mono := fun F F' ⟨ws, h1, h2⟩ e => ⟨ws, e _ _ h1, h2.mono e⟩
  stop := fun F H s m vs ts i ⟨ws, h1, h2⟩ st hi => ⟨ws, SqT.of (st.frt h1), by rw [← h2.length]; exact hi⟩
  go := fun F H s m vs ts i ⟨ws, h1, h2⟩ st hi => by
    obtain ⟨w, e, _⟩ := h2.get (List.getElem?_eq_getElem hi)
    exact ⟨ws, w, SqT.of (st.frt h1), e⟩
  yld := fun F H s m vs ts i d x H' ⟨ws, h1, h2⟩ st e y => by
    obtain ⟨rfl, y⟩ := y
    obtain ⟨w, e2, k⟩ := h2.get e
    have := y ws (SqT.of (st.frt h1))
    rw [e2] at this
    cases this
    exact ⟨F, Gr.refl B F, st, k⟩
def rngD (lo : Int) (n : Nat) : List D := (List.range n).map fun i => .int (lo + (i : Nat))
theorem rngD_get {lo : Int} {n i : Nat} {d : D} (h : (rngD lo n)[i]? = some d) : d = .int (lo + (i : Nat)) := by
  unfold rngD at h
  rw [List.getElem?_map] at h
  by_cases hi : i < n
  · rw [List.getElem?_range hi] at h
    exact (Option.some.inj h).symm
  · rw [List.getElem?_eq_none (by simpa using hi)] at h
    cases h
theorem src_rng {lk : Lk} {B : Hp} (lo : Int) (n : Nat) : Src (Itr lo n) lk B (rngD lo n) (fun _ => True) where
  mono := fun _ _ h _ => h
  stop := fun F H s m vs ts i _ st hi => by
    show n ≤ i
    simpa [rngD] using hi
  go := fun F H s m vs ts i _ st hi => by
    show i < n
    simpa [rngD] using hi
  yld := fun F H s m vs ts i d x H' _ st e y => by
    obtain ⟨rfl, rfl⟩ := y
    rw [rngD_get e]
    exact ⟨F, Gr.refl B F, st, fzi⟩
def chD (z : Str) : List D := z.cps.toList.map fun c => .str ⟨#[c]⟩
theorem src_str {lk : Lk} {B : Hp} (z : Str) : Src (Its z) lk B (chD z) (fun _ => True) where
  mono := fun _ _ h _ => h
  stop := fun F H s m vs ts i _ st hi => by
    show z.cps.size ≤ i
    simpa [chD] using hi
  go := fun F H s m vs ts i _ st hi => by
    show i < z.cps.size
    simpa [chD] using hi
  yld := fun F H s m vs ts i d x H' _ st e y => by
    obtain ⟨rfl, c, ec, rfl⟩ := y
    unfold chD at e
    rw [List.getElem?_map, Array.getElem?_toList, ec] at e
    cases e
    exact ⟨F, Gr.refl B F, st, fzs⟩
theorem St.bkf {lk : Lk} {B F H : Hp} {s : L2.St} {m : Tau} {vs : List V} {ts : List T} {a : Addr} {o : Obj} {u : HO} (st : St lk B F H s m vs ts) (e : B a = some (.frz o u)) : H a = some (.frz o u) := by
  rcases st.bk.sub a _ e with h | ⟨_, _, _, z, _⟩
  · exact h
  · cases z
/-- keys of a dict that is locked -/
theorem src_keys {lk : Lk} {B : Hp} {ks : List Key} {ws : List V} (d : Addr) (o : Obj) (hl : ks.length = ws.length) (hB : B d = some (.frz o (.dK (ks.zip ws)))) : Src (Itk d o (ks.zip ws)) lk B (ks.map kD) (fun _ => True) where
  mono := fun _ _ h _ => h
  stop := fun F H s m vs ts i _ st hi => ⟨st.bkf hB, by simpa [hl] using hi⟩
  go := fun F H s m vs ts i _ st hi => ⟨st.bkf hB, by simpa [hl] using hi⟩
  yld := fun F H s m vs ts i e x H' _ st he y => by
    obtain ⟨rfl, k, v, h1, rfl⟩ := y
    rw [List.getElem?_map] at he
    have : ks[i]? = some k := by
      have h2 := congrArg (Option.map (·.1)) h1
      rw [← List.getElem?_map, map_zip1 hl] at h2
      exact h2
    rw [this] at he
    cases he
    exact ⟨F, Gr.refl B F, st, fz_kD k⟩
theorem zip_get {α β : Type} : ∀ {ks : List α} {ws : List β} {i : Nat} {k : α} {w : β}, (ks.zip ws)[i]? = some (k, w) → ks[i]? = some k ∧ ws[i]? = some w
  | [], ws, i, k, w, h => by simp at h
  | a :: ks, [], i, k, w, h => by simp at h
  | a :: ks, b :: ws, 0, k, w, h => by
    simp only [List.zip_cons_cons, List.getElem?_cons_zero, Option.some.injEq, Prod.mk.injEq] at h ⊢
    exact h
  | a :: ks, b :: ws, i + 1, k, w, h => by
    simp only [List.zip_cons_cons, List.getElem?_cons_succ] at h ⊢
    exact zip_get h
theorem zip_at {α β : Type} : ∀ {ks : List α} {ws : List β} {i : Nat} {k : α} {w : β}, ks[i]? = some k → ws[i]? = some w → (ks.zip ws)[i]? = some (k, w)
  | [], ws, i, k, w, h, _ => by simp at h
  | a :: ks, [], i, k, w, _, h => by simp at h
  | a :: ks, b :: ws, 0, k, w, h, h' => by
    simp only [List.getElem?_cons_zero, Option.some.injEq] at h h'
    simp [h, h']
  | a :: ks, b :: ws, i + 1, k, w, h, h' => by
    simp only [List.getElem?_cons_succ] at h h'
    simp only [List.zip_cons_cons, List.getElem?_cons_succ]
    exact zip_at h h'
/-- values -/
theorem src_vals {lk : Lk} {B : Hp} {ks : List Key} {ws : List V} {l : List D} (d : Addr) (o : Obj) (hl : ks.length = ws.length) (hB : B d = some (.frz o (.dK (ks.zip ws)))) : Src (Itd d o (ks.zip ws)) lk B l (fun F => FzL F l ws) where
  mono := fun _ _ h e => h.mono e
  stop := fun F H s m vs ts i h st hi => ⟨st.bkf hB, by rw [List.length_zip, hl, Nat.min_self, ← h.length]; exact hi⟩
  go := fun F H s m vs ts i h st hi => ⟨st.bkf hB, by rw [List.length_zip, hl, Nat.min_self, ← h.length]; exact hi⟩
  yld := fun F H s m vs ts i e x H' h st he y => by
    obtain ⟨rfl, k, h1⟩ := y
    obtain ⟨w, e2, kk⟩ := h.get he
    rw [(zip_get h1).2] at e2
    cases e2
    exact ⟨F, Gr.refl B F, st, kk⟩
/-- pairs, each a new tuple -/
theorem src_items {lk : Lk} {B : Hp} {ks : List Key} {ws : List V} {l : List D} (d : Addr) (o : Obj) (hl : ks.length = ws.length) (hB : B d = some (.frz o (.dK (ks.zip ws)))) : Src (Iti d o (ks.zip ws)) lk B (pairD ks l) (fun F => FzL F l ws) where
  mono := fun _ _ h e => h.mono e
  stop := fun F H s m vs ts i h st hi => ⟨st.bkf hB, by
    rw [List.length_zip, hl, Nat.min_self]
    unfold pairD at hi
    rw [List.length_map, List.length_zip, hl, ← h.length, Nat.min_self] at hi
    rw [← h.length]
    exact hi⟩
  go := fun F H s m vs ts i h st hi => ⟨st.bkf hB, by
    rw [List.length_zip, hl, Nat.min_self]
    unfold pairD at hi
    rw [List.length_map, List.length_zip, hl, ← h.length, Nat.min_self] at hi
    rw [← h.length]
    exact hi⟩
  yld := fun F H s m vs ts i e x H' h st he y => by
    obtain ⟨tt, k, v, h1, rfl, h2, rfl⟩ := y
    obtain ⟨g1, g2⟩ := zip_get h1
    unfold pairD at he
    rw [List.getElem?_map] at he
    obtain ⟨d', e2, kk⟩ := h.at g2
    rw [zip_at g1 e2] at he
    cases he
    obtain ⟨st2, gr⟩ := st.new (o := .tup [kV k, v]) h2
    refine ⟨_, gr, st2, ?_⟩
    simp only [Fz, FzL]
    exact ⟨tt, _, rfl, upd_same, _, _, rfl, fz_kD k, _, _, rfl, kk.mono gr.same, rfl⟩
def enumD (ds : List D) : List D := (List.range ds.length).zipWith (fun i d => .tup [.int ((i : Nat) : Int), d]) ds
theorem enumD_get {ds : List D} {i : Nat} {e : D} (h : (enumD ds)[i]? = some e) : ∃ d, ds[i]? = some d ∧ e = .tup [.int ((i : Nat) : Int), d] := by
  unfold enumD at h
  rw [List.getElem?_zipWith] at h
  cases q : ds[i]? with
  | none =>
    rw [q] at h
    split at h
    · rename_i z
      cases z
    · cases h
  | some d =>
    have hi : i < ds.length := (List.getElem?_eq_some_iff.mp q).1
    rw [q, List.getElem?_range hi] at h
    cases h
    exact ⟨d, rfl, rfl⟩
theorem enumD_len {ds : List D} : (enumD ds).length = ds.length := by
  unfold enumD
  rw [List.length_zipWith, List.length_range, Nat.min_self]
theorem src_enum {K : PySem.W.Frag} {lk : Lk} {B : Hp} {ds : List D} (a : Addr) : Src (Ite K a) lk B (enumD ds) (fun F => ∃ ws, F a = some (.lst ws) ∧ FzL F ds ws) where
  mono := fun F F' ⟨ws, h1, h2⟩ e => ⟨ws, e _ _ h1, h2.mono e⟩
  stop := fun F H s m vs ts i ⟨ws, h1, h2⟩ st hi => ⟨ws, SqL.of (st.frl h1), by rw [← h2.length]; rw [enumD_len] at hi; exact hi⟩
  go := fun F H s m vs ts i ⟨ws, h1, h2⟩ st hi => by
    rw [enumD_len] at hi
    obtain ⟨w, e, _⟩ := h2.get (List.getElem?_eq_getElem hi)
    exact ⟨ws, w, SqL.of (st.frl h1), e⟩
  yld := fun F H s m vs ts i d x H' ⟨ws, h1, h2⟩ st e y => by
    obtain ⟨tt, z, rfl, h3, rfl, y⟩ := y
    obtain ⟨d', e2, rfl⟩ := enumD_get e
    obtain ⟨w, e3, k⟩ := h2.get e2
    have := y ws (SqL.of (st.frl h1))
    rw [e3] at this
    cases this
    obtain ⟨st2, gr⟩ := st.new (o := .tup [.int (i : Nat), z]) h3
    refine ⟨_, gr, st2, ?_⟩
    simp only [Fz, FzL]
    exact ⟨tt, _, rfl, upd_same, _, _, rfl, rfl, _, _, rfl, k.mono gr.same, rfl⟩
def zipD (ds es : List D) : List D := ds.zipWith (fun d e => .tup [d, e]) es
theorem src_zip {K : PySem.W.Frag} {lk : Lk} {B : Hp} {ds es : List D} (a b : Addr) : Src (Itz K a b) lk B (zipD ds es) (fun F => (∃ ws, F a = some (.lst ws) ∧ FzL F ds ws) ∧ ∃ ws, F b = some (.lst ws) ∧ FzL F es ws) where
  mono := fun F F' ⟨⟨ws, h1, h2⟩, ⟨us, k1, k2⟩⟩ e => ⟨⟨ws, e _ _ h1, h2.mono e⟩, ⟨us, e _ _ k1, k2.mono e⟩⟩
  stop := fun F H s m vs ts i ⟨⟨ws, h1, h2⟩, ⟨us, k1, k2⟩⟩ st hi => ⟨ws, us, SqL.of (st.frl h1), SqL.of (st.frl k1), by
    rw [← h2.length, ← k2.length]
    unfold zipD at hi
    rw [List.length_zipWith] at hi
    omega⟩
  go := fun F H s m vs ts i ⟨⟨ws, h1, h2⟩, ⟨us, k1, k2⟩⟩ st hi => by
    unfold zipD at hi
    rw [List.length_zipWith] at hi
    obtain ⟨w, e, _⟩ := h2.get (List.getElem?_eq_getElem (show i < ds.length by omega))
    obtain ⟨w', e', _⟩ := k2.get (List.getElem?_eq_getElem (show i < es.length by omega))
    exact ⟨ws, us, w, w', SqL.of (st.frl h1), SqL.of (st.frl k1), e, e'⟩
  yld := fun F H s m vs ts i d x H' ⟨⟨ws, h1, h2⟩, ⟨us, k1, k2⟩⟩ st e y => by
    obtain ⟨tt, z, z', rfl, h3, rfl, y1, y2⟩ := y
    have e1 := y1 ws (SqL.of (st.frl h1))
    have e2 := y2 us (SqL.of (st.frl k1))
    obtain ⟨d1, f1, g1⟩ := h2.at e1
    obtain ⟨d2, f2, g2⟩ := k2.at e2
    unfold zipD at e
    rw [List.getElem?_zipWith, f1, f2] at e
    cases e
    obtain ⟨st2, gr⟩ := st.new (o := .tup [z, z']) h3
    refine ⟨_, gr, st2, ?_⟩
    simp only [Fz, FzL]
    exact ⟨tt, _, rfl, upd_same, _, _, rfl, g1.mono gr.same, _, _, rfl, g2.mono gr.same, rfl⟩

/-! ### sources as the text has them -/
/-- a list (frozen as it is walked) -/
def iL (wa : WE) : WI := fun m P => wa m fun x m1 => match x.er with
  | .lst l => P l m1
  | _ => False
def iT (wa : WE) : WI := fun m P => wa m fun x m1 => match x.er with
  | .tup l => P l m1
  | _ => False
def iS (wa : WE) : WI := fun m P => wa m fun x m1 => match x.er with
  | .str z => P (chD z) m1
  | _ => False
def iR1 (wa : WE) : WI := fun m P => wa m fun x m1 => match x.er with
  | .int j => (-(2 ^ 62) ≤ j ∧ j < 2 ^ 62) ∧ P (rngD 0 j.toNat) m1
  | _ => False
def iR2 (wa : WA) : WI := fun m P => wa m fun xs m1 => match xs with
  | [.fz (.int i), .fz (.int j)] => (-(2 ^ 62) ≤ i ∧ i < 2 ^ 62 ∧ -(2 ^ 62) ≤ j ∧ j < 2 ^ 62) ∧ P (rngD i (j - i).toNat) m1
  | _ => False
def iE (wa : WE) : WI := fun m P => wa m fun x m1 => match x.er with
  | .lst l => P (enumD l) m1
  | _ => False
def iZ (wa wb : WE) : WI := fun m P => wa m fun x m1 => wb m1 fun y m2 => match x.er, y.er with
  | .lst l, .lst k => P (zipD l k) m2
  | _, _ => False
section
variable {X : Cx} {tg e e2 : Expr} {wa wb : WE} {wA' : WA} {p pos tpos : Pos} {elts : List Expr} {kk : Nat}
theorem vi_list (he : PE X e (LE lk wa)) : PI X tg e (LI lk (iL wa)) := pi_mono (pi_list he) fun s H R q => by
  obtain ⟨B, F, m, vs, ts, P, st, hw, k⟩ := q
  refine ⟨B, F, m, vs, ts, _, st, hw, fun x m1 hx v F1 H1 g1 st1 => ?_⟩
  split at hx
  · rename_i l el
    obtain ⟨F2, g2, st2⟩ := st1.freeze
    obtain ⟨hb, st3⟩ := st2.tfz
    rw [el] at hb
    simp only [Fz] at hb
    obtain ⟨a, ws, rfl, e2, e3⟩ := hb
    exact ⟨a, rfl, ⟨ws, SqL.of (st3.frl e2)⟩, k l m1 hx _ _ F2 H1 (g1.trans g2) st3 (src_list a) ⟨ws, e2, e3⟩⟩
  · exact hx.elim
theorem vi_tup (he : PE X e (LE lk wa)) : PI X tg e (LI lk (iT wa)) := pi_mono (pi_tup he) fun s H R q => by
  obtain ⟨B, F, m, vs, ts, P, st, hw, k⟩ := q
  refine ⟨B, F, m, vs, ts, _, st, hw, fun x m1 hx v F1 H1 g1 st1 => ?_⟩
  split at hx
  · rename_i l el
    obtain ⟨F2, g2, st2⟩ := st1.freeze
    obtain ⟨hb, st3⟩ := st2.tfz
    rw [el] at hb
    simp only [Fz] at hb
    obtain ⟨a, ws, rfl, e2, e3⟩ := hb
    exact ⟨a, rfl, ⟨ws, SqT.of (st3.frt e2)⟩, k l m1 hx _ _ F2 H1 (g1.trans g2) st3 (src_tup a) ⟨ws, e2, e3⟩⟩
  · exact hx.elim
theorem vi_str (he : PE X e (LE lk wa)) : PI X tg e (LI lk (iS wa)) := pi_mono (pi_str he) fun s H R q => by
  obtain ⟨B, F, m, vs, ts, P, st, hw, k⟩ := q
  refine ⟨B, F, m, vs, ts, _, st, hw, fun x m1 hx v F1 H1 g1 st1 => ?_⟩
  split at hx
  · rename_i z el
    obtain ⟨F2, g2, st2⟩ := st1.freeze
    obtain ⟨hb, st3⟩ := st2.tfz
    rw [el] at hb
    rw [fz_str hb]
    exact ⟨z, rfl, k _ m1 hx _ _ F2 H1 (g1.trans g2) st3 (src_str z) trivial⟩
  · exact hx.elim
theorem vi_rng1 (hm : X.mg "range" = none) (he : PE X e (LE lk wa)) (hg : Gl X "range" := by rfl) (hs : starEach [e] X.env = [(false, eval e X.env)] := by rfl) : PI X tg (.Call (.Name "range" p) [e] [] pos) (LI lk (iR1 wa)) := pi_mono (pi_range1 hg hm (pa_cons he pa_nil hs) hs) fun s H R q => by
  obtain ⟨B, F, m, vs, ts, P, st, hw, k⟩ := q
  refine ⟨B, F, m, vs, ts, _, st, hw, fun x m1 hx v F1 H1 g1 st1 => ?_⟩
  split at hx
  · rename_i j el
    obtain ⟨F2, g2, st2⟩ := st1.freeze
    obtain ⟨hb, st3⟩ := st2.tfz
    rw [el] at hb
    rw [fz_int hb]
    exact ⟨j, rfl, hx.1.1, hx.1.2, k _ m1 hx.2 _ _ F2 H1 (g1.trans g2) st3 (src_rng 0 j.toNat) trivial⟩
  · exact hx.elim
theorem vi_rng2 (hm : X.mg "range" = none) (he : PA X [e, e2] (LA lk wA')) (hg : Gl X "range" := by rfl) (hs : starEach [e, e2] X.env = [(false, eval e X.env), (false, eval e2 X.env)] := by rfl) (hs2 : starEach [e2] X.env = [(false, eval e2 X.env)] := by rfl) : PI X tg (.Call (.Name "range" p) [e, e2] [] pos) (LI lk (iR2 wA')) := pi_mono (pi_range2 hg hm he hs hs2) fun s H R q => by
  obtain ⟨B, F, m, vs, ts, P, st, hw, k⟩ := q
  refine ⟨B, F, m, vs, ts, _, st, hw, fun xs m1 hx us F1 H1 g1 hl st1 => ?_⟩
  split at hx
  · rename_i i j
    match us, hl with
    | [u, v], _ =>
      obtain ⟨rfl, st2⟩ := St.tint st1
      obtain ⟨rfl, st3⟩ := St.tint st2
      exact ⟨i, j, rfl, hx.1, k _ m1 hx.2 _ _ F1 H1 g1 st3 (src_rng i (j - i).toNat) trivial⟩
  · exact hx.elim
theorem vi_enum (hm : X.mg "enumerate" = none) (he : PE X e (LE lk wa)) (hg : Gl X "enumerate" := by rfl) (hs : starEach [e] X.env = [(false, eval e X.env)] := by rfl) : PI X (.Tuple elts kk tpos) (.Call (.Name "enumerate" p) [e] [] pos) (LI lk (iE wa)) := pi_mono (pi_enum hg hm (pa_cons he pa_nil hs) hs) fun s H R q => by
  obtain ⟨B, F, m, vs, ts, P, st, hw, k⟩ := q
  refine ⟨B, F, m, vs, ts, _, st, hw, fun x m1 hx v F1 H1 g1 st1 => ?_⟩
  split at hx
  · rename_i l el
    obtain ⟨F2, g2, st2⟩ := st1.freeze
    obtain ⟨hb, st3⟩ := st2.tfz
    rw [el] at hb
    simp only [Fz] at hb
    obtain ⟨a, ws, rfl, e2, e3⟩ := hb
    exact ⟨a, ws, rfl, SqL.of (st3.frl e2), k _ m1 hx _ _ F2 H1 (g1.trans g2) st3 (src_enum a) ⟨ws, e2, e3⟩⟩
  · exact hx.elim
theorem vi_zip (hm : X.mg "zip" = none) (he : PE X e (LE lk wa)) (he2 : PE X e2 (LE lk wb)) (hg : Gl X "zip" := by rfl) (hs : starEach [e, e2] X.env = (false, eval e X.env) :: starEach [e2] X.env := by rfl) (hs2 : starEach [e2] X.env = (false, eval e2 X.env) :: starEach [] X.env := by rfl) (hpl : (backTo pos (starEach [e2] X.env)).any (·.1) = false := by rfl) :
    PI X (.Tuple elts kk tpos) (.Call (.Name "zip" p) [e, e2] [] pos) (LI lk (iZ wa wb)) := pi_mono (pi_zip hg hm (pa_cons he (pa_cons he2 pa_nil hs2) hs) hs hpl) fun s H R q => by
  obtain ⟨B, F, m, vs, ts, P, st, hw, k⟩ := q
  refine ⟨B, F, m, vs, ts, _, st, hw, fun x m1 hx v F1 H1 g1 st1 => ⟨B, F1, m1, _, _, _, st1, hx, fun y m2 hy u F2 H2 g2 st2 => ?_⟩⟩
  split at hy
  · rename_i l l' el el'
    obtain ⟨F3, g3, st3⟩ := st2.freeze
    obtain ⟨hb, st4⟩ := st3.tfz
    obtain ⟨F4, g4, st5⟩ := st4.freeze
    obtain ⟨ha, st6⟩ := st5.tfz
    rw [el] at ha
    rw [el'] at hb
    have hb := hb.mono g4.same
    simp only [Fz] at ha hb
    obtain ⟨a, ws, rfl, e2, e3⟩ := ha
    obtain ⟨b, us, rfl, f2, f3⟩ := hb
    exact ⟨a, b, ws, us, rfl, SqL.of (st6.frl e2), SqL.of (st6.frl f2), k _ m2 hy _ _ F4 H2 (((g1.trans g2).trans g3).trans g4) st6 (src_zip a b) ⟨⟨ws, e2, e3⟩, ⟨us, f2, f3⟩⟩⟩
  · exact hy.elim
end

/-! ### targets -/
abbrev WG := D → Tau → (Tau → Prop) → Prop
/-- a target's reading stands for g; the slots kp are not touched -/
def SG (t : TG) (kp : Nat → Prop) (g : WG) : Prop := ∀ (lk : Lk) (B F H : Hp) (s : L2.St) (m : Tau) (vs : List V) (ts : List T) (d : D) (v : V) (P : Tau → Prop) (Q : L2.St → Hp → Prop), St lk B F H s m vs ts → Fz F d v → g d m P →
  (∀ m', P m' → ∀ s' F' H', Gr B F F' → s'.length = s.length → (∀ i, kp i → s'[i]? = s[i]?) → St lk B F' H' s' m' vs ts → Q s' H') → t v s H Q
def gN (i : Nat) : WG := fun d m Q => i < m.length ∧ Q (m.set i (some (.fz d)))
theorem sg_name {i : Nat} {kp : Nat → Prop} (hi : ¬ kp i) : SG (gName i) kp (gN i) := by
  intro lk B F H s m vs ts d v P Q st hd h k
  obtain ⟨w, wr, e, st2⟩ := (st.push hd).set (i := i) h.1
  cases e
  refine k _ h.2 _ F H (Gr.refl B F) (by simp) (fun j hj => ?_) st2
  rw [List.getElem?_set_ne]
  intro z
  exact hi (z ▸ hj)
def gT : List WG → WG := fun gs d m Q => match d with
  | .tup ds => ds.length = gs.length ∧ go gs ds m Q
  | _ => False
where go : List WG → List D → Tau → (Tau → Prop) → Prop
  | g :: gs, d :: ds, m, Q => g d m fun m1 => go gs ds m1 Q
  | _, _, m, Q => Q m
def SGs (t : TGs) (kp : Nat → Prop) (gs : List WG) : Prop := ∀ (lk : Lk) (B F H : Hp) (s : L2.St) (m : Tau) (vs : List V) (ts : List T) (ds : List D) (us : List V) (P : Tau → Prop) (Q : L2.St → Hp → Prop), St lk B F H s m vs ts → FzL F ds us → ds.length = gs.length → gT.go gs ds m P →
  (∀ m', P m' → ∀ s' F' H', Gr B F F' → s'.length = s.length → (∀ i, kp i → s'[i]? = s[i]?) → St lk B F' H' s' m' vs ts → Q s' H') → t us s H Q
theorem sgs_nil {kp : Nat → Prop} : SGs gNil kp [] := by
  intro lk B F H s m vs ts ds us P Q st hd hl h k
  match ds, hl with
  | [], _ =>
    simp only [FzL] at hd
    exact ⟨hd, k m h s F H (Gr.refl B F) rfl (fun _ _ => rfl) st⟩
theorem sgs_cons {kp : Nat → Prop} {t : TG} {u : TGs} {g : WG} {gs : List WG} (h1 : SG t kp g) (h2 : SGs u kp gs) : SGs (gCons t u) kp (g :: gs) := by
  intro lk B F H s m vs ts ds us P Q st hd hl h k
  match ds, hl with
  | d :: ds, hl =>
    simp only [FzL] at hd
    obtain ⟨v, vr, rfl, k1, k2⟩ := hd
    refine ⟨v, vr, rfl, h1 lk B F H s m vs ts d v _ _ st k1 h fun m' hm s' F' H' gr hs hk st' => ?_⟩
    exact h2 lk B F' H' s' m' vs ts ds vr P Q st' (k2.mono gr.same) (by simpa using hl) hm fun m2 hm2 s2 F2 H2 gr2 hs2 hk2 st2 => k m2 hm2 s2 F2 H2 (gr.trans gr2) (hs2.trans hs) (fun i hi => (hk2 i hi).trans (hk i hi)) st2
theorem sg_tup {K : PySem.W.Frag} {n : Nat} {kp : Nat → Prop} {u : TGs} {gs : List WG} (h : SGs u kp gs) (hn : gs.length = n := by rfl) : SG (gTup K n u) kp (gT gs) := by
  intro lk B F H s m vs ts d v P Q st hd hw k
  unfold gT at hw
  split at hw
  · rename_i ds
    obtain ⟨a, ws, rfl, e1, e2, e3⟩ := st.tup hd
    exact ⟨a, ws, rfl, SqT.of e2, by rw [← e3.length, hw.1, hn], h lk B F H s m vs ts ds ws P Q st e3 hw.1 hw.2 k⟩
  · exact hw.elim

/-! ### comprehensions -/
/-- the slots of the block's own names are forgotten -/
def wipeT (m : Tau) : List Nat → Tau
  | [] => m
  | v :: vs => (wipeT m vs).set v none
theorem St.wipe {lk : Lk} {B F H : Hp} {s : L2.St} {m : Tau} {vs : List V} {ts : List T} (st : St lk B F H s m vs ts) : ∀ own : List Nat, St lk B F H (L2.wipe s own) (wipeT m own) vs ts
  | [] => st
  | v :: own => by
    have ih := st.wipe own
    have : St lk B F H ((L2.wipe s own).set v none) ((wipeT m own).set v none) vs ts := by
      obtain ⟨f, g, h1, h2, h3, h4⟩ := (ih.forget v).ex
      refine ⟨⟨f, g, ?_, h2, h3, h4⟩, ih.fr, ih.bk⟩
      exact RpS.unset v h1
    exact this
where
  RpS.unset {F H : Hp} : ∀ (i : Nat) {m : Tau} {s : L2.St} {f : Fp}, RpS F H s (m.set i none) f → RpS F H (s.set i none) (m.set i none) f
  | i, [], s, f, h => by
    simp only [List.set_nil, RpS] at h ⊢
    rw [h.1]
    exact ⟨by simp, h.2⟩
  | 0, c :: m, s, f, h => by
    simp only [List.set_cons_zero, RpS] at h ⊢
    obtain ⟨o, sr, rfl, h⟩ := h
    exact ⟨none, sr, rfl, h⟩
  | i + 1, none :: m, s, f, h => by
    simp only [List.set_cons_succ, RpS] at h ⊢
    obtain ⟨o, sr, rfl, h⟩ := h
    exact ⟨o, _, rfl, RpS.unset i h⟩
  | i + 1, some t :: m, s, f, h => by
    simp only [List.set_cons_succ, RpS] at h ⊢
    obtain ⟨v, sr, f1, f2, rfl, h1, h2, h3, h4⟩ := h
    exact ⟨v, _, f1, f2, rfl, h1, RpS.unset i h2, h3, h4⟩
/-- what the block leaves of the slots: those of its own names as they stood, where they were frozen -/
def backT (m0 m : Tau) : List Nat → Tau
  | [] => m
  | v :: vs => (backT m0 m vs).set v (match m0[v]? with
    | some (some (.fz d)) => some (.fz d)
    | _ => none)
def wLcL (g : WG) (wt : WT) (we : WE) (own : List Nat) : List D → List T → Tau → (List T → Tau → Prop) → Prop
  | [], acc, m, Q => Q acc m
  | d :: ds, acc, m, Q => g d m fun m1 => wt m1 fun b m2 => match b with
    | true => we m2 fun t m3 => acc.length < sizeLine ∧ wLcL g wt we own ds (acc ++ [t]) (wipeT m3 own) Q
    | false => wLcL g wt we own ds acc (wipeT m2 own) Q
def wLc (wi : WI) (g : WG) (wt : WT) (we : WE) (own : List Nat) : WE := fun m Q => wi m fun ds m1 => wLcL g wt we own ds [] (wipeT m1 own) fun acc m2 => Q (.ol acc) (backT m1 m2 own)
def wYes : WT := fun m Q => Q true m
/-- an item is appended to a list in hand -/
theorem St.snoc {lk : Lk} {B F H : Hp} {s : L2.St} {m : Tau} {v : V} {a : Addr} {vs : List V} {t : T} {l : List T} {ts : List T} (st : St lk B F H s m (v :: .ref a :: vs) (t :: .ol l :: ts)) :
    ∃ ws, H a = some (.lst ws) ∧ ws.length = l.length ∧ St lk B F (upd H a (.lst (ws ++ [v]))) s m (.ref a :: vs) (.ol (l ++ [t]) :: ts) := by
  obtain ⟨f, g, h1, h2, h3, h4⟩ := st.ex
  rw [RpL] at h2
  obtain ⟨v', vr, f1, f2, e, k1, k2, k3, rfl⟩ := h2
  cases e
  rw [RpL] at k2
  obtain ⟨v', vr, g1, g2, e, j1, j2, j3, rfl⟩ := k2
  cases e
  simp only [Rp] at j1
  obtain ⟨a', ws, g0, e, i1, i2, i3, rfl⟩ := j1
  cases e
  have keep : ∀ (q : Fp), ¬ q a → ∀ b, q b → (upd H a (.lst (ws ++ [v]))) b = H b := fun q n b z => upd_ne fun e => n (e ▸ z)
  have nf : ¬ f a := fun z => h3 a z (.inr (.inl (.inl rfl)))
  have nf1 : ¬ f1 a := fun z => k3 a z (.inl (.inl rfl))
  have ng2 : ¬ g2 a := fun z => j3 a (.inl rfl) z
  refine ⟨ws, i1, i2.length.symm, ⟨f, fun b => (b = a ∨ (g0 b ∨ f1 b)) ∨ g2 b, h1.frame (Same.refl F) (keep f nf), ?_, fun b z q => ?_, fun b z => ?_⟩, fun b o e => ?_, ⟨fun b o e => ?_, st.bk.own⟩⟩
  · rw [RpL]
    refine ⟨.ref a, vs, _, g2, rfl, ?_, j2.frame (Same.refl F) (keep g2 ng2), fun b z q => ?_, rfl⟩
    · simp only [Rp]
      refine ⟨a, _, fun b => g0 b ∨ f1 b, rfl, upd_same, ?_, fun z => z.elim i3 nf1, rfl⟩
      refine (i2.frame (Same.refl F) (keep g0 i3)).append (l := l) (m := [t]) ?_ fun b z q => k3 b q (.inl (.inr z))
      rw [RpL]
      refine ⟨v, [], f1, fun _ => False, rfl, k1.frame (Same.refl F) (keep f1 nf1), by simp only [RpL]; exact ⟨trivial, trivial⟩, fun _ _ z => z, by funext b; simp⟩
    · rcases z with rfl | z | z
      · exact ng2 q
      · exact j3 b (.inr z) q
      · exact k3 b z (.inr q)
  · rcases q with (rfl | q | q) | q
    · exact nf z
    · exact h3 b z (.inr (.inl (.inr q)))
    · exact h3 b z (.inl q)
    · exact h3 b z (.inr (.inr q))
  · rcases z with z | (rfl | z | z) | z
    · exact h4 b (.inl z)
    · exact h4 b (.inr (.inr (.inl (.inl rfl))))
    · exact h4 b (.inr (.inr (.inl (.inr z))))
    · exact h4 b (.inr (.inl z))
    · exact h4 b (.inr (.inr (.inr z)))
  · have ne : b ≠ a := fun z => by
      have := (h4 a (.inr (.inr (.inl (.inl rfl))))).1
      rw [← z, e] at this
      cases this
    rw [upd_ne ne]
    exact st.fr b o e
  · have ne : b ≠ a := fun z => by
      have := (h4 a (.inr (.inr (.inl (.inl rfl))))).2
      rw [← z, e] at this
      cases this
    rw [upd_ne ne]
    exact st.bk.sub b o e
theorem backT_len (m0 m : Tau) : ∀ own : List Nat, (backT m0 m own).length = m.length
  | [] => rfl
  | v :: own => by
    unfold backT
    rw [List.length_set, backT_len m0 m own]
theorem wipeT_len (m : Tau) : ∀ own : List Nat, (wipeT m own).length = m.length
  | [] => rfl
  | v :: own => by
    unfold wipeT
    rw [List.length_set, wipeT_len m own]
theorem wipe_get {s : L2.St} {i : Nat} : ∀ {own : List Nat}, i ∉ own → (L2.wipe s own)[i]? = s[i]?
  | [], _ => rfl
  | v :: own, h => by
    unfold L2.wipe
    rw [List.getElem?_set_ne (fun e : v = i => h (by rw [e]; exact List.mem_cons_self)), wipe_get fun z => h (List.mem_cons_of_mem _ z)]
theorem wipeT_get {m : Tau} {i : Nat} : ∀ {own : List Nat}, i ∉ own → (wipeT m own)[i]? = m[i]?
  | [], _ => rfl
  | v :: own, h => by
    unfold wipeT
    rw [List.getElem?_set_ne (fun e : v = i => h (by rw [e]; exact List.mem_cons_self)), wipeT_get fun z => h (List.mem_cons_of_mem _ z)]
theorem wipe_own {s : L2.St} {i : Nat} : ∀ {own : List Nat}, i ∈ own → ∀ v, (L2.wipe s own)[i]? ≠ some (some v)
  | [], h, _ => by cases h
  | w :: own, h, v => by
    unfold L2.wipe
    by_cases e : w = i
    · subst e
      rw [List.getElem?_set]
      intro z
      split at z
      · split at z
        · cases z
        · cases z
      · rename_i hne
        exact hne rfl
    · rw [List.getElem?_set_ne e]
      exact wipe_own ((List.mem_cons.mp h).resolve_left fun z => e z.symm) v
theorem wipeT_own {m : Tau} {i : Nat} : ∀ {own : List Nat}, i ∈ own → ∀ v, (wipeT m own)[i]? ≠ some (some v)
  | [], h, _ => by cases h
  | w :: own, h, v => by
    unfold wipeT
    by_cases e : w = i
    · subst e
      rw [List.getElem?_set]
      intro z
      split at z
      · split at z
        · cases z
        · cases z
      · rename_i hne
        exact hne rfl
    · rw [List.getElem?_set_ne e]
      exact wipeT_own ((List.mem_cons.mp h).resolve_left fun z => e z.symm) v
theorem wipe_eq {s s' : L2.St} {own : List Nat} (hl : s'.length = s.length) (h : ∀ i, i ∉ own → s'[i]? = s[i]?) : L2.wipe s' own = L2.wipe s own := by
  apply List.ext_getElem?
  intro i
  by_cases hi : i ∈ own
  · have key : ∀ q : L2.St, (L2.wipe q own)[i]? = if i < q.length then some none else none := fun q => by
      by_cases hq : i < q.length
      · rw [if_pos hq]
        have hl2 : i < (L2.wipe q own).length := by rw [L2.wipe_length]; exact hq
        cases z : (L2.wipe q own)[i]? with
        | none => rw [List.getElem?_eq_none_iff] at z; omega
        | some o =>
          cases o with
          | none => rfl
          | some v => exact (wipe_own hi v z).elim
      · rw [if_neg hq]
        exact List.getElem?_eq_none (by rw [L2.wipe_length]; omega)
    rw [key, key, hl]
  · rw [wipe_get hi, wipe_get hi, h i hi]
theorem RpS.swap {F H : Hp} : ∀ {m : Tau} {s s' : L2.St} {f : Fp}, RpS F H s m f → s'.length = s.length → (∀ (i : Nat) (t : T), m[i]? = some (some t) → s'[i]? = s[i]?) → RpS F H s' m f
  | [], s, s', f, h, hl, k => by
    simp only [RpS] at h ⊢
    rw [h.1] at hl
    exact ⟨List.length_eq_zero_iff.mp hl, h.2⟩
  | none :: m, s, s', f, h, hl, k => by
    simp only [RpS] at h ⊢
    obtain ⟨o, sr, rfl, h⟩ := h
    match s', hl with
    | o' :: sr', hl => exact ⟨o', sr', rfl, h.swap (by simpa using hl) fun i t e => by simpa using k (i + 1) t (by simpa using e)⟩
  | some t :: m, s, s', f, h, hl, k => by
    simp only [RpS] at h ⊢
    obtain ⟨v, sr, f1, f2, rfl, h1, h2, h3, h4⟩ := h
    match s', hl with
    | o' :: sr', hl =>
      have e0 := k 0 t rfl
      simp only [List.getElem?_cons_zero, Option.some.injEq] at e0
      subst e0
      exact ⟨v, sr', f1, f2, rfl, h1, h2.swap (by simpa using hl) fun i t e => by simpa using k (i + 1) t (by simpa using e), h3, h4⟩
theorem St.swap {lk : Lk} {B F H : Hp} {s s' : L2.St} {m : Tau} {vs : List V} {ts : List T} (st : St lk B F H s m vs ts) (hl : s'.length = s.length) (k : ∀ (i : Nat) (t : T), m[i]? = some (some t) → s'[i]? = s[i]?) : St lk B F H s' m vs ts := by
  obtain ⟨f, g, h1, h2, h3, h4⟩ := st.ex
  exact ⟨⟨f, g, h1.swap hl k, h2, h3, h4⟩, st.fr, st.bk⟩
theorem St.putFz {lk : Lk} {B F H : Hp} {s : L2.St} {m : Tau} {vs : List V} {ts : List T} {i : Nat} {d : D} {v : V} (st : St lk B F H s m vs ts) (e : s[i]? = some (some v)) (k : Fz F d v) : St lk B F H s (m.set i (some (.fz d))) vs ts := by
  have hi : i < m.length := by
    rw [← st.len]
    exact (List.getElem?_eq_some_iff.mp e).1
  obtain ⟨w, wr, q, st2⟩ := (st.push k).set hi
  cases q
  rw [set_same e] at st2
  exact st2
theorem St.back {lk : Lk} {B F H : Hp} {s : L2.St} {m0 m : Tau} {vs : List V} {ts : List T} (h0 : ∀ (i : Nat) (d : D), m0[i]? = some (some (T.fz d)) → ∃ v, s[i]? = some (some v) ∧ Fz F d v) (st : St lk B F H s m vs ts) : ∀ own : List Nat, St lk B F H s (backT m0 m own) vs ts
  | [] => st
  | v :: own => by
    have ih := St.back h0 st own
    unfold backT
    split
    · rename_i d e
      obtain ⟨w, e1, e2⟩ := h0 v d e
      exact ih.putFz e1 e2
    · exact ih.forget v
/-- the tests of a comprehension -/
structure PTsL (X : Cx) (lk : Lk) (cs : List Expr) (w : WT) : Prop where
  run : PTs X cs (LT lk w)
theorem vts_nil {X : Cx} {lk : Lk} : PTs X [] (LT lk wYes) := ⟨fun pins s σ H Q I q => pts_nil.run pins s σ H Q I (by
  obtain ⟨B, F, m, vs, ts, P, st, hw, k⟩ := q
  exact k true m hw F H (Gr.refl B F) st)⟩
theorem vts_one {X : Cx} {lk : Lk} {c : Expr} {w : WT} (h : PT X c (LT lk w)) : PTs X [c] (LT lk w) := pts_one h
/-- the loop of a comprehension -/
theorem lc_run {J : It} {lk : Lk} {gt : TG} {tt : TT} {te : TE} {s : L2.St} {B F0 : Hp} {vs : List V} {ts : List T} {g : WG} {wt : WT} {we : WE} {own : List Nat} {ds : List D} {G : Hp → Prop} {Dl : Addr} {H1 : Hp} {m1 : Tau} {P : List T → Tau → Prop} {Qd : Hp → Prop}
    (sr : Src J lk B ds G) (sg : SG gt (fun i => i ∉ own) g) (ht : ∀ s H Q, LT lk wt s H Q → tt s H Q) (he : ∀ s H Q, LE lk we s H Q → te s H Q) (hG : G F0) (st : St lk B F0 H1 s m1 (.ref Dl :: vs) (.ol [] :: ts)) (hw : wLcL g wt we own ds [] (wipeT m1 own) P)
    (hd : ∀ acc m2 F H, P acc (wipeT m2 own) → Gr B F0 F → St lk B F H (L2.wipe s own) (wipeT m2 own) (.ref Dl :: vs) (.ol acc :: ts) → Qd H) :
    ∃ W : Nat → Nat → Hp → Prop, (∃ m, W 0 m H1) ∧ ∀ i m H, W i m H →
      (J.stop i H ∧ Qd H) ∨ (J.go i H ∧ ∃ Nx : Hp → Prop, (∀ H', Nx H' → ∃ m', m' < m ∧ W (i + 1) m' H') ∧ ∀ x H', J.yld i H x H' → gt x (L2.wipe s own) H' fun σ2 H2 => L2.wipe σ2 own = L2.wipe s own ∧ tt σ2 H2 fun b H3 =>
        if b = true then te σ2 H3 fun y H4 => ∃ acc, H4 Dl = some (.lst acc) ∧ acc.length < sizeLine ∧ Nx (upd H4 Dl (.lst (acc ++ [y]))) else Nx H3) := by
  refine ⟨fun i m H => m = ds.length - i ∧ i ≤ ds.length ∧ ∃ F mm acc, Gr B F0 F ∧ St lk B F H (L2.wipe s own) (wipeT mm own) (.ref Dl :: vs) (.ol acc :: ts) ∧ wLcL g wt we own (ds.drop i) acc (wipeT mm own) P,
    ⟨ds.length, by simp, Nat.zero_le _, F0, m1, [], Gr.refl B F0, st.wipe own, hw⟩, ?_⟩
  rintro i m H ⟨rfl, hi, F, mm, acc, gr, st1, hw1⟩
  have hGF := sr.mono _ _ hG gr.same
  by_cases hlt : i < ds.length
  · refine .inr ⟨sr.go _ _ _ _ _ _ i hGF st1 hlt, fun H' => ∃ F mm acc, Gr B F0 F ∧ St lk B F H' (L2.wipe s own) (wipeT mm own) (.ref Dl :: vs) (.ol acc :: ts) ∧ wLcL g wt we own (ds.drop (i + 1)) acc (wipeT mm own) P,
      fun H' p => ⟨ds.length - (i + 1), by omega, rfl, hlt, p⟩, fun x H' y => ?_⟩
    have ed : ds[i]? = some ds[i] := List.getElem?_eq_getElem hlt
    obtain ⟨F2, g2, st2, kx⟩ := sr.yld _ _ _ _ _ _ i ds[i] x H' hGF st1 ed y
    rw [List.drop_eq_getElem_cons hlt] at hw1
    unfold wLcL at hw1
    refine sg lk B F2 H' _ _ _ _ ds[i] x _ _ st2 kx hw1 fun m3 hm3 s3 F3 H3 g3 hl3 kp3 st3 => ?_
    have ew : L2.wipe s3 own = L2.wipe s own := by
      have := wipe_eq (own := own) hl3 kp3
      rw [this]
      exact wipe_eq (by rw [L2.wipe_length]) fun i hi => wipe_get hi
    refine ⟨ew, ht _ _ _ ⟨B, F3, m3, _, _, _, st3, hm3, fun b m4 hm4 F4 H4 g4 st4 => ?_⟩⟩
    cases b with
    | true =>
      rw [if_pos rfl]
      refine he _ _ _ ⟨B, F4, m4, _, _, _, st4, hm4, fun t m5 hm5 v F5 H5 g5 st5 => ?_⟩
      obtain ⟨ws, e1, e2, st6⟩ := st5.snoc
      refine ⟨ws, e1, by rw [e2]; exact hm5.1, F5, m5, _, (((gr.trans g2).trans g3).trans g4).trans g5, ?_, hm5.2⟩
      have := st6.wipe own
      rw [ew] at this
      exact this
    | false =>
      rw [if_neg Bool.false_ne_true]
      refine ⟨F4, m4, acc, ((gr.trans g2).trans g3).trans g4, ?_, hm4⟩
      have := st4.wipe own
      rw [ew] at this
      exact this
  · have hi' : i = ds.length := by omega
    subst hi'
    refine .inl ⟨sr.stop _ _ _ _ _ _ _ hGF st1 (Nat.le_refl _), ?_⟩
    rw [List.drop_length] at hw1
    unfold wLcL at hw1
    exact hd acc mm F H hw1 gr st1
theorem l_lc {lk : Lk} {gt : TG} {g : WG} {wt : WT} {we : WE} {wi : WI} {own : List Nat} (sg : SG gt (fun i => i ∉ own) g) {s : L2.St} {H : Hp} {Q : VK} (q : LE lk (wLc wi g wt we own) s H Q) : tLc (LI lk wi) gt (LT lk wt) (LE lk we) own s H Q := by
  obtain ⟨B, F, m, vs, ts, P, st, hw, k⟩ := q
  refine ⟨B, F, m, vs, ts, _, st, hw, fun ds m1 hx J G F1 H1 g1 st1 sr hG => ?_⟩
  intro Dl hD
  have st2 : St lk B F1 (upd H1 Dl (.lst [])) s m1 (.ref Dl :: vs) (.ol [] :: ts) := st1.own0 hD fun H' e' => by
    simp only [Rp]
    exact ⟨Dl, [], fun _ => False, rfl, e', by simp only [RpL]; exact ⟨trivial, trivial⟩, id, rfl⟩
  refine lc_run sr sg (fun _ _ _ q => q) (fun _ _ _ q => q) hG st2 hx fun acc m2 F2 H2 hP gr st3 => ?_
  refine k _ _ hP (.ref Dl) F2 H2 (g1.trans gr) ?_
  have st4 : St lk B F2 H2 s (wipeT m2 own) (.ref Dl :: vs) (.ol acc :: ts) := st3.swap (by rw [L2.wipe_length]) fun i t e => by
    by_cases hi : i ∈ own
    · exact (wipeT_own hi t e).elim
    · exact (wipe_get hi).symm
  refine St.back (fun i d e => ?_) st4 own
  obtain ⟨v, e1, e2⟩ := st1.var e
  exact ⟨v, e1, e2.mono gr.same⟩
section
variable {X : Cx} {elt tg iter : Expr} {ifs : List Expr} {scope : Scope} {own : List (Str × Nat)} {pos spos : Pos} {wi : WI} {g : WG} {wt : WT} {we : WE} {gt : TG} {lk : Lk}
theorem v_lc (hc : X.calm = true) (hN : X.N.Nodup) (hi : PI X tg iter (LI lk wi)) (ok : BlkOk X.N X.env.scope scope own) (sg : SG gt (fun i => i ∉ own.map (·.2)) g)
    (hg : ∀ (s : Shared) (H : Hp) (C : Addr) (cl : List (Str × Addr)) (fp : List Addr), PG (X.blk s H scope (compEnvC scope cl C X.env) fp) tg gt) (ht : ∀ (s : Shared) (H : Hp) (C : Addr) (cl : List (Str × Addr)) (fp : List Addr), PTs (X.blk s H scope (compEnvC scope cl C X.env) fp) ifs (LT lk wt))
    (he : ∀ (s : Shared) (H : Hp) (C : Addr) (cl : List (Str × Addr)) (fp : List Addr), PE (X.blk s H scope (compEnvC scope cl C X.env) fp) elt (LE lk we)) (hs : ∀ x, foldedSetIterable iter X.env x = pure x := by intro _; rfl) :
    PE X (.ListComp elt [⟨tg, iter, ifs, 0⟩] scope pos) (LE lk (wLc wi g wt we (own.map (·.2)))) := pe_mono (pe_lc hc hN hi ok hg ht he hs) fun s H Q q => l_lc sg q
end
end VL
set_option Elab.async false
set_option linter.all false
set_option maxRecDepth 100000
set_option maxHeartbeats 4000000
/-! VL8: statements over the trees. -/
namespace VL
open PySem PySem.Spec PyProof.Rows L2

/-- an exception of an own class, with what it keeps -/
structure Exn where
  C : Addr
  fs : List Str
  l : List D
def XFz (F : Hp) (e : Exn) (cls : Value) (d : Option Addr) : Prop := cls = .ref e.C ∧ ∃ a ws, d = some a ∧ F a = some (.xd (e.fs.zip ws)) ∧ e.fs.length = ws.length ∧ FzL F e.l ws
structure WEnds where
  nx : Tau → Prop
  rt : T → Tau → Prop
  bk : Tau → Prop
  ct : Tau → Prop
  xe : Exn → Tau → Prop
abbrev WS := Tau → WEnds → Prop
/-- slots kp are as they were -/
def Kp (kp : Nat → Prop) (s s' : L2.St) : Prop := s'.length = s.length ∧ ∀ i, kp i → s'[i]? = s[i]?
theorem Kp.refl {kp : Nat → Prop} {s : L2.St} : Kp kp s s := ⟨rfl, fun _ _ => rfl⟩
theorem Kp.trans {kp : Nat → Prop} {s s1 s2 : L2.St} (a : Kp kp s s1) (b : Kp kp s1 s2) : Kp kp s s2 := ⟨b.1.trans a.1, fun i h => (b.2 i h).trans (a.2 i h)⟩
theorem Kp.set {kp : Nat → Prop} {s : L2.St} {i : Nat} {o : Option V} (h : ¬ kp i) : Kp kp s (s.set i o) := ⟨by simp, fun j hj => by
  rw [List.getElem?_set_ne]
  intro z
  exact h (z ▸ hj)⟩
def EK (lk : Lk) (kp : Nat → Prop) (B F : Hp) (s : L2.St) (vs : List V) (ts : List T) (P : Tau → Prop) (Q : L2.St → Hp → Prop) : Prop :=
  ∀ m', P m' → ∀ s' F' H', Gr B F F' → Kp kp s s' → St lk B F' H' s' m' vs ts → Q s' H'
def EKR (lk : Lk) (kp : Nat → Prop) (B F : Hp) (s : L2.St) (vs : List V) (ts : List T) (P : T → Tau → Prop) (Q : VK) : Prop :=
  ∀ t m', P t m' → ∀ s' v F' H', Gr B F F' → Kp kp s s' → St lk B F' H' s' m' (v :: vs) (t :: ts) → Q v H'
def EKX (lk : Lk) (kp : Nat → Prop) (B F : Hp) (s : L2.St) (vs : List V) (ts : List T) (P : Exn → Tau → Prop) (W : WX) : Prop :=
  ∀ e m', P e m' → ∀ s' F' H' cls d, Gr B F F' → Kp kp s s' → St lk B F' H' s' m' vs ts → XFz F' e cls d → W cls d s' H'
structure EndsOk (lk : Lk) (kp : Nat → Prop) (W : WX) (B F : Hp) (s : L2.St) (vs : List V) (ts : List T) (E : WEnds) (D : Ends) : Prop where
  nx : EK lk kp B F s vs ts E.nx D.nx
  rt : EKR lk kp B F s vs ts E.rt D.rt
  bk : EK lk kp B F s vs ts E.bk D.bk
  ct : EK lk kp B F s vs ts E.ct D.ct
  xe : EKX lk kp B F s vs ts E.xe W
def LS (lk : Lk) (kp : Nat → Prop) (W : WX) (w : WS) : TS := fun D s H => ∃ B F m vs ts E, St lk B F H s m vs ts ∧ w m E ∧ EndsOk lk kp W B F s vs ts E D
section
variable {lk : Lk} {kp : Nat → Prop} {B F F1 H : Hp} {s s1 : L2.St} {vs : List V} {ts : List T}
theorem EK.mv {P : Tau → Prop} {Q : L2.St → Hp → Prop} (h : EK lk kp B F s vs ts P Q) (g : Gr B F F1) (k : Kp kp s s1) : EK lk kp B F1 s1 vs ts P Q := fun m' hm s' F' H' g' k' st => h m' hm s' F' H' (g.trans g') (k.trans k') st
theorem EKR.mv {P : T → Tau → Prop} {Q : VK} (h : EKR lk kp B F s vs ts P Q) (g : Gr B F F1) (k : Kp kp s s1) : EKR lk kp B F1 s1 vs ts P Q := fun t m' hm s' v F' H' g' k' st => h t m' hm s' v F' H' (g.trans g') (k.trans k') st
theorem EKX.mv {P : Exn → Tau → Prop} {W : WX} (h : EKX lk kp B F s vs ts P W) (g : Gr B F F1) (k : Kp kp s s1) : EKX lk kp B F1 s1 vs ts P W := fun e m' hm s' F' H' cls d g' k' st x => h e m' hm s' F' H' cls d (g.trans g') (k.trans k') st x
theorem EndsOk.mv {W : WX} {E : WEnds} {D : Ends} (h : EndsOk lk kp W B F s vs ts E D) (g : Gr B F F1) (k : Kp kp s s1) : EndsOk lk kp W B F1 s1 vs ts E D := ⟨h.nx.mv g k, h.rt.mv g k, h.bk.mv g k, h.ct.mv g k, h.xe.mv g k⟩
end
def wNext : WS := fun m E => E.nx m
def wSeq (a b : WS) : WS := fun m E => a m ⟨fun m1 => b m1 E, E.rt, E.bk, E.ct, E.xe⟩
def wBrk : WS := fun m E => E.bk m
def wCnt : WS := fun m E => E.ct m
def wNever : WS := fun _ _ => False
def wSet (i : Nat) (we : WE) : WS := fun m E => we m fun t m1 => i < m1.length ∧ E.nx (m1.set i (some t))
/-- what is stored is frozen -/
def wSetF (i : Nat) (we : WE) : WS := fun m E => we m fun t m1 => i < m1.length ∧ E.nx (m1.set i (some (.fz t.er)))
def wRet (we : WE) : WS := fun m E => we m E.rt
def wRetN : WS := fun m E => E.rt (.fz .non) m
def wDrop (we : WE) : WS := fun m E => we m fun _ m1 => E.nx m1
def wIfS (wt : WT) (a b : WS) : WS := fun m E => wt m fun c m1 => match c with
  | true => a m1 E
  | false => b m1 E
def wForL (g : WG) (wb : WS) : List D → WS
  | [], m, E => E.nx m
  | d :: ds, m, E => g d m fun m1 => wb m1 ⟨fun m2 => wForL g wb ds m2 E, E.rt, E.nx, fun m2 => wForL g wb ds m2 E, E.xe⟩
def wFor (wi : WI) (g : WG) (wb : WS) : WS := fun m E => wi m fun ds m1 => wForL g wb ds m1 E
def wWhile (wt : WT) (wb : WS) : WS := fun m E => ∃ W : Nat → Tau → Prop, (∃ n, W n m) ∧ ∀ n m, W n m → wt m fun c m1 => match c with
  | true => wb m1 ⟨fun m2 => ∃ n', n' < n ∧ W n' m2, E.rt, E.nx, fun m2 => ∃ n', n' < n ∧ W n' m2, E.xe⟩
  | false => E.nx m1
def wAsg (we : WE) (g : WG) : WS := fun m E => we m fun t m1 => g t.er m1 E.nx
def wPar (i j : Nat) (wa : WA) : WS := fun m E => wa m fun xs m1 => match xs with
  | [x, y] => (i < m1.length ∧ j < m1.length) ∧ E.nx ((m1.set i (some x)).set j (some y))
  | _ => False
def wPar3 (i j k : Nat) (wa : WA) : WS := fun m E => wa m fun xs m1 => match xs with
  | [x, y, z] => (i < m1.length ∧ j < m1.length ∧ k < m1.length) ∧ E.nx (((m1.set i (some x)).set j (some y)).set k (some z))
  | _ => False
section
variable {X : Cx} {lk : Lk} {kp : Nat → Prop} {W : WX} {st : Stmt} {rest : List Stmt} {a b : WS} {we : WE} {e : Expr} {pos : Pos}
theorem ss_nil : PSs X [] (LS lk kp W wNext) := pss_mono pss_nil fun D s H q => by
  obtain ⟨B, F, m, vs, ts, E, st, hw, k⟩ := q
  exact k.nx m hw s F H (Gr.refl B F) Kp.refl st
theorem l_seq {D : Ends} {s : L2.St} {H : Hp} (q : LS lk kp W (wSeq a b) D s H) : tSeq (LS lk kp W a) (LS lk kp W b) D s H := by
  obtain ⟨B, F, m, vs, ts, E, st, hw, k⟩ := q
  exact ⟨B, F, m, vs, ts, _, st, hw, fun m1 h1 s1 F1 H1 g1 k1 st1 => ⟨B, F1, m1, vs, ts, E, st1, h1, k.mv g1 k1⟩, k.rt, k.bk, k.ct, k.xe⟩
theorem ss_cons (h1 : PS X st (LS lk kp W a)) (h2 : PSs X rest (LS lk kp W b)) : PSs X (st :: rest) (LS lk kp W (wSeq a b)) := pss_mono (pss_cons h1 h2) fun D s H q => l_seq q
theorem ss_one (h1 : PS X st (LS lk kp W a)) : PSs X [st] (LS lk kp W a) := pss_one h1
theorem s_pass : PS X (.Pass pos) (LS lk kp W wNext) := ps_mono ps_pass fun D s H q => by
  obtain ⟨B, F, m, vs, ts, E, st, hw, k⟩ := q
  exact k.nx m hw s F H (Gr.refl B F) Kp.refl st
theorem s_break : PS X (.Break pos) (LS lk kp W wBrk) := ps_mono ps_break fun D s H q => by
  obtain ⟨B, F, m, vs, ts, E, st, hw, k⟩ := q
  exact k.bk m hw s F H (Gr.refl B F) Kp.refl st
theorem s_continue : PS X (.Continue pos) (LS lk kp W wCnt) := ps_mono ps_continue fun D s H q => by
  obtain ⟨B, F, m, vs, ts, E, st, hw, k⟩ := q
  exact k.ct m hw s F H (Gr.refl B F) Kp.refl st
theorem s_doc {x j pos'} : PS X (.Expr (.Constant (.str x) j pos) pos') (LS lk kp W wNext) := ps_mono ps_doc fun D s H q => by
  obtain ⟨B, F, m, vs, ts, E, st, hw, k⟩ := q
  exact k.nx m hw s F H (Gr.refl B F) Kp.refl st
theorem s_never : PS X st (LS lk kp W wNever) := ps_mono (ps_never (st := st)) fun D s H q => by
  obtain ⟨B, F, m, vs, ts, E, st, hw, k⟩ := q
  exact hw.elim
theorem ss_never : PSs X rest (LS lk kp W wNever) := pss_mono (pss_never (sts := rest)) fun D s H q => by
  obtain ⟨B, F, m, vs, ts, E, st, hw, k⟩ := q
  exact hw.elim
theorem l_set {i : Nat} (hi : ¬ kp i) {D : Ends} {s : L2.St} {H : Hp} (q : LS lk kp W (wSet i we) D s H) : tAsg (LE lk we) (gName i) D s H := by
  obtain ⟨B, F, m, vs, ts, E, st, hw, k⟩ := q
  refine ⟨B, F, m, vs, ts, _, st, hw, fun t m1 ht v F1 H1 g1 st1 => ?_⟩
  obtain ⟨w, wr, e, st2⟩ := st1.set ht.1
  cases e
  exact k.nx _ ht.2 _ F1 H1 g1 (Kp.set hi) st2
theorem l_setF {i : Nat} (hi : ¬ kp i) {D : Ends} {s : L2.St} {H : Hp} (q : LS lk kp W (wSetF i we) D s H) : tAsg (LE lk we) (gName i) D s H := by
  obtain ⟨B, F, m, vs, ts, E, st, hw, k⟩ := q
  refine ⟨B, F, m, vs, ts, _, st, hw, fun t m1 ht v F1 H1 g1 st1 => ?_⟩
  obtain ⟨F2, g2, st2⟩ := st1.freeze
  obtain ⟨w, wr, e, st3⟩ := st2.set ht.1
  cases e
  exact k.nx _ ht.2 _ F2 H1 (g1.trans g2) (Kp.set hi) st3
theorem s_set (i : Nat) {x : Str} {pos' : Pos} (hN : X.N.Nodup) (hk : ¬ kp i) (he : PE X e (LE lk we)) (hi : X.N[i]? = some x := by rfl) (hx : Loc X.env.scope x := by first | exact Or.inl rfl | exact Or.inr rfl) (hs : swapsWith e (some (.Name x pos')) pos.line X.env = pure false := by rfl) (hf : X.fn x = true ∨ X.env.scope.names.lookup x = some .local := by first | exact .inl rfl | exact .inr rfl | assumption) :
    PS X (.Assign [.Name x pos'] e pos) (LS lk kp W (wSet i we)) := ps_mono (ps_set hN hi hx he hs hf) fun D s H q => l_set hk q
theorem s_setF (i : Nat) {x : Str} {pos' : Pos} (hN : X.N.Nodup) (hk : ¬ kp i) (he : PE X e (LE lk we)) (hi : X.N[i]? = some x := by rfl) (hx : Loc X.env.scope x := by first | exact Or.inl rfl | exact Or.inr rfl) (hs : swapsWith e (some (.Name x pos')) pos.line X.env = pure false := by rfl) (hf : X.fn x = true ∨ X.env.scope.names.lookup x = some .local := by first | exact .inl rfl | exact .inr rfl | assumption) :
    PS X (.Assign [.Name x pos'] e pos) (LS lk kp W (wSetF i we)) := ps_mono (ps_set hN hi hx he hs hf) fun D s H q => l_setF hk q
theorem s_ret (he : PE X e (LE lk we)) : PS X (.Return (some e) pos) (LS lk kp W (wRet we)) := ps_mono (ps_ret he) fun D s H q => by
  obtain ⟨B, F, m, vs, ts, E, st, hw, k⟩ := q
  exact ⟨B, F, m, vs, ts, _, st, hw, fun t m1 ht v F1 H1 g1 st1 => k.rt t m1 ht s v F1 H1 g1 Kp.refl st1⟩
theorem s_retN : PS X (.Return none pos) (LS lk kp W wRetN) := ps_mono ps_retN fun D s H q => by
  obtain ⟨B, F, m, vs, ts, E, st, hw, k⟩ := q
  exact k.rt _ m hw s .non F H (Gr.refl B F) Kp.refl (st.push fzn)
theorem s_drop (he : PE X e (LE lk we)) (hs : swapsWith e none pos.line X.env = pure false := by rfl) : PS X (.Expr e pos) (LS lk kp W (wDrop we)) := ps_mono (ps_expr he hs) fun D s H q => by
  obtain ⟨B, F, m, vs, ts, E, st, hw, k⟩ := q
  refine ⟨B, F, m, vs, ts, _, st, hw, fun t m1 ht v F1 H1 g1 st1 => ?_⟩
  obtain ⟨w, wr, e, st2⟩ := st1.drop
  cases e
  exact k.nx m1 ht s F1 H1 g1 Kp.refl st2
theorem s_if {c : Expr} {xs ys : List Stmt} {wt : WT} (hc : PT X c (LT lk wt)) (ha : PSs X xs (LS lk kp W a)) (hb : PSs X ys (LS lk kp W b)) : PS X (.If c xs ys pos) (LS lk kp W (wIfS wt a b)) := ps_mono (ps_if hc ha hb) fun D s H q => by
  obtain ⟨B, F, m, vs, ts, E, st, hw, k⟩ := q
  refine ⟨B, F, m, vs, ts, _, st, hw, fun c m1 hx F1 H1 g1 st1 => ?_⟩
  cases c with
  | true =>
    rw [if_pos rfl]
    exact ⟨B, F1, m1, vs, ts, E, st1, hx, k.mv g1 Kp.refl⟩
  | false =>
    rw [if_neg Bool.false_ne_true]
    exact ⟨B, F1, m1, vs, ts, E, st1, hx, k.mv g1 Kp.refl⟩
theorem l_while {wt : WT} {wb : WS} {D : Ends} {s : L2.St} {H : Hp} (q : LS lk kp W (wWhile wt wb) D s H) : tWhile (LT lk wt) (LS lk kp W wb) D s H := by
  obtain ⟨B, F, m, vs, ts, E, st, ⟨Wi, ⟨n, hn⟩, turn⟩, k⟩ := q
  refine ⟨fun n s' H' => ∃ F' m', Gr B F F' ∧ Kp kp s s' ∧ St lk B F' H' s' m' vs ts ∧ Wi n m', ⟨n, F, m, Gr.refl B F, Kp.refl, st, hn⟩, ?_⟩
  rintro n s1 H1 ⟨F1, m1, g1, k1, st1, w1⟩
  refine ⟨B, F1, m1, vs, ts, _, st1, turn n m1 w1, fun c m2 hx F2 H2 g2 st2 => ?_⟩
  cases c with
  | true =>
    rw [if_pos rfl]
    refine ⟨fun s' H' => ∃ F' m', Gr B F F' ∧ Kp kp s s' ∧ St lk B F' H' s' m' vs ts ∧ ∃ n', n' < n ∧ Wi n' m', fun s' H' ⟨F', m', g', k', st', n', hn', w'⟩ => ⟨n', hn', F', m', g', k', st', w'⟩, ?_⟩
    have kk := (k.mv g1 k1).mv g2 Kp.refl
    refine ⟨B, F2, m2, vs, ts, _, st2, hx, ?_, kk.rt, kk.nx, ?_, kk.xe⟩
    · exact fun m3 h3 s3 F3 H3 g3 k3 st3 => ⟨F3, m3, (g1.trans g2).trans g3, k1.trans k3, st3, h3⟩
    · exact fun m3 h3 s3 F3 H3 g3 k3 st3 => ⟨F3, m3, (g1.trans g2).trans g3, k1.trans k3, st3, h3⟩
  | false =>
    rw [if_neg Bool.false_ne_true]
    exact k.nx m2 hx s1 F2 H2 (g1.trans g2) k1 st2
theorem s_while {c : Expr} {body : List Stmt} {wt : WT} {wb : WS} (hp : PassesOwn (model X.prog X.w) X.A X.env X.xe) (hc : PT X c (LT lk wt)) (hb : PSs X body (LS lk kp W wb)) : PS X (.While c body [] pos) (LS lk kp W (wWhile wt wb)) := ps_mono (ps_while hp hc hb) fun D s H q => l_while q
/-- the loop over a source, from the iterator on -/
theorem for_run {J : It} {gt : TG} {g : WG} {wb : WS} {tb : TS} {ds : List D} {G : Hp → Prop} {B F : Hp} {m : Tau} {vs : List V} {ts : List T} {E : WEnds} {D : Ends} {s : L2.St} {H : Hp}
    (sr : Src J lk B ds G) (sg : SG gt kp g) (ht : ∀ D s H, LS lk kp W wb D s H → tb D s H) (hG : G F) (st : St lk B F H s m vs ts) (hw : wForL g wb ds m E) (k : EndsOk lk kp W B F s vs ts E D) :
    ∃ W : Nat → Nat → L2.St → Hp → Prop, (∃ m, W 0 m s H) ∧ ∀ i m σ H, W i m σ H →
      (J.stop i H ∧ D.nx σ H) ∨ (J.go i H ∧ ∃ N : L2.St → Hp → Prop, (∀ σ' H', N σ' H' → ∃ m', m' < m ∧ W (i + 1) m' σ' H') ∧ ∀ x H', J.yld i H x H' → gt x σ H' fun σ2 H2 => tb { D with nx := N, ct := N, bk := D.nx } σ2 H2) := by
  refine ⟨fun i n s' H' => n = ds.length - i ∧ i ≤ ds.length ∧ ∃ F' m', Gr B F F' ∧ Kp kp s s' ∧ St lk B F' H' s' m' vs ts ∧ wForL g wb (ds.drop i) m' E,
    ⟨ds.length, by simp, Nat.zero_le _, F, m, Gr.refl B F, Kp.refl, st, by simpa using hw⟩, ?_⟩
  rintro i n s1 H1 ⟨rfl, hi, F1, m1, g1, k1, st1, hw1⟩
  have hG1 := sr.mono _ _ hG g1.same
  by_cases hlt : i < ds.length
  · refine .inr ⟨sr.go _ _ _ _ _ _ i hG1 st1 hlt, fun s' H' => ∃ F' m', Gr B F F' ∧ Kp kp s s' ∧ St lk B F' H' s' m' vs ts ∧ wForL g wb (ds.drop (i + 1)) m' E, fun s' H' p => ⟨ds.length - (i + 1), by omega, rfl, hlt, p⟩, fun x H' y => ?_⟩
    have ed : ds[i]? = some ds[i] := List.getElem?_eq_getElem hlt
    obtain ⟨F2, g2, st2, kx⟩ := sr.yld _ _ _ _ _ _ i ds[i] x H' hG1 st1 ed y
    rw [List.drop_eq_getElem_cons hlt] at hw1
    unfold wForL at hw1
    refine sg lk B F2 H' _ _ _ _ ds[i] x _ _ st2 kx hw1 fun m3 hm3 s3 F3 H3 g3 hl3 kp3 st3 => ?_
    have k3 : Kp kp s s3 := k1.trans ⟨hl3, kp3⟩
    have g13 := (g1.trans g2).trans g3
    have kk := k.mv g13 k3
    refine ht _ _ _ ⟨B, F3, m3, vs, ts, _, st3, hm3, ?_, kk.rt, kk.nx, ?_, kk.xe⟩
    · exact fun m4 h4 s4 F4 H4 g4 k4 st4 => ⟨F4, m4, g13.trans g4, k3.trans k4, st4, h4⟩
    · exact fun m4 h4 s4 F4 H4 g4 k4 st4 => ⟨F4, m4, g13.trans g4, k3.trans k4, st4, h4⟩
  · have hi' : i = ds.length := by omega
    subst hi'
    refine .inl ⟨sr.stop _ _ _ _ _ _ _ hG1 st1 (Nat.le_refl _), ?_⟩
    rw [List.drop_length] at hw1
    unfold wForL at hw1
    exact k.nx m1 hw1 s1 F1 H1 g1 k1 st1
theorem l_for {wi : WI} {gt : TG} {g : WG} {wb : WS} (sg : SG gt kp g) {D : Ends} {s : L2.St} {H : Hp} (q : LS lk kp W (wFor wi g wb) D s H) : tFor (LI lk wi) gt (LS lk kp W wb) D s H := by
  obtain ⟨B, F, m, vs, ts, E, st, hw, k⟩ := q
  exact ⟨B, F, m, vs, ts, _, st, hw, fun ds m1 hx J G F1 H1 g1 st1 sr hG => for_run sr sg (fun _ _ _ q => q) hG st1 hx (k.mv g1 Kp.refl)⟩
theorem s_for {tg iter : Expr} {body : List Stmt} {wi : WI} {gt : TG} {g : WG} {wb : WS} (hp : PassesOwn (model X.prog X.w) X.A X.env X.xe) (hc : X.calm = true) (hi : PI X tg iter (LI lk wi)) (hg : PG X tg gt) (sg : SG gt kp g) (hb : PSs X body (LS lk kp W wb))
    (hs : ∀ x, foldedSetIterable iter X.env x = pure x := by intro _; rfl) : PS X (.For tg iter body [] pos) (LS lk kp W (wFor wi g wb)) := ps_mono (ps_for hp hc hi hg hb hs) fun D s H q => l_for sg q
theorem s_asg {tg e : Expr} {gt : TG} {g : WG} (he : PE X e (LE lk we)) (hg : PG X tg gt) (sg : SG gt kp g) (hs : swapsWithSole [tg] e pos.line X.env = pure false := by rfl) (hw : swappedStores [tg] e X.env = pure none := by rfl)
    (h1 : (assignEach [tg] X.env).map (·.2) = [assign tg X.env] := by rfl) : PS X (.Assign [tg] e pos) (LS lk kp W (wAsg we g)) := ps_mono (ps_asg he hg hs hw h1) fun D s H q => by
  obtain ⟨B, F, m, vs, ts, E, st, hw, k⟩ := q
  refine ⟨B, F, m, vs, ts, _, st, hw, fun t m1 ht v F1 H1 g1 st1 => ?_⟩
  obtain ⟨F2, g2, st2⟩ := st1.freeze
  obtain ⟨hd, st3⟩ := st2.tfz
  exact sg lk B F2 H1 s m1 vs ts t.er v _ _ st3 hd ht fun m2 h2 s2 F3 H3 g3 hl hk st4 => k.nx m2 h2 s2 F3 H3 ((g1.trans g2).trans g3) ⟨hl, hk⟩ st4
theorem s_par (i j : Nat) {x y : Str} {a b : Expr} {wa : WA} {px py pt : Pos} {kt k2 pt2} (hc : X.calm = true) (hN : X.N.Nodup) (ki : ¬ kp i) (kj : ¬ kp j) (ha : PA X [a, b] (LA lk wa)) (hi : X.N[i]? = some x := by rfl) (hj : X.N[j]? = some y := by rfl) (hij : i ≠ j := by decide)
    (hx : X.env.scope.names.lookup x = some .local := by rfl) (hy : X.env.scope.names.lookup y = some .local := by rfl)
    (hw : swappedStores [.Tuple [.Name x px, .Name y py] kt pt] (.Tuple [a, b] k2 pt2) X.env = pure (some [x, y]) := by rfl)
    (hs : swapsWithSole [.Tuple [.Name x px, .Name y py] kt pt] (.Tuple [a, b] k2 pt2) pos.line X.env = pure false := by rfl) :
    PS X (.Assign [.Tuple [.Name x px, .Name y py] kt pt] (.Tuple [a, b] k2 pt2) pos) (LS lk kp W (wPar i j wa)) := ps_mono (ps_par hc hN hi hj hij hx hy ha hw hs) fun D s H q => by
  obtain ⟨B, F, m, vs, ts, E, st, hw, k⟩ := q
  refine ⟨B, F, m, vs, ts, _, st, hw, fun xs m1 hx us F1 H1 g1 hl st1 => ?_⟩
  split at hx
  · rename_i x y
    match us, hl with
    | [u, v], _ =>
      refine ⟨u, v, rfl, ?_⟩
      obtain ⟨w, wr, e, st2⟩ := St.set (t := x) st1 hx.1.1
      cases e
      obtain ⟨w, wr, e, st3⟩ := St.set (t := y) st2 (by rw [List.length_set]; exact hx.1.2)
      cases e
      exact k.nx _ hx.2 _ F1 H1 g1 ((Kp.set ki).trans (Kp.set kj)) st3
  · exact hx.elim
theorem s_par3 (i j l : Nat) {x y z : Str} {a b c : Expr} {wa : WA} {px py pz pt : Pos} {kt k2 pt2} (hc : X.calm = true) (hN : X.N.Nodup) (ki : ¬ kp i) (kj : ¬ kp j) (kl : ¬ kp l) (ha : PA X [a, b, c] (LA lk wa)) (hp : PS X (.Assign [.Tuple [.Name x px, .Name y py, .Name z pz] kt pt] (.Tuple [a, b, c] k2 pt2) pos) (tPar3 i j l (LA lk wa))) :
    PS X (.Assign [.Tuple [.Name x px, .Name y py, .Name z pz] kt pt] (.Tuple [a, b, c] k2 pt2) pos) (LS lk kp W (wPar3 i j l wa)) := ps_mono hp fun D s H q => by
  obtain ⟨B, F, m, vs, ts, E, st, hw, k⟩ := q
  refine ⟨B, F, m, vs, ts, _, st, hw, fun xs m1 hx us F1 H1 g1 hl st1 => ?_⟩
  split at hx
  · rename_i x y z
    match us, hl with
    | [u, v, w], _ =>
      refine ⟨u, v, w, rfl, ?_⟩
      obtain ⟨w, wr, e, st2⟩ := St.set (t := x) st1 hx.1.1
      cases e
      obtain ⟨w, wr, e, st3⟩ := St.set (t := y) st2 (by rw [List.length_set]; exact hx.1.2.1)
      cases e
      obtain ⟨w, wr, e, st4⟩ := St.set (t := z) st3 (by rw [List.length_set, List.length_set]; exact hx.1.2.2)
      cases e
      exact k.nx _ hx.2 _ F1 H1 g1 (((Kp.set ki).trans (Kp.set kj)).trans (Kp.set kl)) st4
  · exact hx.elim
end

/-! ### what a slot holds is changed where it stands -/
section
variable {lk : Lk} {B F H : Hp} {s : L2.St} {m : Tau} {us vs : List V} {xs ts : List T} {t t' : T} {i : Nat} {a : Addr} {o : HO}
theorem St.mut (st : St lk B F H s m (us ++ vs) (xs ++ ts)) (hl : us.length = xs.length) (e : m[i]? = some (some t)) (es : s[i]? = some (some (.ref a)))
    (mk : ∀ f g : Fp, Rp F H t (.ref a) f → RpL F H xs us g → (∀ b, f b → g b → False) → f a ∧ ∃ f' : Fp, (∀ b, f' b → f b ∨ g b) ∧ Rp F (upd H a o) t' (.ref a) f') : St lk B F (upd H a o) s (m.set i (some t')) vs ts := by
  obtain ⟨f, g, h1, h2, h3, h4⟩ := st.ex
  obtain ⟨v, f1, f2, e1, k1, k2, k3, rfl⟩ := h1.out e
  rw [es] at e1
  cases e1
  obtain ⟨vs1, ws1, g1, g2, e2, j1, j2, j3, rfl⟩ := RpL.split h2
  obtain ⟨rfl, rfl⟩ := append_inj_len e2 (hl.trans j1.length)
  obtain ⟨fa, f', hf, r'⟩ := mk f1 g1 k1 j1 fun b p q => h3 b (.inl p) (.inl q)
  have own := h4 a (.inl (.inl fa))
  have hi : i < m.length := (List.getElem?_eq_some_iff.mp e).1
  have nf2 : ¬ f2 a := fun z => k3 a fa z
  have ng2 : ¬ g2 a := fun z => h3 a (.inl fa) (.inr z)
  have p2 : RpS F (upd H a o) s (m.set i none) f2 := k2.frame (Same.refl F) fun b z => upd_ne fun e => nf2 (e ▸ z)
  have p3 := RpS.put r' (m := m) p2 hi fun b p q => by
    rcases hf b p with z | z
    · exact k3 b z q
    · exact h3 b (.inr q) (.inl z)
  rw [set_same es] at p3
  refine ⟨⟨_, g2, p3, j2.frame (Same.refl F) fun b z => upd_ne fun e => ng2 (e ▸ z), fun b p q => ?_, fun b p => ?_⟩, fun b o' q => ?_, ⟨fun b o' q => ?_, st.bk.own⟩⟩
  · rcases p with p | p
    · rcases hf b p with z | z
      · exact h3 b (.inl z) (.inr q)
      · exact j3 b z q
    · exact h3 b (.inr p) (.inr q)
  · rcases p with (p | p) | p
    · rcases hf b p with z | z
      · exact h4 b (.inl (.inl z))
      · exact h4 b (.inr (.inl z))
    · exact h4 b (.inl (.inr p))
    · exact h4 b (.inr (.inr p))
  · have ne : b ≠ a := fun z => by
      rw [z, own.1] at q
      cases q
    rw [upd_ne ne]
    exact st.fr b o' q
  · have ne : b ≠ a := fun z => by
      rw [z, own.2] at q
      cases q
    rw [upd_ne ne]
    exact st.bk.sub b o' q
end
theorem disj_ne {f g : Fp} {a : Addr} (h : ∀ b, f b → g b → False) (fa : f a) : ∀ b, g b → b ≠ a := fun b z e => h a fa (e ▸ z)
theorem keepF {g : Fp} {a : Addr} {H : Hp} {o : HO} (h : ¬ g a) : ∀ b, g b → (upd H a o) b = H b := fun b z => upd_ne fun e => h (e ▸ z)
theorem RpL.one {F H : Hp} {t : T} {v : V} {f : Fp} (h : Rp F H t v f) : RpL F H [t] [v] f := by
  rw [RpL]
  exact ⟨v, [], f, fun _ => False, rfl, h, by simp only [RpL]; exact ⟨trivial, trivial⟩, fun _ _ z => z, by funext b; simp⟩
theorem RpL.ofOne {F H : Hp} {t : T} {v : V} {f : Fp} (h : RpL F H [t] [v] f) : Rp F H t v f := by
  rw [RpL] at h
  obtain ⟨v', vr, f1, f2, e, h1, h2, h3, rfl⟩ := h
  cases e
  simp only [RpL] at h2
  obtain ⟨_, rfl⟩ := h2
  have : (fun b => f1 b ∨ False) = f1 := by funext b; simp
  rw [this]
  exact h1
section
variable {lk : Lk} {B F H : Hp} {s : L2.St} {m : Tau} {vs : List V} {ts : List T} {t : T} {v : V} {i : Nat}
/-- append -/
theorem St.app {l : List T} (st : St lk B F H s m (v :: vs) (t :: ts)) (e : m[i]? = some (some (.ol l))) :
    ∃ a ws, s[i]? = some (some (.ref a)) ∧ H a = some (.lst ws) ∧ ws.length = l.length ∧ St lk B F (upd H a (.lst (ws ++ [v]))) s (m.set i (some (.ol (l ++ [t])))) vs ts := by
  obtain ⟨f, g, h1, h2, h3, h4⟩ := st.ex
  obtain ⟨v1, f1, f2, e1, k1, _⟩ := h1.out e
  simp only [Rp] at k1
  obtain ⟨a, ws, g0, rfl, i1, i2, _⟩ := k1
  refine ⟨a, ws, e1, i1, i2.length.symm, St.mut (us := [v]) (xs := [t]) st rfl e e1 fun f g r rl dj => ?_⟩
  simp only [Rp] at r
  obtain ⟨a', ws', g0', q, j1, j2, j3, rfl⟩ := r
  cases q
  rw [i1] at j1
  cases j1
  refine ⟨.inl rfl, fun b => b = a ∨ (g0' b ∨ g b), fun b z => ?_, ?_⟩
  · rcases z with z | z | z
    · exact .inl (.inl z)
    · exact .inl (.inr z)
    · exact .inr z
  · simp only [Rp]
    refine ⟨a, _, fun b => g0' b ∨ g b, rfl, upd_same, ?_, fun z => z.elim j3 fun z => dj a (.inl rfl) z, rfl⟩
    exact (j2.frame (Same.refl F) (keepF j3)).append (rl.frame (Same.refl F) fun b z => upd_ne (disj_ne dj (.inl rfl) b z)) fun b p q => dj b (.inr p) q
/-- list[j] = v -/
theorem St.lput {l : List T} {j : Nat} (st : St lk B F H s m (v :: vs) (t :: ts)) (e : m[i]? = some (some (.ol l))) (hj : j < l.length) :
    ∃ a ws, s[i]? = some (some (.ref a)) ∧ H a = some (.lst ws) ∧ ws.length = l.length ∧ St lk B F (upd H a (.lst (ws.set j v))) s (m.set i (some (.ol (l.set j t)))) vs ts := by
  obtain ⟨f, g, h1, h2, h3, h4⟩ := st.ex
  obtain ⟨v1, f1, f2, e1, k1, _⟩ := h1.out e
  simp only [Rp] at k1
  obtain ⟨a, ws, g0, rfl, i1, i2, _⟩ := k1
  refine ⟨a, ws, e1, i1, i2.length.symm, St.mut (us := [v]) (xs := [t]) st rfl e e1 fun f g r rl dj => ?_⟩
  simp only [Rp] at r
  obtain ⟨a', ws', g0', q, j1, j2, j3, rfl⟩ := r
  cases q
  rw [i1] at j1
  cases j1
  obtain ⟨v', fj, rr, q1, q2, q3, rfl, q5⟩ := j2.item (List.getElem?_eq_getElem hj)
  refine ⟨.inl rfl, fun b => b = a ∨ (g b ∨ rr b), fun b z => ?_, ?_⟩
  · rcases z with z | z | z
    · exact .inl (.inl z)
    · exact .inr z
    · exact .inl (.inr (.inr z))
  · simp only [Rp]
    refine ⟨a, _, fun b => g b ∨ rr b, rfl, upd_same, ?_, fun z => z.elim (fun z => dj a (.inl rfl) z) fun z => j3 (.inr z), rfl⟩
    exact q5 F _ t v g (Same.refl F) (fun b z => upd_ne fun q => j3 (.inr (q ▸ z))) ((RpL.ofOne rl).frame (Same.refl F) fun b z => upd_ne (disj_ne dj (.inl rfl) b z)) fun b p q => dj b (.inr (.inr q)) p
theorem RpL.putL {F H : Hp} {ks : List Key} {l : List T} {ws : List V} {g : Fp} {k : Key} {t : T} {v : V} {f : Fp} (h : RpL F H l ws g) (hl : ks.length = ws.length) (r : Rp F H t v f) (dj : ∀ b, g b → f b → False) :
    ∃ g' : Fp, RpL F H (VL.putL ks l k t).2 (VL.putL ks ws k v).2 g' ∧ ∀ b, g' b → g b ∨ f b := by
  unfold VL.putL
  by_cases hm : memK ks k = true
  · rw [if_pos hm, if_pos hm]
    have hj : (ks.findIdx fun q => decide (q = k)) < l.length := by
      rw [h.length, ← hl]
      exact List.findIdx_lt_length_of_exists (by simpa using memK_iff.mp hm)
    obtain ⟨v', fj, rr, q1, q2, q3, rfl, q5⟩ := h.item (List.getElem?_eq_getElem hj)
    exact ⟨_, q5 F H t v f (Same.refl F) (fun _ _ => rfl) r fun b p q => dj b (.inr q) p, fun b z => z.elim .inr fun z => .inl (.inr z)⟩
  · rw [if_neg hm, if_neg hm]
    exact ⟨_, h.append (RpL.one r) dj, fun b z => z⟩
/-- dict[k] = v -/
theorem St.dput {ks : List Key} {l : List T} {k : Key} (st : St lk B F H s m (v :: vs) (t :: ts)) (e : m[i]? = some (some (.od ks l))) :
    ∃ a ws, s[i]? = some (some (.ref a)) ∧ H a = some (.dK (ks.zip ws)) ∧ (ws.length = l.length ∧ ks.length = ws.length) ∧ St lk B F (upd H a (.dK (putK (ks.zip ws) k v))) s (m.set i (some (.od (putL ks l k t).1 (putL ks l k t).2))) vs ts := by
  obtain ⟨f, g, h1, h2, h3, h4⟩ := st.ex
  obtain ⟨v1, f1, f2, e1, k1, _⟩ := h1.out e
  simp only [Rp] at k1
  obtain ⟨a, ws, g0, rfl, i1, ⟨il, ind⟩, i2, _⟩ := k1
  refine ⟨a, ws, e1, i1, ⟨i2.length.symm, il⟩, St.mut (us := [v]) (xs := [t]) st rfl e e1 fun f g r rl dj => ?_⟩
  simp only [Rp] at r
  obtain ⟨a', ws', g0', q, j1, ⟨jl, jnd⟩, j2, j3, rfl⟩ := r
  cases q
  have we : ws' = ws := by
    rw [i1] at j1
    have hz := Option.some.inj j1
    have hz : ks.zip ws = ks.zip ws' := by injection hz
    have := congrArg (fun z : List (Key × V) => z.map (fun q => q.2)) hz
    rw [List.map_snd_zip (by omega), List.map_snd_zip (by omega)] at this
    exact this.symm
  subst we
  have ra : Rp F (upd H a (.dK (putK (ks.zip ws') k v))) t v g := (RpL.ofOne rl).frame (Same.refl F) fun b z => upd_ne (disj_ne dj (.inl rfl) b z)
  have rb : RpL F (upd H a (.dK (putK (ks.zip ws') k v))) l ws' g0' := j2.frame (Same.refl F) (keepF j3)
  obtain ⟨g', p1, p2⟩ := RpL.putL (k := k) rb il ra fun b p q => dj b (.inr p) q
  refine ⟨.inl rfl, fun b => b = a ∨ g' b, fun b z => ?_, ?_⟩
  · rcases z with z | z
    · exact .inl (.inl z)
    · exact (p2 b z).imp .inr id
  · simp only [Rp]
    refine ⟨a, (putL ks ws' k v).2, g', rfl, ?_, ⟨?_, putL_nd ind⟩, p1, fun z => ?_, rfl⟩
    · rw [upd_same, putK_zip il ind, putL_ks (v := t) (vs := l)]
    · rw [putL_ks (w := v) (ws := ws')]
      exact putL_len il
    · rcases p2 a z with z | z
      · exact j3 z
      · exact dj a (.inl rfl) z
end
/-- name.append(e) -/
def wApp (i : Nat) (we : WE) : WS := fun m E => match look m i with
  | some (.ol _) => we m fun t m1 => match look m1 i with
    | some (.ol l) => l.length < sizeLine ∧ E.nx (m1.set i (some (.ol (l ++ [t]))))
    | _ => False
  | _ => False
/-- name[k] = e -/
def wPut (i : Nat) (we wk : WE) : WS := fun m E => we m fun t m1 => (look m1 i).isSome = true ∧ wk m1 fun k m2 => match look m2 i, k with
  | some (.ol l), .fz (.int j) => match ixN l.length j with
    | some n => E.nx (m2.set i (some (.ol (l.set n t))))
    | none => False
  | some (.od ks l), .fz d => match keyD d with
    | some k => ks.length < sizeLine ∧ E.nx (m2.set i (some (.od (putL ks l k t).1 (putL ks l k t).2)))
    | none => False
  | _, _ => False
theorem ixN_lt {n : Nat} {i : Int} {j : Nat} (h : ixN n i = some j) : j < n := (ixN_seq h).2.1
section
variable {X : Cx} {lk : Lk} {kp : Nat → Prop} {W : WX} {we wk : WE} {x : Str} {p1 apos cpos pos pos' : Pos} {e ek : Expr}
theorem l_app {i : Nat} {D : Ends} {s : L2.St} {H : Hp} (q : LS lk kp W (wApp i we) D s H) : tDrop (tBM X.K "list" rAppend (tVar i) (tCons (LE lk we) tNil)) D s H := by
  obtain ⟨B, F, m, vs, ts, E, st, hw, k⟩ := q
  unfold wApp at hw
  split at hw
  · rename_i l0 e0
    obtain ⟨v0, f0, ev, r0⟩ := st.lookV e0
    simp only [Rp] at r0
    obtain ⟨a0, ws0, _, rfl, j0, _⟩ := r0
    refine ⟨.ref a0, ev, .inl ⟨rfl, ws0, SqL.of j0⟩, B, F, m, vs, ts, _, st, hw, fun t m1 ht v F1 H1 g1 st1 => ?_⟩
    split at ht
    · rename_i l e1
      obtain ⟨a, ws, e2, e3, e4, st2⟩ := st1.app (look_some e1)
      rw [ev] at e2
      cases e2
      exact ⟨a0, ws, v, rfl, rfl, e3, by rw [e4]; exact ht.1, k.nx _ ht.2 s F1 _ g1 Kp.refl st2⟩
    · exact ht.elim
  · exact hw.elim
theorem s_app (i : Nat) (hn : PE X (.Name x p1) (tVar i)) (he : PE X e (LE lk we)) (hsw : swapsWith (.Call (.Attribute (.Name x p1) "append" apos) [e] [] cpos) none pos.line X.env = pure false := by rfl)
    (hbase : attributeBase (.Name x p1) "append" X.env (eval (.Name x p1) X.env) = eval (.Name x p1) X.env := by rfl)
    (hfew : ((backTo cpos (starEach [e] X.env)).all (fun x => !x.1) && (backToKw cpos (keywordEach [] X.env)).all (fun x => x.1.isSome)
      && decide (([e] : List Expr).length + ([] : List Keyword).length + (if ([] : List Keyword).isEmpty then 0 else 1) < 30)) = true := by rfl)
    (hline : (apos.endLine == cpos.line) = true := by rfl) (hs : starEach [e] X.env = (false, eval e X.env) :: starEach [] X.env := by rfl) (hplain : (backTo cpos (starEach [] X.env)).any (·.1) = false := by rfl) :
    PS X (.Expr (.Call (.Attribute (.Name x p1) "append" apos) [e] [] cpos) pos) (LS lk kp W (wApp i we)) :=
  ps_mono (ps_expr (pe_bm F.plainAttrs_list F.slot_list_append F.type_list_append mt_append hn (pa_cons he pa_nil hs) hbase hfew hline hs hplain) hsw) fun D s H q => l_app q
/-- o[i] = v, a list or a dict -/
def rSetA : TSet := fun o i v H Q => rSetL o i v H Q ∨ rSetD o i v H Q
theorem set_any (hu : X.A.units + 1 < cLine) : PSet X rSetA := by
  intro pins s σ H o i v ov iv u Q I ro ri rv h
  rcases h with h | h
  · exact set_list pins s σ H o i v ov iv u Q I ro ri rv h
  · exact set_dict hu pins s σ H o i v ov iv u Q I ro ri rv h
theorem l_put {i : Nat} {D : Ends} {s : L2.St} {H : Hp} (q : LS lk kp W (wPut i we wk) D s H) : tAsg (LE lk we) (gSub (tVar i) (LE lk wk) rSetA) D s H := by
  obtain ⟨B, F, m, vs, ts, E, st, hw, k⟩ := q
  refine ⟨B, F, m, vs, ts, _, st, hw, fun t m1 ht v F1 H1 g1 st1 => ?_⟩
  obtain ⟨e0, ht⟩ := ht
  obtain ⟨t0, e0⟩ := Option.isSome_iff_exists.mp e0
  obtain ⟨v0, f0, ev, r0⟩ := st1.lookV e0
  refine ⟨v0, ev, B, F1, m1, _, _, _, st1, ht, fun y m2 hy u F2 H2 g2 st2 => ?_⟩
  split at hy
  · rename_i l j el
    split at hy
    · rename_i n en
      obtain ⟨rfl, st3⟩ := st2.tint
      obtain ⟨a, ws, e2, e3, e4, st4⟩ := st3.lput (look_some el) (ixN_lt en)
      rw [ev] at e2
      cases e2
      exact .inl ⟨a, ws, j, n, rfl, rfl, e3, by rw [e4]; exact en, k.nx _ hy s F2 _ (g1.trans g2) Kp.refl st4⟩
    · exact hy.elim
  · rename_i ks l d el
    split at hy
    · rename_i kk ek
      obtain ⟨hd, st3⟩ := st2.tfz
      obtain ⟨a, ws, e2, e3, ⟨e4, e5⟩, st4⟩ := st3.dput (k := kk) (look_some el)
      rw [ev] at e2
      cases e2
      rw [keyD_ok hd ek]
      refine .inr ⟨a, _, rfl, DPut.k e3 ?_, k.nx _ hy.2 s F2 _ (g1.trans g2) Kp.refl st4⟩
      rw [List.length_zip, ← e5, Nat.min_self]
      exact hy.1
    · exact hy.elim
  · exact hy.elim
theorem s_put (i : Nat) {tpos : Pos} (hu : X.A.units + 1 < cLine) (hn : PE X (.Name x p1) (tVar i)) (hk : PE X ek (LE lk wk)) (he : PE X e (LE lk we))
    (ha : ∀ v, assign (.Subscript (.Name x p1) ek tpos) X.env v = (do
      let ov ← holding [v] (eval (.Name x p1) X.env)
      let iv ← holding [v, ov] (eval ek X.env)
      standAt tpos
      holding [v, ov, iv] (setItem ov iv v)
      release [v, ov, iv] []) := by intro _; rfl)
    (hs : swapsWithSole [.Subscript (.Name x p1) ek tpos] e pos.line X.env = pure false := by rfl) (hw : swappedStores [.Subscript (.Name x p1) ek tpos] e X.env = pure none := by rfl)
    (h1 : (assignEach [.Subscript (.Name x p1) ek tpos] X.env).map (·.2) = [assign (.Subscript (.Name x p1) ek tpos) X.env] := by rfl) :
    PS X (.Assign [.Subscript (.Name x p1) ek tpos] e pos) (LS lk kp W (wPut i we wk)) := ps_mono (ps_asg he (pg_sub hn hk (set_any hu) ha) hs hw h1) fun D s H q => l_put q
end
end VL
set_option Elab.async false
set_option linter.all false
set_option maxRecDepth 100000
set_option maxHeartbeats 4000000
/-! VL9: dicts that are walked (locked), calls of defs. -/
namespace VL
open PySem PySem.Spec PyProof.Rows L2

/-! ### locks -/
section
variable {lk : Lk} {B F H F' H' : Hp} {s s' : L2.St} {m m' : Tau} {vs vs' : List V} {ts ts' : List T} {d0 : Addr} {od : Obj} {kvs : List (Key × V)}
theorem St.lock (st : St lk B F H s m vs ts) (hF : F d0 = some (.dK kvs)) (hH : H d0 = some (.dK kvs)) : St (fun a => lk a ∨ a = d0) (upd B d0 (.frz od (.dK kvs))) F (upd H d0 (.frz od (.dK kvs))) s m vs ts := by
  obtain ⟨f, g, h1, h2, h3, h4⟩ := st.ex
  have ne : ∀ a, f a ∨ g a → a ≠ d0 := fun a p z => by
    have := (h4 a p).1
    rw [z, hF] at this
    cases this
  refine ⟨⟨f, g, h1.frame (Same.refl F) fun a p => upd_ne (ne a (.inl p)), h2.frame (Same.refl F) fun a p => upd_ne (ne a (.inr p)), h3, fun a p => ⟨(h4 a p).1, by rw [upd_ne (ne a p)]; exact (h4 a p).2⟩⟩, fun a o q => ?_, fun a o q => ?_, fun a q => ?_⟩
  · by_cases e : a = d0
    · subst e
      rw [hF] at q
      cases q
      exact .inr ⟨.inr rfl, od, kvs, rfl, upd_same⟩
    · rw [upd_ne e]
      exact (st.fr a o q).imp id fun ⟨z, r⟩ => ⟨.inl z, r⟩
  · by_cases e : a = d0
    · subst e
      rw [upd_same] at q ⊢
      exact .inl q
    · rw [upd_ne e] at q ⊢
      exact (st.bk.sub a o q).imp id fun ⟨z, r⟩ => ⟨.inl z, r⟩
  · by_cases e : a = d0
    · subst e
      exact ⟨_, _, upd_same⟩
    · rw [upd_ne e]
      exact st.bk.own a (q.resolve_right e)
theorem St.unlock (st : St lk B F H s m vs ts) (hF : F d0 = some (.dK kvs)) (hH : H d0 = some (.dK kvs)) (g : Gr (upd B d0 (.frz od (.dK kvs))) F F')
    (st' : St (fun a => lk a ∨ a = d0) (upd B d0 (.frz od (.dK kvs))) F' H' s' m' vs' ts') : H' d0 = some (.frz od (.dK kvs)) ∧ Gr B F F' ∧ St lk B F' (upd H' d0 (.dK kvs)) s' m' vs' ts' := by
  have hF' : F' d0 = some (.dK kvs) := g.same _ _ hF
  obtain ⟨f, g', h1, h2, h3, h4⟩ := st'.ex
  have ne : ∀ a, f a ∨ g' a → a ≠ d0 := fun a p z => by
    have := (h4 a p).1
    rw [z, hF'] at this
    cases this
  refine ⟨st'.bkf upd_same, ⟨g.same, fun a o q => ?_⟩, ⟨⟨f, g', h1.frame (Same.refl F') fun a p => upd_ne (ne a (.inl p)), h2.frame (Same.refl F') fun a p => upd_ne (ne a (.inr p)), h3, fun a p => ⟨(h4 a p).1, ?_⟩⟩, fun a o q => ?_, fun a o q => ?_, st.bk.own⟩⟩
  · by_cases e : a = d0
    · subst e
      rw [hF'] at q
      cases q
      exact .inl hF
    · have := g.new a o q
      rw [upd_ne e] at this
      exact this
  · have := (h4 a p).2
    rw [upd_ne (ne a p)] at this
    exact this
  · by_cases e : a = d0
    · subst e
      rw [hF'] at q
      cases q
      exact .inl upd_same
    · rw [upd_ne e]
      exact (st'.fr a o q).imp id fun ⟨z, r⟩ => ⟨z.resolve_right e, r⟩
  · by_cases e : a = d0
    · subst e
      rcases st.bk.sub a o q with z | ⟨_, _, _, _, z⟩
      · rw [hH] at z
        cases z
        exact .inl upd_same
      · rw [hH] at z
        cases z
    · rw [upd_ne e]
      have := st'.bk.sub a o (by rw [upd_ne e]; exact q)
      exact this.imp id fun ⟨z, r⟩ => ⟨z.resolve_right e, r⟩
/-- a dict that is locked already -/
theorem St.locked {ob : Obj} (st : St lk B F H s m vs ts) (hF : F d0 = some (.dK kvs)) (hH : H d0 = some (.frz ob (.dK kvs))) : B d0 = some (.frz ob (.dK kvs)) := by
  rcases st.fr d0 _ hF with z | ⟨z, _⟩
  · rw [hH] at z
    cases z
  · obtain ⟨ob', o', e⟩ := st.bk.own d0 z
    have := st.bkf e
    rw [hH] at this
    cases this
    exact e
end

/-! ### what is read without a change -/
def Pth (te : TE) (p : Tau → Option D) : Prop := ∀ (lk : Lk) (B F H : Hp) (s : L2.St) (m : Tau) (vs : List V) (ts : List T) (d : D), St lk B F H s m vs ts → p m = some d →
  ∃ v, Fz F d v ∧ ∀ (lk' : Lk) (B' H' : Hp) (vs' : List V) (ts' : List T), St lk' B' F H' s m vs' ts' → ∀ Q : VK, Q v H' → te s H' Q
def pVar (i : Nat) : Tau → Option D := fun m => match m[i]? with
  | some (some (.fz d)) => some d
  | _ => none
def pIx (pa pb : Tau → Option D) : Tau → Option D := fun m => match pa m, pb m with
  | some (.lst l), some (.int i) => atI l i
  | some (.tup l), some (.int i) => atI l i
  | _, _ => none
theorem pth_var (i : Nat) : Pth (tVar i) (pVar i) := by
  intro lk B F H s m vs ts d st e
  unfold pVar at e
  split at e
  · rename_i d' e'
    cases e
    obtain ⟨v, e1, e2⟩ := st.var e'
    exact ⟨v, e2, fun lk' B' H' vs' ts' st' Q q => ⟨v, e1, q⟩⟩
  · cases e
theorem pth_ix {K : PySem.W.Frag} {ta tb : TE} {pa pb : Tau → Option D} (ha : Pth ta pa) (hb : Pth tb pb) : Pth (tOp (rIxA K) ta tb) (pIx pa pb) := by
  intro lk B F H s m vs ts d st e
  unfold pIx at e
  split at e
  · rename_i l i ea eb
    obtain ⟨v, hv, kv⟩ := ha lk B F H s m vs ts _ st ea
    obtain ⟨u, hu, ku⟩ := hb lk B F H s m vs ts _ st eb
    obtain ⟨p, ws, rfl, e1, e2, e3⟩ := st.lst hv
    rw [fz_int hu] at ku
    obtain ⟨w, e4, e5⟩ := atI_fz e3 e
    exact ⟨w, e5, fun lk' B' H' vs' ts' st' Q q => kv lk' B' H' vs' ts' st' _ (ku lk' B' H' vs' ts' st' _ (.inl (.inl ⟨p, ws, i, w, rfl, rfl, SqL.of (st'.frl e1), e4, q⟩)))⟩
  · rename_i l i ea eb
    obtain ⟨v, hv, kv⟩ := ha lk B F H s m vs ts _ st ea
    obtain ⟨u, hu, ku⟩ := hb lk B F H s m vs ts _ st eb
    obtain ⟨p, ws, rfl, e1, e2, e3⟩ := st.tup hv
    rw [fz_int hu] at ku
    obtain ⟨w, e4, e5⟩ := atI_fz e3 e
    exact ⟨w, e5, fun lk' B' H' vs' ts' st' Q q => kv lk' B' H' vs' ts' st' _ (ku lk' B' H' vs' ts' st' _ (.inl (.inr (.inl ⟨p, ws, i, w, rfl, rfl, SqT.of (st'.frt e1), e4, q⟩))))⟩
  · cases e

/-! ### readings for any lock -/
def LEU (w : WE) : TE := fun s H Q => ∃ lk, LE lk w s H Q
def LTU (w : WT) : TT := fun s H Q => ∃ lk, LT lk w s H Q
def LSU (kp : Nat → Prop) (W : WX) (w : WS) : TS := fun D s H => ∃ lk, LS lk kp W w D s H
section
variable {X : Cx} {e : Expr} {es : List Expr} {sts : List Stmt} {we : WE} {wt : WT} {ws : WS} {kp : Nat → Prop} {W : WX}
theorem pe_any (h : ∀ lk, PE X e (LE lk we)) : PE X e (LEU we) := ⟨fun pins s σ H Q I ⟨lk, q⟩ => (h lk).run pins s σ H Q I q⟩
theorem pts_any (h : ∀ lk, PTs X es (LT lk wt)) : PTs X es (LTU wt) := ⟨fun pins s σ H Q I ⟨lk, q⟩ => (h lk).run pins s σ H Q I q⟩
theorem pss_any (h : ∀ lk, PSs X sts (LS lk kp W ws)) : PSs X sts (LSU kp W ws) := ⟨fun pins s σ H D I ⟨lk, q⟩ => (h lk).run pins s σ H D I q⟩
theorem pe_or {t t' : TE} (h : PE X e t) (h' : PE X e t') : PE X e (fun s H Q => t s H Q ∨ t' s H Q) := ⟨fun pins s σ H Q I q => q.elim (h.run pins s σ H Q I) (h'.run pins s σ H Q I)⟩
theorem ps_or {st : Stmt} {t t' : TS} (h : PS X st t) (h' : PS X st t') : PS X st (fun D s H => t D s H ∨ t' D s H) := ⟨fun pins s σ H D I q => q.elim (h.run pins s σ H D I) (h'.run pins s σ H D I)⟩
end
/-- how a dict is walked -/
def DIt (te : TE) (ti : TI) (sel : List Key → List D → List D) : Prop := ∀ (lk : Lk) (B F H : Hp) (s : L2.St) (m : Tau) (vs : List V) (ts : List T) (a : Addr) (o : Obj) (ks : List Key) (ws : List V) (l : List D) (R : It → Hp → Prop),
  (∀ Q : VK, Q (.ref a) H → te s H Q) → St lk B F H s m vs ts → B a = some (.frz o (.dK (ks.zip ws))) → ks.length = ws.length → FzL F l ws → (∀ J G, Src J lk B (sel ks l) G → G F → R J H) → ti s H R
def selK (ks : List Key) (_ : List D) : List D := ks.map kD
def selV (_ : List Key) (l : List D) : List D := l
theorem di_keys {te : TE} : DIt te (iKeys te) selK := by
  intro lk B F H s m vs ts a o ks ws l R ht st hB hl hz k
  exact ht _ ⟨a, o, rfl, .inl ⟨_, st.bkf hB, k _ _ (src_keys a o hl hB) trivial⟩⟩
theorem di_vals {te : TE} : DIt te (iVals te) selV := by
  intro lk B F H s m vs ts a o ks ws l R ht st hB hl hz k
  exact ht _ ⟨a, o, _, rfl, st.bkf hB, k _ _ (src_vals a o hl hB) hz⟩
theorem di_items {te : TE} : DIt te (iItems te) pairD := by
  intro lk B F H s m vs ts a o ks ws l R ht st hB hl hz k
  exact ht _ ⟨a, o, _, rfl, st.bkf hB, k _ _ (src_items a o hl hB) hz⟩

/-! ### a list of a walked dict -/
def wLcK (p : Tau → Option D) (sel : List Key → List D → List D) (g : WG) (wt : WT) (we : WE) (own : List Nat) : WE := fun m Q => match p m with
  | some (.dct ks l) => wLcL g wt we own (sel ks l) [] (wipeT m own) fun acc m2 => Q (.ol acc) (backT m m2 own)
  | _ => False
theorem lcK_core {te : TE} {ti : TI} {sel : List Key → List D → List D} (hi : DIt te ti sel) {gt : TG} {g : WG} {wt : WT} {we : WE} {own : List Nat} (sg : SG gt (fun i => i ∉ own) g)
    {lk : Lk} {B F H : Hp} {s : L2.St} {m : Tau} {vs : List V} {ts : List T} {a : Addr} {o : Obj} {ks : List Key} {ws : List V} {l : List D} {P : List T → Tau → Prop} {Q : VK}
    (ht : ∀ Q : VK, Q (.ref a) H → te s H Q) (st : St lk B F H s m vs ts) (hB : B a = some (.frz o (.dK (ks.zip ws)))) (hl : ks.length = ws.length) (hz : FzL F l ws)
    (hw : wLcL g wt we own (sel ks l) [] (wipeT m own) P) (k : ∀ acc m2, P acc m2 → ∀ v F' H', Gr B F F' → St lk B F' H' s (backT m m2 own) (v :: vs) (.ol acc :: ts) → Q v H') :
    tLc ti gt (LTU wt) (LEU we) own s H Q := by
  refine hi lk B F H s m vs ts a o ks ws l _ ht st hB hl hz fun J G sr hG => ?_
  intro Dl hD
  have st2 : St lk B F (upd H Dl (.lst [])) s m (.ref Dl :: vs) (.ol [] :: ts) := st.own0 hD fun H' e' => by
    simp only [Rp]
    exact ⟨Dl, [], fun _ => False, rfl, e', by simp only [RpL]; exact ⟨trivial, trivial⟩, id, rfl⟩
  refine lc_run sr sg (fun _ _ _ q => ⟨lk, q⟩) (fun _ _ _ q => ⟨lk, q⟩) hG st2 hw fun acc m2 F2 H2 hP gr st3 => ?_
  refine k _ _ hP (.ref Dl) F2 H2 gr ?_
  have st4 : St lk B F2 H2 s (wipeT m2 own) (.ref Dl :: vs) (.ol acc :: ts) := st3.swap (by rw [L2.wipe_length]) fun i t e => by
    by_cases hi : i ∈ own
    · exact (wipeT_own hi t e).elim
    · exact (wipe_get hi).symm
  refine St.back (fun i d e => ?_) st4 own
  obtain ⟨v, e1, e2⟩ := st.var e
  exact ⟨v, e1, e2.mono gr.same⟩
theorem l_lcK {te : TE} {ti : TI} {p : Tau → Option D} {sel : List Key → List D → List D} (hi : DIt te ti sel) (hp : Pth te p) {gt : TG} {g : WG} {wt : WT} {we : WE} {own : List Nat} (sg : SG gt (fun i => i ∉ own) g) {lk : Lk} {s : L2.St} {H : Hp} {Q : VK} (q : LE lk (wLcK p sel g wt we own) s H Q) :
    tLockE (tLc ti gt (LTU wt) (LEU we) own) s H Q ∨ tLc ti gt (LTU wt) (LEU we) own s H Q := by
  obtain ⟨B, F, m, vs, ts, P, st, hw, k⟩ := q
  unfold wLcK at hw
  split at hw
  · rename_i ks l ep
    obtain ⟨v, hv, kv⟩ := hp lk B F H s m vs ts _ st ep
    obtain ⟨a, ws, rfl, hF, rd, ⟨hl, nd⟩, hz⟩ := st.dct hv
    rcases rd with hH | ⟨ob, hH⟩
    · refine .inl ⟨a, _, hH, trivial, fun od => ?_⟩
      have st1 := st.lock (od := od) hF hH
      refine lcK_core hi sg (fun Q q => kv _ _ _ _ _ st1 Q q) st1 upd_same hl hz hw fun acc m2 hP v F2 H2 gr st3 => ?_
      obtain ⟨e1, g2, st4⟩ := St.unlock st hF hH gr st3
      exact ⟨e1, k _ _ hP v F2 _ g2 st4⟩
    · exact .inr (lcK_core hi sg (fun Q q => kv _ _ _ _ _ st Q q) st (st.locked hF hH) hl hz hw fun acc m2 hP v F2 H2 gr st3 => k _ _ hP v F2 _ gr st3)
  · exact hw.elim
section
variable {X : Cx} {elt tg iter : Expr} {ifs : List Expr} {scope : Scope} {own : List (Str × Nat)} {pos spos : Pos} {ti : TI} {te : TE} {p : Tau → Option D} {sel : List Key → List D → List D} {g : WG} {wt : WT} {we : WE} {gt : TG} {lk : Lk}
theorem v_lcK (hc : X.calm = true) (hN : X.N.Nodup) (hi : PI X tg iter ti) (hd : DIt te ti sel) (hp : Pth te p) (ok : BlkOk X.N X.env.scope scope own) (sg : SG gt (fun i => i ∉ own.map (·.2)) g)
    (hg : ∀ (s : Shared) (H : Hp) (C : Addr) (cl : List (Str × Addr)) (fp : List Addr), PG (X.blk s H scope (compEnvC scope cl C X.env) fp) tg gt) (ht : ∀ lk (s : Shared) (H : Hp) (C : Addr) (cl : List (Str × Addr)) (fp : List Addr), PTs (X.blk s H scope (compEnvC scope cl C X.env) fp) ifs (LT lk wt))
    (he : ∀ lk (s : Shared) (H : Hp) (C : Addr) (cl : List (Str × Addr)) (fp : List Addr), PE (X.blk s H scope (compEnvC scope cl C X.env) fp) elt (LE lk we)) (hs : ∀ x, foldedSetIterable iter X.env x = pure x := by intro _; rfl) :
    PE X (.ListComp elt [⟨tg, iter, ifs, 0⟩] scope pos) (LE lk (wLcK p sel g wt we (own.map (·.2)))) := by
  have h := pe_lc (pos := pos) (te := LEU we) (tt := LTU wt) hc hN hi ok hg (fun s H C cl fp => pts_any fun lk => ht lk s H C cl fp) (fun s H C cl fp => pe_any fun lk => he lk s H C cl fp) hs
  exact pe_mono (pe_or (pe_lock h) h) fun s H Q q => l_lcK hd hp sg q
end

/-! ### for over a dict -/
def wForK (p : Tau → Option D) (sel : List Key → List D → List D) (g : WG) (wb : WS) : WS := fun m E => match p m with
  | some (.dct ks l) => wForL g wb (sel ks l) m ⟨E.nx, E.rt, E.bk, E.ct, fun _ _ => False⟩
  | _ => False
theorem l_forK {te : TE} {ti : TI} {p : Tau → Option D} {sel : List Key → List D → List D} (hi : DIt te ti sel) (hp : Pth te p) {gt : TG} {g : WG} {wb : WS} {kp : Nat → Prop} {W : WX} (sg : SG gt kp g) {lk : Lk} {D : Ends} {s : L2.St} {H : Hp} (q : LS lk kp W (wForK p sel g wb) D s H) :
    tLock (tFor ti gt (LSU kp W wb)) D s H ∨ tFor ti gt (LSU kp W wb) D s H := by
  obtain ⟨B, F, m, vs, ts, E, st, hw, k⟩ := q
  unfold wForK at hw
  split at hw
  · rename_i ks l ep
    obtain ⟨v, hv, kv⟩ := hp lk B F H s m vs ts _ st ep
    obtain ⟨a, ws, rfl, hF, rd, ⟨hl, nd⟩, hz⟩ := st.dct hv
    rcases rd with hH | ⟨ob, hH⟩
    · refine .inl ⟨a, _, hH, trivial, fun od => ?_⟩
      have st1 := st.lock (od := od) hF hH
      refine hi _ _ _ _ s m vs ts a od ks ws l _ (fun Q q => kv _ _ _ _ _ st1 Q q) st1 upd_same hl hz fun J G sr hG => ?_
      refine for_run sr sg (fun _ _ _ q => ⟨_, q⟩) hG st1 hw ⟨?_, ?_, ?_, ?_, fun _ _ z => z.elim⟩
      · intro m' hm s' F' H' g' k' st'
        obtain ⟨e1, g2, st4⟩ := St.unlock st hF hH g' st'
        exact ⟨e1, k.nx m' hm s' F' _ g2 k' st4⟩
      · intro t m' hm s' v F' H' g' k' st'
        obtain ⟨e1, g2, st4⟩ := St.unlock st hF hH g' st'
        exact ⟨e1, k.rt t m' hm s' v F' _ g2 k' st4⟩
      · intro m' hm s' F' H' g' k' st'
        obtain ⟨e1, g2, st4⟩ := St.unlock st hF hH g' st'
        exact ⟨e1, k.bk m' hm s' F' _ g2 k' st4⟩
      · intro m' hm s' F' H' g' k' st'
        obtain ⟨e1, g2, st4⟩ := St.unlock st hF hH g' st'
        exact ⟨e1, k.ct m' hm s' F' _ g2 k' st4⟩
    · refine .inr (hi _ _ _ _ s m vs ts a ob ks ws l _ (fun Q q => kv _ _ _ _ _ st Q q) st (st.locked hF hH) hl hz fun J G sr hG => ?_)
      exact for_run sr sg (fun _ _ _ q => ⟨_, q⟩) hG st hw ⟨k.nx, k.rt, k.bk, k.ct, fun _ _ z => z.elim⟩
  · exact hw.elim
section
variable {X : Cx} {tg iter : Expr} {body : List Stmt} {pos : Pos} {ti : TI} {te : TE} {p : Tau → Option D} {sel : List Key → List D → List D} {g : WG} {wb : WS} {gt : TG} {lk : Lk} {kp : Nat → Prop} {W : WX}
theorem s_forK (hpo : PassesOwn (model X.prog X.w) X.A X.env X.xe) (hc : X.calm = true) (hi : PI X tg iter ti) (hd : DIt te ti sel) (hp : Pth te p) (hg : PG X tg gt) (sg : SG gt kp g) (hb : ∀ lk, PSs X body (LS lk kp W wb))
    (hs : ∀ x, foldedSetIterable iter X.env x = pure x := by intro _; rfl) : PS X (.For tg iter body [] pos) (LS lk kp W (wForK p sel g wb)) := by
  have h := ps_for (pos := pos) hpo hc hi hg (pss_any hb) hs
  exact ps_mono (ps_or (ps_lock h) h) fun D s H q => l_forK hd hp sg q
end
end VL
set_option Elab.async false
set_option linter.all false
set_option maxRecDepth 100000
set_option maxHeartbeats 4000000
/-! VL10: defs' promises over the trees, calls. -/
namespace VL
open PySem PySem.Spec PyProof.Rows L2

/-! ### into a callee and back -/
section
variable {lk : Lk} {B F H F' H' : Hp} {s s' : L2.St} {m m' : Tau} {us vs vs' : List V} {xs ts ts' : List T}
open Classical in
theorem St.callee (st : St lk B F H s m (us ++ vs) (xs ++ ts)) (hl : us.length = xs.length) :
    ∃ B', St lk B' F H [] [] us xs ∧ ∀ F' H' vs' ts', Gr B' F F' → St lk B' F' H' [] [] vs' ts' → Gr B F F' ∧ St lk B F' H' s m (vs' ++ vs) (ts' ++ ts) := by
  obtain ⟨f, g, h1, h2, h3, h4⟩ := st.ex
  obtain ⟨vs1, ws1, g1, g2, e2, j1, j2, j3, rfl⟩ := RpL.split h2
  obtain ⟨rfl, rfl⟩ := append_inj_len e2 (hl.trans j1.length)
  have rB : ∀ a, f a ∨ g2 a → B a = none := fun a p => (h4 a (p.imp id .inr)).2
  have rF : ∀ a, f a ∨ g2 a → F a = none := fun a p => (h4 a (p.imp id .inr)).1
  have rH : ∀ a, f a ∨ g2 a → ∃ o, H a = some o := fun a p => p.elim (h1.dom a) (j2.dom a)
  refine ⟨fun a => if f a ∨ g2 a then H a else B a, ⟨⟨fun _ => False, g1, ?_, j1, fun _ z _ => z, fun a p => ?_⟩, st.fr, fun a o q => ?_, fun a q => ?_⟩, fun F' H' vs' ts' gr st' => ?_⟩
  · simp only [RpS]
    exact ⟨trivial, trivial⟩
  · have p : g1 a := p.resolve_left id
    refine ⟨(h4 a (.inr (.inl p))).1, ?_⟩
    show (if f a ∨ g2 a then H a else B a) = none
    rw [if_neg]
    · exact (h4 a (.inr (.inl p))).2
    · rintro (z | z)
      · exact h3 a z (.inl p)
      · exact j3 a p z
  · have q : (if f a ∨ g2 a then H a else B a) = some o := q
    by_cases z : f a ∨ g2 a
    · rw [if_pos z] at q
      exact .inl q
    · rw [if_neg z] at q
      exact st.bk.sub a o q
  · obtain ⟨ob, o, e⟩ := st.bk.own a q
    refine ⟨ob, o, ?_⟩
    show (if f a ∨ g2 a then H a else B a) = _
    rw [if_neg]
    · exact e
    · intro z
      rw [rB a z] at e
      cases e
  · obtain ⟨f', g', k1, k2, k3, k4⟩ := st'.ex
    simp only [RpS] at k1
    obtain ⟨_, rfl⟩ := k1
    have bp : ∀ a, f a ∨ g2 a → (if f a ∨ g2 a then H a else B a) = H a := fun a p => if_pos p
    have keep : ∀ a, f a ∨ g2 a → H' a = H a := fun a p => by
      obtain ⟨o, e⟩ := rH a p
      have : (if f a ∨ g2 a then H a else B a) = some o := by rw [if_pos p]; exact e
      rcases st'.bk.sub a o this with z | ⟨z, _⟩
      · rw [z, e]
      · obtain ⟨ob, o', e'⟩ := st.bk.own a z
        rw [rB a p] at e'
        cases e'
    have sep : ∀ a, g' a → ¬ (f a ∨ g2 a) := fun a p z => by
      have k := (k4 a (.inr p)).2
      have k : (if f a ∨ g2 a then H a else B a) = none := k
      rw [if_pos z] at k
      obtain ⟨o, e⟩ := rH a z
      rw [k] at e
      cases e
    have fF : ∀ a, f a ∨ g2 a → F' a = none := fun a p => by
      cases q : F' a with
      | none => rfl
      | some o =>
        rcases gr.new a o q with z | z
        · rw [rF a p] at z
          cases z
        · have z : (if f a ∨ g2 a then H a else B a) = none := z
          rw [if_pos p] at z
          obtain ⟨o', e⟩ := rH a p
          rw [z] at e
          cases e
    refine ⟨⟨gr.same, fun a o q => ?_⟩, ⟨f, fun a => g' a ∨ g2 a, h1.frame gr.same fun a p => keep a (.inl p), k2.append (j2.frame gr.same fun a p => keep a (.inr p)) fun a p q => sep a p (.inr q), fun a p q => ?_, fun a p => ?_⟩, st'.fr, fun a o q => ?_, st.bk.own⟩
    · rcases gr.new a o q with z | z
      · exact .inl z
      · have z : (if f a ∨ g2 a then H a else B a) = none := z
        by_cases p : f a ∨ g2 a
        · exact .inr (rB a p)
        · rw [if_neg p] at z
          exact .inr z
    · rcases q with q | q
      · exact sep a q (.inl p)
      · exact h3 a p (.inr q)
    · rcases p with p | p | p
      · exact ⟨fF a (.inl p), rB a (.inl p)⟩
      · refine ⟨(k4 a (.inr p)).1, ?_⟩
        have k := (k4 a (.inr p)).2
        have k : (if f a ∨ g2 a then H a else B a) = none := k
        rw [if_neg (sep a p)] at k
        exact k
      · exact ⟨fF a (.inr p), rB a (.inr p)⟩
    · refine st'.bk.sub a o ?_
      show (if f a ∨ g2 a then H a else B a) = some o
      rw [if_neg]
      · exact q
      · intro z
        rw [rB a z] at q
        cases q
theorem St.noslots (st : St lk B F H s m vs ts) : St lk B F H [] [] vs ts := by
  obtain ⟨f, g, h1, h2, h3, h4⟩ := st.ex
  refine ⟨⟨fun _ => False, g, ?_, h2, fun _ z _ => z, fun a p => h4 a (.inr (p.resolve_left id))⟩, st.fr, st.bk⟩
  simp only [RpS]
  exact ⟨trivial, trivial⟩
def startT (n : Nat) (xs : List T) : Tau := xs.map some ++ List.replicate (n - xs.length) none
theorem RpS.nones (F H : Hp) : ∀ k : Nat, RpS F H (List.replicate k Option.none) (List.replicate k Option.none) (fun _ => False)
  | 0 => by
    simp only [List.replicate_zero, RpS]
    exact ⟨trivial, trivial⟩
  | k + 1 => by
    simp only [List.replicate_succ, RpS]
    exact ⟨_, _, rfl, RpS.nones F H k⟩
theorem RpS.ofL {F H : Hp} (k : Nat) : ∀ {xs : List T} {us : List V} {g : Fp}, RpL F H xs us g → RpS F H (us.map some ++ List.replicate k Option.none) (xs.map some ++ List.replicate k Option.none) g
  | [], us, g, h => by
    simp only [RpL] at h
    obtain ⟨rfl, rfl⟩ := h
    exact RpS.nones F H k
  | x :: xs, us, g, h => by
    simp only [RpL] at h
    obtain ⟨v, vr, f1, f2, rfl, h1, h2, h3, rfl⟩ := h
    simp only [List.map_cons, List.cons_append, RpS]
    exact ⟨v, _, f1, f2, rfl, h1, RpS.ofL k h2, h3, rfl⟩
theorem St.start (st : St lk B F H [] [] us xs) (N : List Str) (hl : us.length = xs.length) : St lk B F H (L2.start N us) (startT N.length xs) [] [] := by
  obtain ⟨f, g, h1, h2, h3, h4⟩ := st.ex
  simp only [RpS] at h1
  obtain ⟨_, rfl⟩ := h1
  refine ⟨⟨g, fun _ => False, ?_, ?_, fun _ _ z => z, fun a p => h4 a (.inr (p.resolve_right id))⟩, st.fr, st.bk⟩
  · unfold L2.start startT
    rw [hl]
    exact RpS.ofL _ h2
  · simp only [RpL]
    exact ⟨trivial, trivial⟩
end

/-! ### promises -/
/-- o xs P R: with the arguments xs each result is in P, each exception in R -/
abbrev OX := List T → (T → Prop) → (Exn → Prop) → Prop
def anyL : Lk → Prop := fun _ => True
def onlyL : Lk → Prop := fun lk => lk = noLk
def spV (L : Lk → Prop) (n : Nat) (o : OX) : Sp := fun us H Q E => us.length = n ∧ ∃ lk B F xs P R, L lk ∧ us.length = xs.length ∧ St lk B F H [] [] us xs ∧ o xs P R ∧
  (∀ t, P t → ∀ v F' H', Gr B F F' → St lk B F' H' [] [] [v] [t] → Q v H') ∧ ∀ e, R e → ∀ F' H' cls d, Gr B F F' → St lk B F' H' [] [] [] [] → XFz F' e cls d → E cls d H'
/-- the first argument is changed: P result (the first argument as it is then) -/
abbrev OIO := List T → (T → T → Prop) → (Exn → T → Prop) → Prop
def spIO (L : Lk → Prop) (n : Nat) (o : OIO) : Sp := fun us H Q E => us.length = n ∧ ∃ lk B F xs v0 ur P R, L lk ∧ us = v0 :: ur ∧ us.length = xs.length ∧ St lk B F H [] [] us xs ∧ o xs P R ∧
  (∀ t t0, P t t0 → ∀ v F' H', Gr B F F' → St lk B F' H' [] [] [v0, v] [t0, t] → Q v H') ∧ ∀ e t0, R e t0 → ∀ F' H' cls d, Gr B F F' → St lk B F' H' [] [] [v0] [t0] → XFz F' e cls d → E cls d H'
theorem spV_in {L : Lk → Prop} {n : Nat} {o : OX} {lk : Lk} {B F H : Hp} {s : L2.St} {m : Tau} {us vs : List V} {xs ts : List T} {P : T → Prop} {R : Exn → Prop} {Q : VK} {E : XK} (hL : L lk) (st : St lk B F H s m (us ++ vs) (xs ++ ts)) (hl : us.length = xs.length) (hn : us.length = n)
    (ho : o xs P R) (k : ∀ t, P t → KE lk B F s vs ts m t Q) (kx : ∀ e, R e → ∀ F' H' cls d, Gr B F F' → St lk B F' H' s m vs ts → XFz F' e cls d → E cls d H') : spV L n o us H Q E := by
  obtain ⟨B', st1, back⟩ := st.callee hl
  refine ⟨hn, lk, B', F, xs, P, R, hL, hl, st1, ho, fun t p v F' H' g st2 => ?_, fun e p F' H' cls d g st2 x => ?_⟩
  · obtain ⟨g', st3⟩ := back F' H' _ _ g st2
    exact k t p v F' H' g' st3
  · obtain ⟨g', st3⟩ := back F' H' _ _ g st2
    exact kx e p F' H' cls d g' st3 x
theorem spIO_in {L : Lk → Prop} {n : Nat} {o : OIO} {lk : Lk} {B F H : Hp} {s : L2.St} {m : Tau} {v0 : V} {us vs : List V} {xs ts : List T} {P : T → T → Prop} {R : Exn → T → Prop} {Q : VK} {E : XK} (hL : L lk) (st : St lk B F H s m (v0 :: us ++ vs) (xs ++ ts)) (hl : (v0 :: us).length = xs.length) (hn : (v0 :: us).length = n)
    (ho : o xs P R) (k : ∀ t t0, P t t0 → ∀ v F' H', Gr B F F' → St lk B F' H' s m (v0 :: v :: vs) (t0 :: t :: ts) → Q v H') (kx : ∀ e t0, R e t0 → ∀ F' H' cls d, Gr B F F' → St lk B F' H' s m (v0 :: vs) (t0 :: ts) → XFz F' e cls d → E cls d H') : spIO L n o (v0 :: us) H Q E := by
  obtain ⟨B', st1, back⟩ := st.callee hl
  refine ⟨hn, lk, B', F, xs, v0, us, P, R, hL, rfl, hl, st1, ho, fun t t0 p v F' H' g st2 => ?_, fun e t0 p F' H' cls d g st2 x => ?_⟩
  · obtain ⟨g', st3⟩ := back F' H' _ _ g st2
    exact k t t0 p v F' H' g' st3
  · obtain ⟨g', st3⟩ := back F' H' _ _ g st2
    exact kx e t0 p F' H' cls d g' st3 x
def noK : Nat → Prop := fun _ => False
def kp0 : Nat → Prop := fun i => i = 0
/-- the wish of a def's body for exceptions -/
abbrev wxOf (E : XK) : WX := fun cls d _ H => E cls d H
section
variable {Pg : Program} {wd : World} {K : PySem.W.Frag} {mg : Str → Option Value} {base : Heap} {x qual : Str} {params : Arguments} {body : List Stmt} {scope : Scope} {dvs : List V} {kws : List (Str × V)} {f : Addr} {fd : FuncData} {CX : CXT} {N ps : List Str} {k : Nat} {L : Lk → Prop}
/-- THE RULE for a def -/
theorem ok_fn {o : OX} {w : WS} (Fn : FunD K x qual params body scope dvs kws f fd) (S : FnScope N ps scope) (hp : xs0 = ps.length)
    (hb : ∀ (lk : Lk), L lk → ∀ (cdv : Value) (A : Around) (outer : List Env) (s : Shared) (H : Hp) (E : XK), Room k (A.deeper (envOfC qual scope s.heap.objs.size f cdv)) → PSs (cxOf CX Pg wd K mg base N qual scope f cdv A outer s H E) body (LS lk noK (wxOf E) w))
    (spec : ∀ xs P R, xs.length = xs0 → o xs P R → w (startT N.length xs) ⟨fun _ => P (.fz .non), fun t _ => P t, fun _ => False, fun _ => False, fun e _ => R e⟩) : FnOk Pg wd K mg base CX (k + 1) f fd ps (spV L xs0 o) := by
  refine Fn.ok S (fun vs H Q E h => h.1.trans hp) fun cdv A outer s H us Q E hr h => ?_
  obtain ⟨hn, lk, B, F, xs, P, R, hL, hl, st, ho, k1, k2⟩ := h
  refine ⟨_, hb lk hL cdv A outer s H E hr, B, F, _, [], [], _, st.start N hl, spec xs P R (hl ▸ hn) ho, ?_, ?_, ?_, ?_, ?_⟩
  · exact fun m' p s' F' H' g kk st' => k1 _ p .non F' H' g (st'.noslots.push fzn)
  · exact fun t m' p s' v F' H' g kk st' => k1 t p v F' H' g st'.noslots
  · exact fun m' p => p.elim
  · exact fun m' p => p.elim
  · exact fun e m' p s' F' H' cls d g kk st' x => k2 e p F' H' cls d g st'.noslots x
theorem ok_io {o : OIO} {w : WS} (Fn : FunD K x qual params body scope dvs kws f fd) (S : FnScope N ps scope) (hp : xs0 = ps.length)
    (hb : ∀ (lk : Lk), L lk → ∀ (cdv : Value) (A : Around) (outer : List Env) (s : Shared) (H : Hp) (E : XK), Room k (A.deeper (envOfC qual scope s.heap.objs.size f cdv)) → PSs (cxOf CX Pg wd K mg base N qual scope f cdv A outer s H E) body (LS lk kp0 (wxOf E) w))
    (spec : ∀ xs P R, xs.length = xs0 → o xs P R → w (startT N.length xs) ⟨fun m => ∃ t0, look m 0 = some t0 ∧ P (.fz .non) t0, fun t m => ∃ t0, look m 0 = some t0 ∧ P t t0, fun _ => False, fun _ => False, fun e m => ∃ t0, look m 0 = some t0 ∧ R e t0⟩) : FnOk Pg wd K mg base CX (k + 1) f fd ps (spIO L xs0 o) := by
  refine Fn.ok S (fun vs H Q E h => h.1.trans hp) fun cdv A outer s H us Q E hr h => ?_
  obtain ⟨hn, lk, B, F, xs, v0, ur, P, R, hL, rfl, hl, st, ho, k1, k2⟩ := h
  have at0 : ∀ {s' : L2.St}, Kp kp0 (L2.start N (v0 :: ur)) s' → s'[0]? = some (some v0) := fun kk => (kk.2 0 rfl).trans rfl
  refine ⟨_, hb lk hL cdv A outer s H E hr, B, F, _, [], [], _, st.start N hl, spec xs P R (hl ▸ hn) ho, ?_, ?_, ?_, ?_, ?_⟩
  · intro m' ⟨t0, e0, p⟩ s' F' H' g kk st'
    obtain ⟨v, e1, st2⟩ := (st'.push fzn).take (look_some e0)
    rw [at0 kk] at e1
    cases e1
    exact k1 _ t0 p .non F' H' g st2.noslots
  · intro t m' ⟨t0, e0, p⟩ s' v F' H' g kk st'
    obtain ⟨v', e1, st2⟩ := st'.take (look_some e0)
    rw [at0 kk] at e1
    cases e1
    exact k1 t t0 p v F' H' g st2.noslots
  · exact fun m' p => p.elim
  · exact fun m' p => p.elim
  · intro e m' ⟨t0, e0, p⟩ s' F' H' cls d g kk st' x
    obtain ⟨v', e1, st2⟩ := st'.take (look_some e0)
    rw [at0 kk] at e1
    cases e1
    exact k2 e t0 p F' H' cls d g st2.noslots x
end
/-! ### calls that let nothing out -/
def noX : Exn → Prop := fun _ => False
def oFn (n : Nat) (o : OX) : OA := fun xs P => xs.length = n ∧ o xs P noX
def SAl (lk : Lk) (r : List V → Hp → VK → Prop) (o : OA) : Prop := ∀ (B F H : Hp) (s : L2.St) (m : Tau) (vs : List V) (ts : List T) (us : List V) (xs : List T) (P : T → Prop) (Q : VK), us.length = xs.length → St lk B F H s m (us ++ vs) (xs ++ ts) → o xs P → (∀ t, P t → KE lk B F s vs ts m t Q) → r us H Q
theorem lAl {lk : Lk} {r : List V → Hp → VK → Prop} {o : OA} (h : SAl lk r o) {wa : WA} {s : L2.St} {H : Hp} {Q : VK} (q : LE lk (wA o wa) s H Q) : LA lk wa s H fun xs H1 => r xs H1 Q := by
  obtain ⟨B, F, m, vs, ts, P, st, hw, k⟩ := q
  refine ⟨B, F, m, vs, ts, _, st, hw, fun xs m1 hx us F1 H1 g1 hl st1 => ?_⟩
  exact h B F1 H1 s m1 vs ts us xs _ Q hl st1 hx fun t p w F2 H2 g2 st2 => k t m1 p w F2 H2 (g1.trans g2) st2
theorem sA_fn {L : Lk → Prop} {lk : Lk} {n : Nat} {o : OX} {E : XK} (hL : L lk) : SAl lk (fun us H Q => spV L n o us H Q E) (oFn n o) := by
  intro B F H s m vs ts us xs P Q hl st ho k
  exact spV_in hL st hl (hl.trans ho.1) ho.2 k fun e z => z.elim
section
variable {X : Cx} {CX : CXT} {k n : Nat} {f C : Addr} {fd : FuncData} {ps : List Str} {o : OX} {E : XK} {x mn : Str} {p pos apos : Pos} {e oe : Expr} {es : List Expr} {wa : WA} {we : WE} {lk : Lk} {L : Lk → Prop}
theorem v_fn (Fk : FnOk X.prog X.w X.K X.mg X.base CX k f fd ps (spV L n o)) (hr : Room k X.A) (hm : X.mg x = some (.ref f)) (hk : PySem.W.keepIn X.K (.ref f) = true) (hb : Binds X.K fd ps []) (hx : Passes CX X E0) (hL : L lk)
    (ha : PA X (e :: es) (LA lk wa)) (hg : Gl X x := by rfl) (hdb : (x == ("__debug__" : Str)) = false := by decide) (he : starEach (e :: es) X.env = (false, eval e X.env) :: starEach es X.env := by rfl) (hpl : (backTo pos (starEach es X.env)).any (·.1) = false := by rfl) :
    PE X (.Call (.Name x p) (e :: es) [] pos) (LE lk (wA (oFn n o) wa)) := pe_mono (pe_call Fk hr hg hm hk hb .nil hx ha hdb he hpl) fun s H Q q => by
  have := lAl (sA_fn (E := E0) hL) q
  show LA lk wa s H fun vs H1 => spV L n o (vs ++ []) H1 Q E0
  simpa only [List.append_nil] using this
theorem v_fn0 (Fk : FnOk X.prog X.w X.K X.mg X.base CX k f fd ps (spV L n o)) (hr : Room k X.A) (hm : X.mg x = some (.ref f)) (hk : PySem.W.keepIn X.K (.ref f) = true) (hb : Binds X.K fd ps []) (hx : Passes CX X E0) (hL : L lk) (hg : Gl X x := by rfl) (hdb : (x == ("__debug__" : Str)) = false := by decide) :
    PE X (.Call (.Name x p) [] [] pos) (LE lk (wA (oFn n o) wNil)) := pe_mono (pe_call0 Fk hr hg hm hk hb .nil hx hdb) fun s H Q q => by
  have := lAl (sA_fn (E := E0) hL) q
  obtain ⟨B, F, m, vs, ts, P, st, hw, k⟩ := this
  exact k [] m hw [] F H (Gr.refl B F) rfl st
/-- o.m(..) of an object that is frozen -/
def wMeth (C : Addr) (mn : Str) (oA : OA) (we : WE) (wa : WA) : WE := fun m Q => we m fun x m1 => match x with
  | .fz (.ins C' fs l) => C' = C ∧ mn ∉ fs ∧ wa m1 fun xs m2 => oA (.fz (.ins C' fs l) :: xs) fun z => Q z m2
  | _ => False
theorem lookup_zip_none {fs : List Str} {ws : List V} {g : Str} (h : g ∉ fs) : (fs.zip ws).lookup g = none := by
  rw [List.lookup_eq_none_iff]
  intro p hp
  have := (List.of_mem_zip (a := p.1) (b := p.2) hp).1
  simp only [beq_eq_false_iff_ne, ne_eq, bne_iff_ne]
  intro z
  exact h (z ▸ this)
theorem St.two {lk : Lk} {B F H : Hp} {s : L2.St} {m : Tau} {us vs : List V} {v : V} {xs ts : List T} {t : T} (st : St lk B F H s m (us ++ v :: vs) (xs ++ t :: ts)) (hl : us.length = xs.length) : St lk B F H s m ((v :: us) ++ vs) ((t :: xs) ++ ts) := st.rot hl
theorem l_meth {sp : Sp} {oA : OA} (hS : SAl lk (fun us H Q => sp us H Q E) oA) {s : L2.St} {H : Hp} {Q : VK} (q : LE lk (wMeth C mn oA we wa) s H Q) : tMeth C mn sp [] E (LE lk we) (LA lk wa) s H Q := by
  obtain ⟨B, F, m, vs, ts, P, st, hw, k⟩ := q
  refine ⟨B, F, m, vs, ts, _, st, hw, fun x m1 hx v F1 H1 g1 st1 => ?_⟩
  split at hx
  · rename_i C' fs l
    obtain ⟨rfl, hn, hx⟩ := hx
    obtain ⟨hd, _⟩ := st1.tfz
    obtain ⟨a, dx, ws, rfl, e1, e2, e3, e4⟩ := st1.ins hd
    refine ⟨a, dx, _, rfl, e2, lookup_zip_none hn, B, F1, m1, _, _, _, st1, hx, fun xs m2 hx2 us F2 H2 g2 hl st2 => ?_⟩
    show sp (.ref a :: (us ++ [])) H2 Q E
    rw [List.append_nil]
    exact hS B F2 H2 s m2 vs ts (.ref a :: us) (.fz (.ins C' fs l) :: xs) _ Q (by simp [hl]) (st2.rot hl) hx2 fun t p w F3 H3 g3 st3 => k t m2 p w F3 H3 ((g1.trans g2).trans g3) st3
  · exact hx.elim
theorem v_meth {pl : Sem Bool} (Fk : FnOk X.prog X.w X.K X.mg X.base CX k f fd ps (spV L n o)) (hr : Room k X.A) (c : Cls X.K C) (hm : Meth X.K C mn f) (hb : Binds X.K fd ps []) (hx : Passes CX X E0) (hL : L lk)
    (ho : PE X oe (LE lk we)) (ha : PA X (e :: es) (LA lk wa)) (hst : starEach (e :: es) X.env = (false, eval e X.env) :: starEach es X.env := by rfl) (hpl : (backTo pos (starEach es X.env)).any (·.1) = false := by rfl)
    (ht : eval (.Call (.Attribute oe mn apos) (e :: es) [] pos) X.env = (do
      let ov ← eval oe X.env
      standAt apos.atName
      let (f, first) ← holding [ov] (getMethod ov mn pl)
      callWith pos f first (backTo pos (starEach (e :: es) X.env)) (backToKw pos (keywordEach [] X.env))) := by rfl) :
    PE X (.Call (.Attribute oe mn apos) (e :: es) [] pos) (LE lk (wMeth C mn (oFn n o) we wa)) := pe_mono (pe_meth (pl := pl) ho c hm Fk hr hb .nil hx ha hst hpl ht) fun s H Q q => l_meth (sA_fn hL) q
theorem v_meth0 {pl : Sem Bool} (Fk : FnOk X.prog X.w X.K X.mg X.base CX k f fd ps (spV L n o)) (hr : Room k X.A) (c : Cls X.K C) (hm : Meth X.K C mn f) (hb : Binds X.K fd ps []) (hx : Passes CX X E0) (hL : L lk)
    (ho : PE X oe (LE lk we))
    (ht : eval (.Call (.Attribute oe mn apos) [] [] pos) X.env = (do
      let ov ← eval oe X.env
      standAt apos.atName
      let (f, first) ← holding [ov] (getMethod ov mn pl)
      callWith pos f first (backTo pos (starEach [] X.env)) (backToKw pos (keywordEach [] X.env))) := by rfl) :
    PE X (.Call (.Attribute oe mn apos) [] [] pos) (LE lk (wMeth C mn (oFn n o) we wNil)) := pe_mono (pe_meth0 (pl := pl) ho c hm Fk hr hb .nil hx ht) fun s H Q q => by
  have q := l_meth (E := E0) (sA_fn hL) q
  obtain ⟨B, F, m, vs, ts, P, st, hw, k⟩ := q
  refine ⟨B, F, m, vs, ts, _, st, hw, fun x m1 hx v F1 H1 g1 st1 => ?_⟩
  obtain ⟨a, dx, fs, e1, e2, e3, B', F', m', vs', ts', P', st', hw', k'⟩ := k x m1 hx v F1 H1 g1 st1
  exact ⟨a, dx, fs, e1, e2, e3, k' [] m' hw' [] F' H1 (Gr.refl _ _) rfl st'⟩
/-- C(..): what __init__ leaves of the new object -/
def oMk (C : Addr) (n : Nat) (o : OIO) : OA := fun xs P => xs.length + 1 = n ∧ o (.oi C [] [] :: xs) (fun t t0 => t = .fz .non ∧ P t0) fun _ _ => False
theorem l_make {o : OIO} (hL : L lk) {s : L2.St} {H : Hp} {Q : VK} (q : LE lk (wA (oMk C n o) wa) s H Q) : tMake C (spIO L n o) [] E (LA lk wa) s H Q := by
  refine lAl (r := fun us H1 Q => ∀ x dx, H1 x = none → H1 dx = none → dx ≠ x → spIO L n o (.ref x :: (us ++ [])) (upd (upd H1 dx (.own x)) x (.ins C dx [])) (fun v H2 => v = .non ∧ Q (.ref x) H2) E) ?_ q
  intro B F H s m vs ts us xs P Q hl st ho k x dx hx hd ne
  have hx2 : (upd H dx (.own x)) x = none := by rw [upd_ne (fun z => ne z.symm)]; exact hx
  have st2 : St lk B F (upd (upd H dx (.own x)) x (.ins C dx [])) s m (.ref x :: (us ++ vs)) (.oi C [] [] :: (xs ++ ts)) := (st.junk (o := .own x) hd).own0 hx2 fun H' e => by
    simp only [Rp]
    exact ⟨x, dx, [], fun _ => False, rfl, e, rfl, by simp only [RpL]; exact ⟨trivial, trivial⟩, id, rfl⟩
  rw [List.append_nil]
  refine spIO_in hL (us := us) (vs := vs) (xs := .oi C [] [] :: xs) (ts := ts) st2 (by simp [hl]) ?_ ho.2 (fun t t0 p v F' H' g st' => ?_) fun e t0 z => z.elim
  · have := ho.1
    simp only [List.length_cons]
    omega
  · obtain ⟨rfl, p⟩ := p
    have e1 : v = .non := by
      obtain ⟨f, g, h1, h2, h3, h4⟩ := st'.ex
      rw [RpL] at h2
      obtain ⟨v', vr, f1, f2, e, k1, k2, k3, rfl⟩ := h2
      cases e
      rw [RpL] at k2
      obtain ⟨v', vr, g1, g2, e, j1, j2, j3, rfl⟩ := k2
      cases e
      simp only [Rp] at j1
      exact fz_non j1.1
    refine ⟨e1, k t0 p _ F' H' g ?_⟩
    have st3 := St.rot (xs := [t0]) (us := [.ref x]) st' rfl
    exact st3.tfz.2
theorem v_make {o : OIO} (M : Mk X.K C f) (Fk : FnOk X.prog X.w X.K X.mg X.base CX k f fd ps (spIO L n o)) (hr : Room (k + 1) X.A) (hm : X.mg x = some (.ref C)) (hb : Binds X.K fd ps []) (hx : Passes CX X E0) (hL : L lk)
    (ha : PA X (e :: es) (LA lk wa)) (hg : Gl X x := by rfl) (hdb : (x == ("__debug__" : Str)) = false := by decide) (he : starEach (e :: es) X.env = (false, eval e X.env) :: starEach es X.env := by rfl) (hpl : (backTo pos (starEach es X.env)).any (·.1) = false := by rfl) :
    PE X (.Call (.Name x p) (e :: es) [] pos) (LE lk (wA (oMk C n o) wa)) := pe_mono (pe_make M Fk hr hg hm hb .nil hx ha hdb he hpl) fun s H Q q => l_make hL q
end
end VL
set_option Elab.async false
set_option linter.all false
set_option maxRecDepth 100000
set_option maxHeartbeats 4000000
/-! VL11: fields, views, late takes, lists whose items are taken, calls that change their first argument, chains, keywords. -/
namespace VL
open PySem PySem.Spec PyProof.Rows L2

/-! ### fields -/
def lookF {α : Type} : List Str → List α → Str → Option α
  | f :: fs, d :: l, g => if f = g then some d else lookF fs l g
  | _, _, _ => none
theorem lookF_fz {F : Hp} : ∀ {fs : List Str} {l : List D} {ws : List V} {g : Str} {d : D}, FzL F l ws → lookF fs l g = some d → ∃ v, (fs.zip ws).lookup g = some v ∧ Fz F d v
  | [], l, ws, g, d, h, e => by cases l <;> cases e
  | f :: fs, [], ws, g, d, h, e => by cases e
  | f :: fs, c :: l, ws, g, d, h, e => by
    simp only [FzL] at h
    obtain ⟨v, vr, rfl, h1, h2⟩ := h
    unfold lookF at e
    by_cases q : f = g
    · rw [if_pos q] at e
      cases e
      exact ⟨v, by simp [List.zip_cons_cons, List.lookup_cons, q], h1⟩
    · rw [if_neg q] at e
      obtain ⟨w, e1, e2⟩ := lookF_fz h2 e
      have : (g == f) = false := by simpa using fun z => q z.symm
      exact ⟨w, by simp [List.zip_cons_cons, List.lookup_cons, this, e1], e2⟩
def oFld (C : Addr) (f : Str) : O1 := fun x P => match x with
  | .fz (.ins C' fs l) => C' = C ∧ match lookF fs l f with
    | some d => P (.fz d)
    | none => False
  | _ => False
section
variable {X : Cx} {C : Addr} {f : Str} {e : Expr} {we : WE} {pos : Pos} {lk : Lk}
theorem v_fld (c : Cls X.K C) (n : NoAttr X.K C f) (he : PE X e (LE lk we)) (hb : attributeBase e f X.env (eval e X.env) = eval e X.env := by rfl) : PE X (.Attribute e f pos) (LE lk (w1 (oFld C f) we)) := pe_mono (pe_fld he hb) fun s H Q q => by
  refine l1 (r := fun x H1 Q => ∃ a C dx fs v, x = .ref a ∧ H1 a = some (.ins C dx fs) ∧ Cls X.K C ∧ NoAttr X.K C f ∧ fs.lookup f = some v ∧ Q v H1) ?_ q
  intro lk B F H s m vs ts u x P Q st ho k
  unfold oFld at ho
  split at ho
  · rename_i C' fs l
    obtain ⟨rfl, ho⟩ := ho
    split at ho
    · rename_i d ed
      obtain ⟨hd, st2⟩ := st.tfz
      obtain ⟨a, dx, ws, rfl, e1, e2, e3, e4⟩ := st2.ins hd
      obtain ⟨v, e5, e6⟩ := lookF_fz e4 ed
      exact ⟨a, _, dx, _, v, rfl, e2, c, n, e5, k _ ho v F H (Gr.refl B F) (st2.push e6)⟩
    · exact ho.elim
  · exact ho.elim
end
def putLF {α : Type} (f : Str) (t : α) : List Str → List α → List Str × List α
  | g :: fs, d :: l => if g = f then (g :: fs, t :: l) else (g :: (putLF f t fs l).1, d :: (putLF f t fs l).2)
  | _, _ => ([f], [t])
theorem putLF_zip {f : Str} {v : V} : ∀ {fs : List Str} {ws : List V}, fs.length = ws.length → putF f v (fs.zip ws) = (putLF f v fs ws).1.zip (putLF f v fs ws).2
  | [], ws, h => by
    cases ws with
    | nil => rfl
    | cons _ _ => cases h
  | g :: fs, [], h => by cases h
  | g :: fs, w :: ws, h => by
    unfold putLF
    simp only [List.zip_cons_cons, putF]
    by_cases e : g = f
    · rw [if_pos e, if_pos e]
      rfl
    · rw [if_neg e, if_neg e, putLF_zip (by simpa using h)]
      rfl
theorem putLF_fs {α β : Type} {f : Str} {a : α} {b : β} : ∀ {fs : List Str} {l : List α} {k : List β}, l.length = k.length → (putLF f a fs l).1 = (putLF f b fs k).1
  | [], l, k, h => by cases l <;> cases k <;> rfl
  | g :: fs, [], [], h => rfl
  | g :: fs, [], _ :: _, h => by cases h
  | g :: fs, _ :: _, [], h => by cases h
  | g :: fs, x :: l, y :: k, h => by
    unfold putLF
    by_cases e : g = f
    · rw [if_pos e, if_pos e]
    · rw [if_neg e, if_neg e]
      simp only [putLF_fs (f := f) (a := a) (b := b) (fs := fs) (l := l) (k := k) (by simpa using h)]
theorem putLF_len {α : Type} {f : Str} {a : α} : ∀ {fs : List Str} {l : List α}, fs.length = l.length → (putLF f a fs l).1.length = (putLF f a fs l).2.length
  | [], [], h => rfl
  | [], _ :: _, h => by cases h
  | g :: fs, [], h => by cases h
  | g :: fs, x :: l, h => by
    unfold putLF
    by_cases e : g = f
    · rw [if_pos e]
      simpa using h
    · rw [if_neg e]
      simp only [List.length_cons, putLF_len (f := f) (a := a) (fs := fs) (l := l) (by simpa using h)]
theorem RpL.putLF {F H : Hp} {f : Str} {t : T} {v : V} {q : Fp} (r : Rp F H t v q) : ∀ {fs : List Str} {l : List T} {ws : List V} {g : Fp}, fs.length = l.length → RpL F H l ws g → (∀ b, g b → q b → False) →
    ∃ g' : Fp, RpL F H (VL.putLF f t fs l).2 (VL.putLF f v fs ws).2 g' ∧ ∀ b, g' b → g b ∨ q b
  | [], [], ws, g, hl, h, dj => by
    simp only [RpL] at h
    obtain ⟨rfl, rfl⟩ := h
    exact ⟨q, RpL.one r, fun b z => .inr z⟩
  | [], _ :: _, ws, g, hl, h, dj => by cases hl
  | k :: fs, [], ws, g, hl, h, dj => by cases hl
  | k :: fs, x :: l, ws, g, hl, h, dj => by
    rw [RpL] at h
    obtain ⟨u, ur, f1, f2, rfl, h1, h2, h3, rfl⟩ := h
    unfold VL.putLF
    by_cases e : k = f
    · rw [if_pos e, if_pos e]
      refine ⟨fun b => q b ∨ f2 b, ?_, fun b z => z.elim .inr fun z => .inl (.inr z)⟩
      rw [RpL]
      exact ⟨v, ur, q, f2, rfl, r, h2, fun b z y => dj b (.inr y) z, rfl⟩
    · rw [if_neg e, if_neg e]
      obtain ⟨g', k1, k2⟩ := RpL.putLF r (fs := fs) (by simpa using hl) h2 fun b z y => dj b (.inr z) y
      refine ⟨fun b => f1 b ∨ g' b, ?_, fun b z => ?_⟩
      · rw [RpL]
        refine ⟨u, _, f1, g', rfl, h1, k1, fun b z y => ?_, rfl⟩
        rcases k2 b y with y | y
        · exact h3 b z y
        · exact dj b (.inl z) y
      · rcases z with z | z
        · exact .inl (.inl z)
        · exact (k2 b z).imp .inr id
section
variable {lk : Lk} {B F H : Hp} {s : L2.St} {m : Tau} {vs : List V} {ts : List T} {t : T} {v : V} {i : Nat}
/-- o.f = v -/
theorem St.fput {C : Addr} {fs : List Str} {l : List T} {f : Str} (st : St lk B F H s m (v :: vs) (t :: ts)) (e : m[i]? = some (some (.oi C fs l))) :
    ∃ a dx ws, s[i]? = some (some (.ref a)) ∧ H a = some (.ins C dx (fs.zip ws)) ∧ (ws.length = l.length ∧ fs.length = ws.length) ∧ St lk B F (upd H a (.ins C dx (putF f v (fs.zip ws)))) s (m.set i (some (.oi C (putLF f t fs l).1 (putLF f t fs l).2))) vs ts := by
  obtain ⟨g0, g, h1, h2, h3, h4⟩ := st.ex
  obtain ⟨v1, f1, f2, e1, k1, _⟩ := h1.out e
  simp only [Rp] at k1
  obtain ⟨a, dx, ws, g1, rfl, i1, il, i2, _⟩ := k1
  refine ⟨a, dx, ws, e1, i1, ⟨i2.length.symm, il⟩, St.mut (us := [v]) (xs := [t]) st rfl e e1 fun q g r rl dj => ?_⟩
  simp only [Rp] at r
  obtain ⟨a', dx', ws', g0', qe, j1, jl, j2, j3, rfl⟩ := r
  cases qe
  rw [i1] at j1
  have hz : dx = dx' ∧ fs.zip ws = fs.zip ws' := by
    have := Option.some.inj j1
    injection this with _ z1 z2
    exact ⟨z1, z2⟩
  obtain ⟨rfl, hz⟩ := hz
  have we : ws' = ws := by
    have := congrArg (fun z : List (Str × V) => z.map (fun q => q.2)) hz
    rw [List.map_snd_zip (by omega), List.map_snd_zip (by omega)] at this
    exact this.symm
  subst we
  have ra : Rp F (upd H a (.ins C dx (putF f v (fs.zip ws')))) t v g := (RpL.ofOne rl).frame (Same.refl F) fun b z => upd_ne (disj_ne dj (.inl rfl) b z)
  have rb : RpL F (upd H a (.ins C dx (putF f v (fs.zip ws')))) l ws' g0' := j2.frame (Same.refl F) (keepF j3)
  obtain ⟨g', p1, p2⟩ := RpL.putLF (f := f) ra (fs := fs) (il.trans i2.length.symm) rb fun b p q => dj b (.inr p) q
  refine ⟨.inl rfl, fun b => b = a ∨ g' b, fun b z => ?_, ?_⟩
  · rcases z with z | z
    · exact .inl (.inl z)
    · exact (p2 b z).imp .inr id
  · simp only [Rp]
    refine ⟨a, dx, (putLF f v fs ws').2, g', rfl, ?_, ?_, p1, fun z => ?_, rfl⟩
    · rw [upd_same, putLF_zip il, putLF_fs (b := t) (k := l) i2.length.symm]
    · rw [putLF_fs (b := v) (k := ws') i2.length]
      exact putLF_len il
    · rcases p2 a z with z | z
      · exact j3 z
      · exact dj a (.inl rfl) z
end
/-- name.f = e, of an object of ours -/
def wFPut (i : Nat) (C : Addr) (f : Str) (we : WE) : WS := fun m E => we m fun t m1 => match look m1 i with
  | some (.oi C' fs l) => (C' = C ∧ fs.length < 1000) ∧ E.nx (m1.set i (some (.oi C' (putLF f t fs l).1 (putLF f t fs l).2)))
  | _ => False
theorem s_fput {X : Cx} {lk : Lk} {kp : Nat → Prop} {W : WX} {we : WE} {x f : Str} {p1 pos pos' : Pos} {e : Expr} {C : Addr} (i : Nat) (c : Cls X.K C) (n : NoAttr X.K C f) (hn : PE X (.Name x p1) (tVar i)) (he : PE X e (LE lk we))
    (hs : swapsWith e (some (.Attribute (.Name x p1) f pos')) pos.line X.env = pure false := by rfl) : PS X (.Assign [.Attribute (.Name x p1) f pos'] e pos) (LS lk kp W (wFPut i C f we)) := ps_mono (ps_fld hn he hs) fun D s H q => by
  obtain ⟨B, F, m, vs, ts, E, st, hw, k⟩ := q
  refine ⟨B, F, m, vs, ts, _, st, hw, fun t m1 ht v F1 H1 g1 st1 => ?_⟩
  split at ht
  · rename_i C' fs l el
    obtain ⟨⟨rfl, hl⟩, ht⟩ := ht
    obtain ⟨a, dx, ws, e1, e2, e3, st2⟩ := st1.fput (f := f) (look_some el)
    refine ⟨.ref a, e1, a, _, dx, _, rfl, e2, c, n, ?_, k.nx _ ht s F1 _ g1 Kp.refl st2⟩
    rw [List.length_zip, ← e3.2, Nat.min_self]
    exact hl
  · exact ht.elim

/-! ### views: all slots as data, what comes about hangs on none of them -/
mutual
def scT : T → Bool
  | .fz (.non) => true
  | .fz (.bl _) => true
  | .fz (.int _) => true
  | .fz (.str _) => true
  | .ol l => scL l
  | .od _ l => scL l
  | _ => false
def scL : List T → Bool
  | [] => true
  | t :: l => scT t && scL l
end
mutual
theorem Rp.sc {F F' H : Hp} : ∀ {t : T} {v : V} {f : Fp}, Rp F H t v f → scT t = true → Rp F' H t v f
  | .fz .non, v, f, h, e => by simpa only [Rp, Fz] using h
  | .fz (.bl _), v, f, h, e => by simpa only [Rp, Fz] using h
  | .fz (.int _), v, f, h, e => by simpa only [Rp, Fz] using h
  | .fz (.str _), v, f, h, e => by simpa only [Rp, Fz] using h
  | .fz (.lst _), v, f, h, e => by simp [scT] at e
  | .fz (.tup _), v, f, h, e => by simp [scT] at e
  | .fz (.dct _ _), v, f, h, e => by simp [scT] at e
  | .fz (.ins _ _ _), v, f, h, e => by simp [scT] at e
  | .ol l, v, f, h, e => by
    simp only [Rp] at h ⊢
    obtain ⟨a, vs, g, h0, h1, h2, h3⟩ := h
    exact ⟨a, vs, g, h0, h1, RpL.sc h2 (by simpa [scT] using e), h3⟩
  | .od ks l, v, f, h, e => by
    simp only [Rp] at h ⊢
    obtain ⟨a, vs, g, h0, h1, hl, h2, h3⟩ := h
    exact ⟨a, vs, g, h0, h1, hl, RpL.sc h2 (by simpa [scT] using e), h3⟩
  | .oi _ _ _, v, f, h, e => by simp [scT] at e
  | .fz .any, v, f, h, e => by simp [scT] at e
  | .fz (.scr _ _), v, f, h, e => by simp [scT] at e
  | .on _ _ _, v, f, h, e => by simp [scT] at e
theorem RpL.sc {F F' H : Hp} : ∀ {l : List T} {vs : List V} {f : Fp}, RpL F H l vs f → scL l = true → RpL F' H l vs f
  | [], vs, f, h, e => by simpa only [RpL] using h
  | t :: l, vs, f, h, e => by
    simp only [scL, Bool.and_eq_true] at e
    simp only [RpL] at h ⊢
    obtain ⟨v, vr, f1, f2, h0, h1, h2, h3⟩ := h
    exact ⟨v, vr, f1, f2, h0, Rp.sc h1 e.1, RpL.sc h2 e.2, h3⟩
end
def frzM (m : Tau) : Tau := m.map (Option.map fun t => .fz t.er)
theorem RpS.frzAll {F H F1 : Hp} (e : Same F F1) : ∀ {m : Tau} {s : L2.St} {f : Fp}, RpS F H s m f → (∀ a, f a → F1 a = H a) → RpS F1 H s (frzM m) (fun _ => False)
  | [], s, f, h, k => by
    simp only [RpS] at h
    simp only [frzM, List.map_nil, RpS]
    exact ⟨h.1, trivial⟩
  | none :: m, s, f, h, k => by
    simp only [RpS] at h
    obtain ⟨o, sr, rfl, h⟩ := h
    simp only [frzM, List.map_cons, Option.map_none, RpS]
    exact ⟨o, sr, rfl, RpS.frzAll e h k⟩
  | some t :: m, s, f, h, k => by
    simp only [RpS] at h
    obtain ⟨v, sr, f1, f2, rfl, h1, h2, h3, rfl⟩ := h
    simp only [frzM, List.map_cons, Option.map_some, RpS]
    refine ⟨v, sr, fun _ => False, fun _ => False, rfl, ?_, RpS.frzAll e h2 fun a p => k a (.inr p), fun _ z _ => z, by funext b; simp⟩
    simp only [Rp]
    exact ⟨h1.freeze e fun a p => k a (.inl p), trivial⟩
open Classical in
theorem St.view {lk : Lk} {B F H : Hp} {s : L2.St} {m : Tau} {vs : List V} {ts : List T} (st : St lk B F H s m vs ts) :
    ∃ B1 F1, St lk B1 F1 H s (frzM m) [] [] ∧ ∀ F2 H2 m2 us xs, Gr B1 F1 F2 → St lk B1 F2 H2 s m2 us xs → scL xs = true → us.length = xs.length → St lk B F H2 s m (us ++ vs) (xs ++ ts) := by
  obtain ⟨f, g, h1, h2, h3, h4⟩ := st.ex
  have eF : Same F (fun a => if f a then H a else F a) := fun a o q => by
    show (if f a then H a else F a) = some o
    rw [if_neg]
    · exact q
    · intro z
      have := (h4 a (.inl z)).1
      rw [q] at this
      cases this
  refine ⟨fun a => if g a then H a else B a, fun a => if f a then H a else F a, ⟨⟨fun _ => False, fun _ => False, h1.frzAll eF fun a p => if_pos p, ?_, fun _ z _ => z, fun a p => (p.elim id id).elim⟩, fun a o q => ?_, fun a o q => ?_, fun a q => ?_⟩, ?_⟩
  · simp only [RpL]
    exact ⟨trivial, trivial⟩
  · have q : (if f a then H a else F a) = some o := q
    by_cases z : f a
    · rw [if_pos z] at q
      exact .inl q
    · rw [if_neg z] at q
      exact st.fr a o q
  · have q : (if g a then H a else B a) = some o := q
    by_cases z : g a
    · rw [if_pos z] at q
      exact .inl q
    · rw [if_neg z] at q
      exact st.bk.sub a o q
  · obtain ⟨ob, o, e⟩ := st.bk.own a q
    refine ⟨ob, o, ?_⟩
    show (if g a then H a else B a) = _
    rw [if_neg]
    · exact e
    · intro z
      rw [(h4 a (.inr z)).2] at e
      cases e
  · intro F2 H2 m2 us xs gr st2 hs hl
    obtain ⟨f2, g2, k1, k2, k3, k4⟩ := st2.ex
    have nlk : ∀ a, f a ∨ g a → ¬ lk a := fun a p z => by
      obtain ⟨ob, o', e'⟩ := st.bk.own a z
      rw [(h4 a p).2] at e'
      cases e'
    have atF : ∀ a, f a → ∃ o, H a = some o ∧ F2 a = some o := fun a p => by
      obtain ⟨o, e⟩ := h1.dom a p
      refine ⟨o, e, gr.same a o ?_⟩
      show (if f a then H a else F a) = some o
      rw [if_pos p]
      exact e
    have atB : ∀ a, g a → ∃ o, H a = some o ∧ (if g a then H a else B a) = some o := fun a p => by
      obtain ⟨o, e⟩ := h2.dom a p
      exact ⟨o, e, by rw [if_pos p]; exact e⟩
    have keepf : ∀ a, f a → H2 a = H a := fun a p => by
      obtain ⟨o, e, e2⟩ := atF a p
      rcases st2.fr a o e2 with z | ⟨z, _⟩
      · rw [z, e]
      · exact (nlk a (.inl p) z).elim
    have keepg : ∀ a, g a → H2 a = H a := fun a p => by
      obtain ⟨o, e, e2⟩ := atB a p
      rcases st2.bk.sub a o e2 with z | ⟨z, _⟩
      · rw [z, e]
      · exact (nlk a (.inr p) z).elim
    refine ⟨⟨f, fun a => g2 a ∨ g a, h1.frame (Same.refl F) keepf, ?_, fun a p q => ?_, fun a p => ?_⟩, fun a o q => st2.fr a o (gr.same a o (eF a o q)), fun a o q => ?_, st.bk.own⟩
    · refine (RpL.sc k2 hs).append (h2.frame (Same.refl F) keepg) fun a p q => ?_
      obtain ⟨o, _, e⟩ := atB a q
      have : (if g a then H a else B a) = none := (k4 a (.inr p)).2
      rw [this] at e
      cases e
    · rcases q with q | q
      · obtain ⟨o, _, e⟩ := atF a p
        rw [(k4 a (.inr q)).1] at e
        cases e
      · exact h3 a p q
    · rcases p with p | p | p
      · exact h4 a (.inl p)
      · have e1 := (k4 a (.inr p)).1
        have e2 : (if g a then H a else B a) = none := (k4 a (.inr p)).2
        refine ⟨?_, ?_⟩
        · cases q : F a with
          | none => rfl
          | some o =>
            have := gr.same a o (eF a o q)
            rw [e1] at this
            cases this
        · by_cases z : g a
          · exact (h4 a (.inr z)).2
          · rw [if_neg z] at e2
            exact e2
      · exact h4 a (.inr p)
    · refine st2.bk.sub a o ?_
      show (if g a then H a else B a) = some o
      rw [if_neg]
      · exact q
      · intro z
        rw [(h4 a (.inr z)).2] at q
        cases q
def wView (w : WE) : WE := fun m Q => w (frzM m) fun t _ => scT t = true ∧ Q t m
def wViewT (w : WT) : WT := fun m Q => w (frzM m) fun b _ => Q b m
section
variable {X : Cx} {e : Expr} {w : WE} {wt : WT} {lk : Lk}
theorem v_view (h : PE X e (LE lk w)) : PE X e (LE lk (wView w)) := pe_mono h fun s H Q q => by
  obtain ⟨B, F, m, vs, ts, P, st, hw, k⟩ := q
  obtain ⟨B1, F1, st1, back⟩ := st.view
  refine ⟨B1, F1, frzM m, [], [], _, st1, hw, fun t m2 ht v F2 H2 g2 st2 => ?_⟩
  have := back F2 H2 m2 [v] [t] g2 st2 (by simp [scL, ht.1]) rfl
  exact k t m ht.2 v F H2 (Gr.refl B F) this
theorem t_view (h : PT X e (LT lk wt)) : PT X e (LT lk (wViewT wt)) := pt_mono h fun s H Q q => by
  obtain ⟨B, F, m, vs, ts, P, st, hw, k⟩ := q
  obtain ⟨B1, F1, st1, back⟩ := st.view
  refine ⟨B1, F1, frzM m, [], [], _, st1, hw, fun b m2 hb F2 H2 g2 st2 => ?_⟩
  have := back F2 H2 m2 [] [] g2 st2 rfl rfl
  exact k b m hb F H2 (Gr.refl B F) this
end

/-! ### a name's tree is taken when all arguments are there -/
def wConsL (i : Nat) (wr : WA) : WA := fun m Q => (look m i).isSome = true ∧ wr m fun ts m1 => match look m1 i with
  | some t => Q (t :: ts) (m1.set i none)
  | none => False
theorem va_consL {X : Cx} {x : Str} {p1 : Pos} {es : List Expr} {wr : WA} {lk : Lk} (i : Nat) (hn : PE X (.Name x p1) (tVar i)) (hr : PA X es (LA lk wr)) (hs : starEach (.Name x p1 :: es) X.env = (false, eval (.Name x p1) X.env) :: starEach es X.env := by rfl) : PA X (.Name x p1 :: es) (LA lk (wConsL i wr)) := pa_mono (pa_cons hn hr hs) fun s H Q q => by
  obtain ⟨B, F, m, vs, ts, P, st, ⟨e0, hw⟩, k⟩ := q
  obtain ⟨t0, e0⟩ := Option.isSome_iff_exists.mp e0
  obtain ⟨v0, f0, ev, _⟩ := st.lookV e0
  refine ⟨v0, ev, B, F, m, vs, ts, _, st, hw, fun xs m1 hx us F1 H1 g1 hl st1 => ?_⟩
  split at hx
  · rename_i t e1
    obtain ⟨v, e2, st2⟩ := st1.take (look_some e1)
    rw [ev] at e2
    cases e2
    exact k (t :: xs) _ hx (v0 :: us) F1 H1 g1 (by simp [hl]) st2
  · exact hx.elim

/-! ### a call that changes its first argument, a name -/
def wIO (i n : Nat) (o : OIO) (wa : WA) : WE := fun m Q => (look m i).isSome = true ∧ wa m fun xs m1 => match look m1 i with
  | some t0 => xs.length + 1 = n ∧ o (t0 :: xs) (fun t t' => Q t (m1.set i (some t'))) fun _ _ => False
  | none => False
section
variable {X : Cx} {CX : CXT} {k n : Nat} {f C : Addr} {fd : FuncData} {ps : List Str} {o : OIO} {x y : Str} {p p1 pos apos : Pos} {es : List Expr} {wa : WA} {lk : Lk} {L : Lk → Prop}
theorem l_io (hL : L lk) {E : XK} {i : Nat} {s : L2.St} {H : Hp} {Q : VK} (q : LE lk (wIO i n o wa) s H Q) : tCall (spIO L n o) [] E (tCons (tVar i) (LA lk wa)) s H Q := by
  obtain ⟨B, F, m, vs, ts, P, st, ⟨e0, hw⟩, k⟩ := q
  obtain ⟨t0, e0⟩ := Option.isSome_iff_exists.mp e0
  obtain ⟨v0, f0, ev, _⟩ := st.lookV e0
  refine ⟨v0, ev, B, F, m, vs, ts, _, st, hw, fun xs m1 hx us F1 H1 g1 hl st1 => ?_⟩
  split at hx
  · rename_i t e1
    obtain ⟨v, e2, st2⟩ := st1.take (look_some e1)
    rw [ev] at e2
    cases e2
    rw [List.append_nil]
    refine spIO_in hL (us := us) (vs := vs) (xs := t :: xs) (ts := ts) st2 (by simp [hl]) ?_ hx.2 (fun r t' p v F' H' g st' => ?_) fun e t0 z => z.elim
    · have := hx.1
      simp only [List.length_cons]
      omega
    · have hi : i < (m1.set i none).length := by
        rw [List.length_set]
        exact (List.getElem?_eq_some_iff.mp (look_some e1)).1
      obtain ⟨w, wr, e, st3⟩ := st'.set (i := i) hi
      cases e
      rw [set_same ev, List.set_set] at st3
      exact k r _ p v F' H' (g1.trans g) st3
  · exact hx.elim
theorem v_io (i : Nat) (Fk : FnOk X.prog X.w X.K X.mg X.base CX k f fd ps (spIO L n o)) (hr : Room k X.A) (hm : X.mg x = some (.ref f)) (hk : PySem.W.keepIn X.K (.ref f) = true) (hb : Binds X.K fd ps []) (hx : Passes CX X E0) (hL : L lk)
    (hn : PE X (.Name y p1) (tVar i)) (ha : PA X es (LA lk wa)) (hg : Gl X x := by rfl) (hdb : (x == ("__debug__" : Str)) = false := by decide) (he : starEach (.Name y p1 :: es) X.env = (false, eval (.Name y p1) X.env) :: starEach es X.env := by rfl) (hpl : (backTo pos (starEach es X.env)).any (·.1) = false := by rfl) :
    PE X (.Call (.Name x p) (.Name y p1 :: es) [] pos) (LE lk (wIO i n o wa)) := pe_mono (pe_call Fk hr hg hm hk hb .nil hx (pa_cons hn ha he) hdb he hpl) fun s H Q q => l_io hL q
end

/-! ### a op b op c -/
def wChain (o o' : O2) (wa wb wc : WE) : WE := fun m Q => wa m fun x m1 => wb m1 fun y m2 => match y with
  | .fz d => o x (.fz d) fun z => match z with
    | .fz (.bl true) => wc m2 fun w m3 => o' (.fz d) w fun z => Q z m3
    | .fz (.bl false) => Q (.fz (.bl false)) m2
    | _ => False
  | _ => False
section
variable {X : Cx} {a b c : Expr} {wa wb wc : WE} {lk : Lk} {pos : Pos} {r r' : R2} {o o' : O2} {op op' : CmpOp}
theorem l_chain (hs : S2 r o) (hs' : S2 r' o') {s : L2.St} {H : Hp} {Q : VK} (q : LE lk (wChain o o' wa wb wc) s H Q) : tChain r r' (LE lk wa) (LE lk wb) (LE lk wc) s H Q := by
  obtain ⟨B, F, m, vs, ts, P, st, hw, k⟩ := q
  refine ⟨B, F, m, vs, ts, _, st, hw, fun x m1 hx v F1 H1 g1 st1 => ⟨B, F1, m1, _, _, _, st1, hx, fun y m2 hy u F2 H2 g2 st2 => ?_⟩⟩
  split at hy
  · rename_i d
    have hd := st2.tfz.1
    have st2' := St.push st2 hd
    -- u :: v :: vs: the middle value is kept below
    have st3 : St lk B F2 H2 s m2 (u :: v :: u :: vs) (.fz d :: x :: .fz d :: ts) := by
      obtain ⟨_, q1⟩ := st2.tfz
      obtain ⟨f, g, h1, h2, h3, h4⟩ := q1.ex
      rw [RpL] at h2
      obtain ⟨v', vr, f1, f2, e, k1, k2, k3, rfl⟩ := h2
      cases e
      refine St.push ⟨⟨f, fun b => f1 b ∨ f2 b, h1, ?_, h3, h4⟩, q1.fr, q1.bk⟩ hd
      rw [RpL]
      refine ⟨v, _, f1, f2, rfl, k1, ?_, k3, rfl⟩
      rw [RpL]
      refine ⟨u, vs, fun _ => False, f2, rfl, ?_, k2, fun _ z _ => z, by funext b; simp⟩
      simp only [Rp]
      exact ⟨hd, trivial⟩
    refine hs lk B F2 H2 s m2 (u :: vs) (.fz d :: ts) v u x (.fz d) _ _ st3 hy fun z hz zv F3 H3 g3 st4 => ?_
    split at hz
    · obtain ⟨rfl, st5⟩ := st4.tbl
      refine ⟨true, rfl, ?_⟩
      rw [if_pos rfl]
      refine ⟨B, F3, m2, _, _, _, st5, hz, fun w m3 hw3 wv F4 H4 g4 st6 => ?_⟩
      exact hs' lk B F4 H4 s m3 vs ts u wv (.fz d) w _ Q st6 hw3 fun t p tv F5 H5 g5 st7 => k t m3 p tv F5 H5 ((((g1.trans g2).trans g3).trans g4).trans g5) st7
    · obtain ⟨rfl, st5⟩ := st4.tbl
      refine ⟨false, rfl, ?_⟩
      rw [if_neg Bool.false_ne_true]
      exact k _ m2 hz _ F3 H3 ((g1.trans g2).trans g3) (st5.tfz.2.push fzb)
    · exact hz.elim
  · exact hy.elim
theorem v_chain (ho : OpR X (compareOp op) r) (hs : S2 r o) (ho' : OpR X (compareOp op') r') (hs' : S2 r' o') (ha : PE X a (LE lk wa)) (hb : PE X b (LE lk wb)) (hc : PE X c (LE lk wc))
    (hm : lastMarks [op, op'] [b, c] = false := by with_unfolding_all rfl) : PE X (.Compare a [op, op'] [b, c] pos) (LE lk (wChain o o' wa wb wc)) := pe_mono (pe_chain ho ho' ha hb hc hm) fun s H Q q => l_chain hs hs' q
theorem t_chain (ho : OpR X (compareOp op) r) (hs : S2 r o) (ho' : OpR X (compareOp op') r') (hs' : S2 r' o') (ha : PE X a (LE lk wa)) (hb : PE X b (LE lk wb)) (hc : PE X c (LE lk wc))
    (hm : lastMarks [op, op'] [b, c] = false := by with_unfolding_all rfl) : PT X (.Compare a [op, op'] [b, c] pos) (LT lk (wB (wChain o o' wa wb wc))) := pt_mono (pt_chain ho ho' ha hb hc hm) fun s H Q q => l_chain hs hs' (lB q)
end
end VL
set_option Elab.async false
set_option linter.all false
set_option maxRecDepth 100000
set_option maxHeartbeats 4000000
/-! VL12: dicts whose keys are tuples, nested. -/
namespace VL
open PySem PySem.Spec PyProof.Rows L2

/-! ### by values -/
mutual
theorem nk_is {P : Program} {w : World} {H : Hp} {h : Heap} (ok : HOk P w H h) : ∀ {k : NestedKey} {v : V} {u : Value}, NK H k v → RelV v u → NestedIs h k u
  | .none, v, u, hk, r => by
    simp only [NK] at hk
    subst hk
    cases r
    exact .none
  | .num i, v, u, hk, r => by
    simp only [NK] at hk
    subst hk
    obtain ⟨t, rfl⟩ := r
    exact .int i t
  | .text x, v, u, hk, r => by
    simp only [NK] at hk
    subst hk
    obtain ⟨t, rfl⟩ := r
    exact .text x t
  | .tup ks, v, u, hk, r => by
    simp only [NK] at hk
    obtain ⟨a, vs, rfl, e, hl⟩ := hk
    obtain rfl : u = .ref a := r
    obtain ⟨_, its, rv, o, h1, h2, n, h3⟩ := (show ObjOk P w H h a (.tup vs) from ok a _ e)
    exact .tup h1 h2 h3 (by simpa using nkl_is ok hl rv)
theorem nkl_is {P : Program} {w : World} {H : Hp} {h : Heap} (ok : HOk P w H h) : ∀ {ks : List NestedKey} {vs : List V} {us : List Value}, NKL H ks vs → Vals vs us → NestedAll h ks us
  | [], vs, us, hk, r => by
    simp only [NKL] at hk
    subst hk
    cases r
    exact .nil
  | k :: ks, vs, us, hk, r => by
    simp only [NKL] at hk
    obtain ⟨v, vr, rfl, h1, h2⟩ := hk
    cases r with
    | cons r1 r2 => exact .cons (nk_is ok h1 r1) (nkl_is ok h2 r2)
end
abbrev KX := List (NestedKey × Addr × V)
def KNh (H : Hp) (kvs : KX) : Prop := ∀ p ∈ kvs, NK H p.1 (.ref p.2.1) ∧ p.1.depth ≤ 8
def KNx : KX → List (NestedKey × Addr × Value) → Prop := Paired fun p q => p.1 = q.1 ∧ p.2.1 = q.2.1 ∧ RelV p.2.2 q.2.2
def valN (kvs : KX) (k : NestedKey) : Option V := (kvs.find? fun p => decide (p.1 = k)).map (·.2.2)
def storeN (kvs : KX) (k : NestedKey) (b : Addr) (v : V) : KX := if (valN kvs k).isSome = true then kvs.map (fun p => if p.1 = k then (p.1, p.2.1, v) else p) else kvs ++ [(k, b, v)]
theorem KNx.val {kvs : KX} {xs : List (NestedKey × Addr × Value)} (r : KNx kvs xs) (k : NestedKey) : RelO (valN kvs k) ((atKey xs k).map (·.2)) := by
  unfold KNx at r
  induction r with
  | nil => exact True.intro
  | @cons p q ps qs h t ih =>
    obtain ⟨h1, _, h2⟩ := h
    by_cases e : p.1 = k
    · have e' : q.1 = k := h1.symm.trans e
      have b : atKey (q :: qs) k = some q.2 := by simp [atKey, List.find?_cons, e']
      have c : valN (p :: ps) k = some p.2.2 := by simp [valN, List.find?_cons, e]
      rw [b, c]; exact h2
    · have e' : ¬ q.1 = k := fun z => e (h1.trans z)
      have b : atKey (q :: qs) k = atKey qs k := by simp [atKey, List.find?_cons, e']
      have c : valN (p :: ps) k = valN ps k := by simp [valN, List.find?_cons, e]
      rw [b, c]; exact ih
theorem KNx.repl {kvs : KX} {xs : List (NestedKey × Addr × Value)} (r : KNx kvs xs) (k : NestedKey) {y : V} {u : Value} (ry : RelV y u) : KNx (kvs.map fun p => if p.1 = k then (p.1, p.2.1, y) else p) (xs.map (putAt k u)) := by
  unfold KNx at r ⊢
  induction r with
  | nil => exact .nil
  | @cons p q ps qs h t ih =>
    rw [List.map_cons, List.map_cons]
    refine .cons ?_ ih
    obtain ⟨h1, h2, h3⟩ := h
    unfold putAt
    by_cases e : p.1 = k
    · rw [if_pos e, if_pos (h1.symm.trans e)]; exact ⟨h1, h2, ry⟩
    · rw [if_neg e, if_neg (fun z => e (h1.trans z))]; exact ⟨h1, h2, h3⟩
theorem KNx.put {kvs : KX} {xs : List (NestedKey × Addr × Value)} (r : KNx kvs xs) (k : NestedKey) (b : Addr) {y : V} {u : Value} (ry : RelV y u) : KNx (storeN kvs k b y) (storedH xs k b u) := by
  have e : (valN kvs k).isSome = (atKey xs k).isSome := by
    rw [(r.val k).isSome_eq, Option.isSome_map]
  unfold storeN storedH
  rw [e]
  by_cases q : (atKey xs k).isSome = true
  · rw [if_pos q, if_pos q]; exact r.repl k ry
  · rw [if_neg q, if_neg q]; exact Paired.snoc r ⟨rfl, rfl, ry⟩
theorem storeN_len (kvs : KX) (k : NestedKey) (b : Addr) (v : V) : (storeN kvs k b v).length ≤ kvs.length + 1 := by
  unfold storeN
  split
  · rw [List.length_map]; omega
  · simp
theorem KNx.keys {kvs : KX} {xs : List (NestedKey × Addr × Value)} (r : KNx kvs xs) : xs.map (·.1) = kvs.map (·.1) := by
  unfold KNx at r
  induction r with
  | nil => rfl
  | cons h t ih => rw [List.map_cons, List.map_cons, ih, h.1]
theorem dn_of {P : Program} {w : World} {H : Hp} {h : Heap} {a : Addr} {kvs : KX} (ok : HOk P w H h) (e : H a = some (DN P w a kvs)) (kn : KNh H kvs) :
    (a == sysModules) = false ∧ kvs.length ≤ sizeLine ∧ ∃ xs, KNx kvs xs ∧ h.DictOfH (nestedKind P w) a xs := by
  obtain ⟨⟨y, z, nd, xs, r, o, es, ep, h1, h2, h3, h4⟩, _⟩ := (show ObjOk P w H h a (DN P w a kvs) from ok a _ e)
  refine ⟨y, z, xs, r, o, es, ep, h1, h2, h3, h4, ?_, by rw [KNx.keys r]; exact nd⟩
  have all : ∀ {l : KX} {m : List (NestedKey × Addr × Value)}, KNx l m → KNh H l → ∀ x ∈ m, (nestedKind P w).is h x.1 x.2.1 := by
    intro l m q
    unfold KNx at q
    induction q with
    | nil => intro _ x hx; exact nomatch hx
    | @cons p q ps qs hq t ih =>
      intro kn x hx
      rcases List.mem_cons.mp hx with e | hx
      · subst e
        obtain ⟨k1, k2⟩ := kn p List.mem_cons_self
        rw [← hq.1, ← hq.2.1]
        exact ⟨nk_is ok k1 rfl, k2⟩
      · exact ih (fun p hp => kn p (List.mem_cons_of_mem _ hp)) x hx
  exact all r kn
/-- what stands at y in the dict at a -/
def DNGet (P : Program) (w : World) (H : Hp) (a : Addr) (y : V) (r : Option V) : Prop := ∃ kvs k b, H a = some (DN P w a kvs) ∧ KNh H kvs ∧ y = .ref b ∧ NK H k (.ref b) ∧ k.depth ≤ 8 ∧ r = valN kvs k
section
variable {X : Cx} {pins : List (Addr × Obj)} {σ : L2.St} {H : Hp} {s : Shared} {a : Addr} {y v : V} {u r : Value} {o : Option V} {A : Around} {E : Value → Shared → Prop}
theorem room8 (hu : A.units + 64 < cLine) : (nestedKind X.prog X.w).room A.in1 := by
  show A.units + 1 + 8 < cLine
  omega
theorem dn_getItem {Q : Value → Shared → Prop} (hu : A.units + 64 < cLine) (I : Inv X pins σ H s) (g : DNGet X.prog X.w H a y (some v)) (ry : RelV y u) (h : ∀ w' s', Inv X pins σ H s' → RelV v w' → Q w' s') :
    wpAny (model X.prog X.w) A (getItem (.ref a) u) Q E s := by
  obtain ⟨kvs, k, b, e, kn, rfl, nk, dp, l⟩ := g
  cases (show u = Value.ref b from ry)
  obtain ⟨hd, z, xs, rel, dd⟩ := dn_of I.hok e kn
  obtain ⟨w', hw, rw'⟩ := RelO.some_of (v := v) (o := (atKey xs k).map (·.2)) (by rw [l]; exact rel.val k)
  obtain ⟨p, hp, hp2⟩ := Option.map_eq_some_iff.mp hw
  refine wpAny_getItem_heap (room8 hu) ⟨nk_is I.hok nk rfl, dp⟩ dd hp ?_
  rw [hp2]
  exact h w' _ (I.tok _) rw'
theorem dn_in {Q : Value → Shared → Prop} (hu : A.units + 64 < cLine) (I : Inv X pins σ H s) (g : DNGet X.prog X.w H a y o) (ry : RelV y u) (h : ∀ s', Inv X pins σ H s' → Q (.bool o.isSome) s') :
    wpAny (model X.prog X.w) A (compareOp .In u (.ref a)) Q E s := by
  obtain ⟨kvs, k, b, e, kn, rfl, nk, dp, l⟩ := g
  cases (show u = Value.ref b from ry)
  obtain ⟨hd, z, xs, rel, dd⟩ := dn_of I.hok e kn
  refine wpAny_in_heap (room8 hu) ⟨nk_is I.hok nk rfl, dp⟩ hd dd ?_
  have q := (rel.val k).isSome_eq
  rw [Option.isSome_map] at q
  rw [← q, ← l]
  exact h _ (I.tok _)
theorem dn_notIn {Q : Value → Shared → Prop} (hu : A.units + 64 < cLine) (I : Inv X pins σ H s) (g : DNGet X.prog X.w H a y o) (ry : RelV y u) (h : ∀ s', Inv X pins σ H s' → Q (.bool (!o.isSome)) s') :
    wpAny (model X.prog X.w) A (compareOp .NotIn u (.ref a)) Q E s := by
  obtain ⟨kvs, k, b, e, kn, rfl, nk, dp, l⟩ := g
  cases (show u = Value.ref b from ry)
  obtain ⟨hd, z, xs, rel, dd⟩ := dn_of I.hok e kn
  refine wpAny_notIn_heap (room8 hu) ⟨nk_is I.hok nk rfl, dp⟩ hd dd ?_
  have q := (rel.val k).isSome_eq
  rw [Option.isSome_map] at q
  rw [← q, ← l]
  exact h _ (I.tok _)
theorem dnx_stays {P : Program} {w : World} {h1 h2 : Heap} {kvs : KX} (x : DNx P w a kvs h1) (k : ∀ o, h1.get? a = some o → h2.get? a = some o) : DNx P w a kvs h2 := by
  obtain ⟨y, z, nd, xs, r, o, es, ep, e1, e2⟩ := x
  exact ⟨y, z, nd, xs, r, o, es, ep, k _ e1, e2⟩
theorem dn_setItem {kvs : KX} {k : NestedKey} {b : Addr} {Q : Unit → Shared → Prop} (hu : A.units + 64 < cLine) (I : Inv X pins σ H s) (e : H a = some (DN X.prog X.w a kvs)) (kn : KNh H kvs) (nk : NK H k (.ref b)) (dp : k.depth ≤ 8) (hz : kvs.length < sizeLine) (rv : RelV v r)
    (h : ∀ s', Inv X pins σ (upd H a (DN X.prog X.w a (storeN kvs k b v))) s' → Q () s') : wpAny (model X.prog X.w) A (setItem (.ref a) (.ref b) r) Q E s := by
  obtain ⟨hd, z, xs, rel, dd⟩ := dn_of I.hok e kn
  have hx : xs.length ≤ sizeLine := by rw [← Paired.length rel]; exact z
  refine wpAny_setItem_heap (hsz := hx) (room8 hu) ⟨nk_is I.hok nk rfl, dp⟩ dd fun h' dd' hs => h _ ?_
  obtain ⟨q, es, ep, hq, h2, h3, h4, _, h5⟩ := dd'
  have rel' := rel.put k b rv
  refine d_write I (by rw [e]; exact True.intro) hs ⟨q, hq⟩ ⟨⟨hd, ?_, ?_, _, rel', q, es, ep, hq, h2, h3, h4⟩, ⟨q, hq⟩, fun h1 h2 x k => dnx_stays x k⟩
  · have := storeN_len kvs k b v
    omega
  · rw [← rel'.keys]
    exact h5
theorem dn_len {kvs : KX} {Q : Value → Shared → Prop} (I : Inv X pins σ H s) (e : H a = some (DN X.prog X.w a kvs)) (kn : KNh H kvs) (h : ∀ t s', Inv X pins σ H s' → Q (.int kvs.length t) s') : wpAny (model X.prog X.w) A (call (.builtin "len") [.ref a]) Q E s := by
  obtain ⟨hd, z, xs, rel, dd⟩ := dn_of I.hok e kn
  have hl := Paired.length rel
  refine call_len_dictH hd dd (by rw [← hl]; rw [sizeLine_eq] at z; omega) ?_
  rw [← hl]
  exact h _ _ (I.tok _)
theorem dn_typeIs {kvs : KX} (I : Inv X pins σ H s) (e : H a = some (DN X.prog X.w a kvs)) (kn : KNh H kvs) : s.TypeIs (.ref a) "dict" := by
  obtain ⟨_, _, xs, _, dd⟩ := dn_of I.hok e kn
  exact dd.typeIs
end
section
variable {X : Cx} {pos : Pos}
def tDNewN (P : Program) (w : World) : TE := fun _ H Q => ∀ p, H p = none → Q (.ref p) (upd H p (DN P w p []))
theorem pe_dnewN : PE X (.Dict [] [] pos) (tDNewN X.prog X.w) := ⟨fun pins s σ H Q I h =>
  wpAny_Dict_empty ⟨.ref s.heap.objs.size, _, I.laid (a := s.heap.objs.size) (o := DN X.prog X.w s.heap.objs.size []) (t' := s.toks) (fun _ _ q => Heap.get?_push_of_some _ q) (Nat.le_refl _)
    ⟨⟨beq_eq_false_iff_ne.mpr (Ne.symm (Nat.ne_of_lt I.big)), Nat.zero_le _, List.nodup_nil, [], .nil, _, #[], 0, Heap.get?_push_size _ rfl, ⟨rfl, rfl, rfl⟩, rfl, rfl⟩, ⟨_, Heap.get?_push_size _ rfl⟩, fun h1 h2 x k => dnx_stays x k⟩, rfl, h _ (I.hok.fresh (Nat.le_refl _))⟩⟩
def rNIn (P : Program) (w : World) (neg : Bool) : R2 := fun x y H Q => ∃ a o, y = .ref a ∧ DNGet P w H a x o ∧ Q (.bl (if neg then !o.isSome else o.isSome)) H
theorem op_inN (hu : X.A.units + 64 < cLine) : OpR X (compareOp .In) (rNIn X.prog X.w false) := by
  intro pins s σ H x y v u Q I rx ry h
  obtain ⟨a, o, rfl, g, q⟩ := h
  obtain rfl : u = .ref a := ry
  exact dn_in hu I g rx fun s' I' => ⟨.bl _, H, I', rfl, q⟩
theorem op_notInN (hu : X.A.units + 64 < cLine) : OpR X (compareOp .NotIn) (rNIn X.prog X.w true) := by
  intro pins s σ H x y v u Q I rx ry h
  obtain ⟨a, o, rfl, g, q⟩ := h
  obtain rfl : u = .ref a := ry
  exact dn_notIn hu I g rx fun s' I' => ⟨.bl _, H, I', rfl, q⟩
def rNIx (P : Program) (w : World) : R2 := fun x y H Q => ∃ a v, x = .ref a ∧ DNGet P w H a y (some v) ∧ Q v H
theorem ix_N (hu : X.A.units + 64 < cLine) : IxR X (rNIx X.prog X.w) := by
  intro value slice pins s σ H x y v u Q I rx ry h hs
  obtain ⟨a, z, rfl, g, q⟩ := h
  obtain rfl : v = Value.ref a := rx
  refine tail_any ?_ PySem.F.slot_dict_getitem.lookup (dn_getItem hu I g ry fun w' s3 I3 rw' => ⟨z, H, I3, rw', q⟩) hs
  obtain ⟨kvs, k, b, e, kn, _⟩ := g
  exact dn_typeIs I e kn
def rNSet (P : Program) (w : World) : TSet := fun o i v H Q => ∃ a kvs k b, o = .ref a ∧ i = .ref b ∧ H a = some (DN P w a kvs) ∧ KNh H kvs ∧ NK H k (.ref b) ∧ k.depth ≤ 8 ∧ kvs.length < sizeLine ∧ Q (upd H a (DN P w a (storeN kvs k b v)))
theorem set_N (hu : X.A.units + 64 < cLine) : PSet X (rNSet X.prog X.w) := by
  intro pins s σ H o i v ov iv u Q I ro ri rv h
  obtain ⟨a, kvs, k, b, rfl, rfl, e, kn, nk, dp, hz, q⟩ := h
  cases (show ov = Value.ref a from ro)
  cases (show iv = Value.ref b from ri)
  exact dn_setItem hu I e kn nk dp hz rv fun s' I' => ⟨_, I', q⟩
theorem call_lenN : CallR X (.builtin "len") (fun xs H Q => ∃ a kvs, xs = [V.ref a] ∧ H a = some (DN X.prog X.w a kvs) ∧ KNh H kvs ∧ Q (.int kvs.length) H) := by
  intro pins s σ H xs us Q I r h
  obtain ⟨a, kvs, rfl, e, kn, q⟩ := h
  obtain rfl := Vals.ref1 r
  exact dn_len I e kn fun t s' I' => ⟨.int kvs.length, H, I', ⟨t, rfl⟩, q⟩
end

/-! ### over the trees -/
mutual
def dNK : D → Option NestedKey
  | .non => some .none
  | .int i => some (.num i)
  | .str x => some (.text x)
  | .tup l => match dNKL l with
    | some ks => some (.tup ks)
    | none => none
  | _ => none
def dNKL : List D → Option (List NestedKey)
  | [] => some []
  | d :: l => match dNK d, dNKL l with
    | some k, some ks => some (k :: ks)
    | _, _ => none
end
mutual
theorem nk_fz {F : Hp} : ∀ {d : D} {v : V} {k : NestedKey}, Fz F d v → dNK d = some k → NK F k v
  | .non, v, k, h, e => by
    cases e
    simp only [NK]
    exact fz_non h
  | .bl _, v, k, h, e => by simp [dNK] at e
  | .int i, v, k, h, e => by
    cases e
    simp only [NK]
    exact fz_int h
  | .str x, v, k, h, e => by
    cases e
    simp only [NK]
    exact fz_str h
  | .lst _, v, k, h, e => by simp [dNK] at e
  | .tup l, v, k, h, e => by
    unfold dNK at e
    split at e
    · rename_i ks ek
      cases e
      simp only [Fz] at h
      obtain ⟨a, vs, e1, e2, e3⟩ := h
      simp only [NK]
      exact ⟨a, vs, e1, e2, nkl_fz e3 ek⟩
    · cases e
  | .dct _ _, v, k, h, e => by simp [dNK] at e
  | .ins _ _ _, v, k, h, e => by simp [dNK] at e
  | .any, v, k, h, e => by simp [dNK] at e
  | .scr _ _, v, k, h, e => by simp [dNK] at e
theorem nkl_fz {F : Hp} : ∀ {l : List D} {vs : List V} {ks : List NestedKey}, FzL F l vs → dNKL l = some ks → NKL F ks vs
  | [], vs, ks, h, e => by
    cases e
    simp only [NKL]
    simpa only [FzL] using h
  | d :: l, vs, ks, h, e => by
    unfold dNKL at e
    split at e
    · rename_i k ks' e1 e2
      cases e
      simp only [FzL] at h
      obtain ⟨v, vr, rfl, h1, h2⟩ := h
      simp only [NKL]
      exact ⟨v, vr, rfl, nk_fz h1 e1, nkl_fz h2 e2⟩
    · cases e
end
/-- a key that a dict of nested tuples takes -/
def keyN (d : D) : Option NestedKey := match d with
  | .tup l => match dNK (.tup l) with
    | some k => if k.depth ≤ 8 then some k else none
    | none => none
  | _ => none
theorem keyN_ok {F : Hp} {d : D} {v : V} {k : NestedKey} (h : Fz F d v) (e : keyN d = some k) : ∃ b, v = .ref b ∧ NK F k (.ref b) ∧ k.depth ≤ 8 := by
  unfold keyN at e
  split at e
  · rename_i l
    split at e
    · rename_i k' ek
      split at e
      · rename_i hd
        cases e
        have := nk_fz h ek
        simp only [Fz] at h
        obtain ⟨a, vs, rfl, _⟩ := h
        exact ⟨a, rfl, this, hd⟩
      · cases e
    · cases e
  · cases e
abbrev ES := List (NestedKey × D)
def lookE (es : ES) (k : NestedKey) : Option D := (es.find? fun p => decide (p.1 = k)).map (·.2)
def storeE (es : ES) (k : NestedKey) (d : D) : ES := if (lookE es k).isSome = true then es.map (fun p => if p.1 = k then (p.1, d) else p) else es ++ [(k, d)]
theorem kn_val {F : Hp} {kvs : KX} {es : ES} (r : Paired (KNr F) kvs es) (k : NestedKey) : (∀ d, lookE es k = some d → ∃ v, valN kvs k = some v ∧ Fz F d v) ∧ (lookE es k = none → valN kvs k = none) := by
  induction r with
  | nil => exact ⟨fun d e => by simp [lookE] at e, fun _ => rfl⟩
  | @cons p q ps qs h t ih =>
    obtain ⟨h1, _, h2⟩ := h
    by_cases e : p.1 = k
    · have e' : q.1 = k := h1.symm.trans e
      have b : lookE (q :: qs) k = some q.2 := by simp [lookE, List.find?_cons, e']
      have c : valN (p :: ps) k = some p.2.2 := by simp [valN, List.find?_cons, e]
      rw [b, c]
      exact ⟨fun d z => ⟨_, rfl, by cases z; exact h2⟩, fun z => by cases z⟩
    · have e' : ¬ q.1 = k := fun z => e (h1.trans z)
      have b : lookE (q :: qs) k = lookE qs k := by simp [lookE, List.find?_cons, e']
      have c : valN (p :: ps) k = valN ps k := by simp [valN, List.find?_cons, e]
      rw [b, c]
      exact ih
theorem kn_some {F : Hp} {kvs : KX} {es : ES} (r : Paired (KNr F) kvs es) (k : NestedKey) : (valN kvs k).isSome = (lookE es k).isSome := by
  cases q : lookE es k with
  | none =>
    rw [(kn_val r k).2 q]
    rfl
  | some d =>
    obtain ⟨v, e, _⟩ := (kn_val r k).1 d q
    rw [e]
    rfl
theorem kn_store {F : Hp} {kvs : KX} {es : ES} (r : Paired (KNr F) kvs es) {k : NestedKey} {b : Addr} {v : V} {d : D} (nk : NK F k (.ref b)) (dp : k.depth ≤ 8) (hv : Fz F d v) : Paired (KNr F) (storeN kvs k b v) (storeE es k d) := by
  unfold storeN storeE
  rw [kn_some r k]
  by_cases q : (lookE es k).isSome = true
  · rw [if_pos q, if_pos q]
    clear q
    induction r with
    | nil => exact .nil
    | @cons p q ps qs h t ih =>
      rw [List.map_cons, List.map_cons]
      refine .cons ?_ ih
      obtain ⟨h1, h2, h3⟩ := h
      by_cases e : p.1 = k
      · rw [if_pos e, if_pos (h1.symm.trans e)]; exact ⟨h1, h2, hv⟩
      · rw [if_neg e, if_neg (fun z => e (h1.trans z))]; exact ⟨h1, h2, h3⟩
  · rw [if_neg q, if_neg q]
    exact Paired.snoc r ⟨rfl, ⟨nk, dp⟩, hv⟩
theorem kn_h {F H : Hp} (st : ∀ a vs, F a = some (.tup vs) → H a = some (.tup vs)) {kvs : KX} {es : ES} (r : Paired (KNr F) kvs es) : KNh H kvs := by
  induction r with
  | nil => exact fun p hp => nomatch hp
  | @cons p q ps qs h t ih =>
    intro x hx
    rcases List.mem_cons.mp hx with e | hx
    · subst e
      exact ⟨h.2.1.1.mono st, h.2.1.2⟩
    · exact ih x hx
def wNewN (P : Program) (w : World) : WE := fun m Q => Q (.on P w []) m
def wInN (P : Program) (w : World) (neg : Bool) (wa : WE) (i : Nat) : WE := fun m Q => wa m fun x m1 => match look m1 i, keyN x.er with
  | some (.on P' w' es), some k => (P' = P ∧ w' = w) ∧ Q (.fz (.bl (if neg then !(lookE es k).isSome else (lookE es k).isSome))) m1
  | _, _ => False
def wIxN (P : Program) (w : World) (i : Nat) (wb : WE) : WE := fun m Q => (look m i).isSome = true ∧ wb m fun y m1 => match look m1 i, keyN y.er with
  | some (.on P' w' es), some k => (P' = P ∧ w' = w) ∧ match lookE es k with
    | some d => Q (.fz d) m1
    | none => False
  | _, _ => False
def wLenN (P : Program) (w : World) (i : Nat) : WE := fun m Q => match look m i with
  | some (.on P' w' es) => (P' = P ∧ w' = w) ∧ Q (.fz (.int es.length)) m
  | _ => False
def wPutN (P : Program) (w : World) (i : Nat) (we wk : WE) : WS := fun m E => we m fun t m1 => (look m1 i).isSome = true ∧ wk m1 fun k m2 => match look m2 i, keyN k.er with
  | some (.on P' w' es), some k => (P' = P ∧ w' = w ∧ es.length < sizeLine) ∧ E.nx (m2.set i (some (.on P' w' (storeE es k t.er))))
  | _, _ => False
section
variable {X : Cx} {lk : Lk} {kp : Nat → Prop} {W : WX} {wa wb we wk : WE} {x : Str} {p1 pos cpos p : Pos} {a e ek : Expr}
theorem v_newN : PE X (.Dict [] [] pos) (LE lk (wNewN X.prog X.w)) := pe_mono pe_dnewN fun s H Q q => by
  obtain ⟨B, F, m, vs, ts, P, st, hw, k⟩ := q
  intro p hp
  refine k _ m hw _ F _ (Gr.refl B F) (st.own0 hp fun H' e => ?_)
  simp only [Rp]
  exact ⟨p, [], rfl, e, .nil, by funext b; simp⟩
theorem St.onV {B F H : Hp} {s : L2.St} {m : Tau} {vs : List V} {ts : List T} {i : Nat} {P : Program} {w : World} {es : ES} (st : St lk B F H s m vs ts) (e : look m i = some (.on P w es)) :
    ∃ a kvs, s[i]? = some (some (.ref a)) ∧ H a = some (DN P w a kvs) ∧ Paired (KNr F) kvs es ∧ KNh H kvs := by
  obtain ⟨v, f, e1, r⟩ := st.lookV e
  simp only [Rp] at r
  obtain ⟨a, kvs, rfl, e2, e3, _⟩ := r
  exact ⟨a, kvs, e1, e2, e3, kn_h (fun a vs z => st.frt z) e3⟩
theorem l_inN {neg : Bool} {i : Nat} {P : Program} {w : World} {s : L2.St} {H : Hp} {Q : VK} (q : LE lk (wInN P w neg wa i) s H Q) : LE lk wa s H fun x H1 => ∃ v, s[i]? = some (some v) ∧ rNIn P w neg x v H1 Q := by
  obtain ⟨B, F, m, vs, ts, P', st, hw, k⟩ := q
  refine ⟨B, F, m, vs, ts, _, st, hw, fun x m1 hx v F1 H1 g1 st1 => ?_⟩
  split at hx
  · rename_i P2 w2 es kk el ek
    obtain ⟨⟨rfl, rfl⟩, hx⟩ := hx
    obtain ⟨F2, g2, st2⟩ := st1.freeze
    obtain ⟨hd, st3⟩ := st2.tfz
    obtain ⟨b, rfl, nk, dp⟩ := keyN_ok hd ek
    obtain ⟨a, kvs, e1, e2, e3, e4⟩ := st3.onV el
    refine ⟨_, e1, a, valN kvs kk, rfl, ⟨kvs, kk, b, e2, e4, rfl, nk.mono fun a vs z => st3.frt z, dp, rfl⟩, ?_⟩
    rw [kn_some e3]
    exact k _ m1 hx _ F2 H1 (g1.trans g2) (st3.push fzb)
  · exact hx.elim
theorem v_inN (i : Nat) (hu : X.A.units + 64 < cLine) (ha : PE X a (LE lk wa)) (hn : PE X (.Name x p1) (tVar i)) (hm : behindInMarks .In (.Name x p1) = false := by with_unfolding_all rfl) : PE X (.Compare a [.In] [.Name x p1] pos) (LE lk (wInN X.prog X.w false wa i)) :=
  pe_mono (pe_cmpR (op_inN hu) ha hn hm) fun s H Q q => l_inN q
theorem v_notInN (i : Nat) (hu : X.A.units + 64 < cLine) (ha : PE X a (LE lk wa)) (hn : PE X (.Name x p1) (tVar i)) (hm : behindInMarks .NotIn (.Name x p1) = false := by with_unfolding_all rfl) : PE X (.Compare a [.NotIn] [.Name x p1] pos) (LE lk (wInN X.prog X.w true wa i)) :=
  pe_mono (pe_cmpR (op_notInN hu) ha hn hm) fun s H Q q => l_inN q
theorem t_inN (i : Nat) (hu : X.A.units + 64 < cLine) (ha : PE X a (LE lk wa)) (hn : PE X (.Name x p1) (tVar i)) (hm : behindInMarks .In (.Name x p1) = false := by with_unfolding_all rfl) : PT X (.Compare a [.In] [.Name x p1] pos) (LT lk (wB (wInN X.prog X.w false wa i))) :=
  pt_mono (pt_cmpR (op_inN hu) ha hn hm) fun s H Q q => l_inN (lB q)
theorem t_notInN (i : Nat) (hu : X.A.units + 64 < cLine) (ha : PE X a (LE lk wa)) (hn : PE X (.Name x p1) (tVar i)) (hm : behindInMarks .NotIn (.Name x p1) = false := by with_unfolding_all rfl) : PT X (.Compare a [.NotIn] [.Name x p1] pos) (LT lk (wB (wInN X.prog X.w true wa i))) :=
  pt_mono (pt_cmpR (op_notInN hu) ha hn hm) fun s H Q q => l_inN (lB q)
theorem v_ixN (i : Nat) (hu : X.A.units + 64 < cLine) (hn : PE X (.Name x p1) (tVar i)) (hb : PE X e (LE lk wb)) (hp : PlainIx e := by first | exact fun _ _ => rfl | (intro _ _; rfl)) : PE X (.Subscript (.Name x p1) e pos) (LE lk (wIxN X.prog X.w i wb)) :=
  pe_mono (pe_ix (ix_N hu) hn hb hp) fun s H Q q => by
    obtain ⟨B, F, m, vs, ts, P', st, ⟨e0, hw⟩, k⟩ := q
    obtain ⟨t0, e0⟩ := Option.isSome_iff_exists.mp e0
    obtain ⟨v0, f0, ev, _⟩ := st.lookV e0
    refine ⟨v0, ev, B, F, m, vs, ts, _, st, hw, fun y m1 hy u F1 H1 g1 st1 => ?_⟩
    split at hy
    · rename_i P2 w2 es kk el ek
      obtain ⟨⟨rfl, rfl⟩, hy⟩ := hy
      split at hy
      · rename_i d ed
        obtain ⟨F2, g2, st2⟩ := st1.freeze
        obtain ⟨hd, st3⟩ := st2.tfz
        obtain ⟨b, rfl, nk, dp⟩ := keyN_ok hd ek
        obtain ⟨a, kvs, e1, e2, e3, e4⟩ := st3.onV el
        rw [ev] at e1
        cases e1
        obtain ⟨v, e5, e6⟩ := (kn_val e3 kk).1 d ed
        exact ⟨a, v, rfl, ⟨kvs, kk, b, e2, e4, rfl, nk.mono fun a vs z => st3.frt z, dp, e5.symm⟩, k _ m1 hy v F2 H1 (g1.trans g2) (st3.push e6)⟩
      · exact hy.elim
    · exact hy.elim
theorem v_lenN (i : Nat) (hm : X.mg "len" = none) (hn : PE X (.Name x p1) (tVar i)) (hg : Gl X "len" := by rfl) (hst : starEach [.Name x p1] X.env = (false, eval (.Name x p1) X.env) :: starEach [] X.env := by rfl) (hpl : (backTo cpos (starEach [] X.env)).any (·.1) = false := by rfl) :
    PE X (.Call (.Name "len" p) [.Name x p1] [] cpos) (LE lk (wLenN X.prog X.w i)) := pe_mono (pe_callB call_lenN hg hm PySem.boot_len (pa_cons hn pa_nil hst) (by decide) (by decide) hst hpl) fun s H Q q => by
  obtain ⟨B, F, m, vs, ts, P', st, hw, k⟩ := q
  unfold wLenN at hw
  split at hw
  · rename_i P2 w2 es el
    obtain ⟨⟨rfl, rfl⟩, hw⟩ := hw
    obtain ⟨a, kvs, e1, e2, e3, e4⟩ := st.onV el
    refine ⟨_, e1, a, kvs, rfl, e2, e4, ?_⟩
    rw [Paired.length e3]
    exact k _ m hw _ F H (Gr.refl B F) (st.push fzi)
  · exact hw.elim
theorem s_putN (i : Nat) {tpos : Pos} (hu : X.A.units + 64 < cLine) (hn : PE X (.Name x p1) (tVar i)) (hk : PE X ek (LE lk wk)) (he : PE X e (LE lk we))
    (ha : ∀ v, assign (.Subscript (.Name x p1) ek tpos) X.env v = (do
      let ov ← holding [v] (eval (.Name x p1) X.env)
      let iv ← holding [v, ov] (eval ek X.env)
      standAt tpos
      holding [v, ov, iv] (setItem ov iv v)
      release [v, ov, iv] []) := by intro _; rfl)
    (hs : swapsWithSole [.Subscript (.Name x p1) ek tpos] e pos.line X.env = pure false := by rfl) (hw : swappedStores [.Subscript (.Name x p1) ek tpos] e X.env = pure none := by rfl)
    (h1 : (assignEach [.Subscript (.Name x p1) ek tpos] X.env).map (·.2) = [assign (.Subscript (.Name x p1) ek tpos) X.env] := by rfl) :
    PS X (.Assign [.Subscript (.Name x p1) ek tpos] e pos) (LS lk kp W (wPutN X.prog X.w i we wk)) := ps_mono (ps_asg he (pg_sub hn hk (set_N hu) ha) hs hw h1) fun D s H q => by
  obtain ⟨B, F, m, vs, ts, E, st, hw, k⟩ := q
  refine ⟨B, F, m, vs, ts, _, st, hw, fun t m1 ht v F1 H1 g1 st1 => ?_⟩
  obtain ⟨e0, ht⟩ := ht
  obtain ⟨t0, e0⟩ := Option.isSome_iff_exists.mp e0
  obtain ⟨v0, f0, ev, r0⟩ := st1.lookV e0
  refine ⟨v0, ev, B, F1, m1, _, _, _, st1, ht, fun y m2 hy u F2 H2 g2 st2 => ?_⟩
  split at hy
  · rename_i P2 w2 es kk el ek
    obtain ⟨⟨rfl, rfl, hz⟩, hy⟩ := hy
    obtain ⟨F3, g3, st3⟩ := st2.freeze
    obtain ⟨hd, st4⟩ := st3.tfz
    obtain ⟨F4, g4, st5⟩ := st4.freeze
    obtain ⟨hv, st6⟩ := st5.tfz
    have hd := hd.mono g4.same
    obtain ⟨b, rfl, nk, dp⟩ := keyN_ok hd ek
    obtain ⟨a, kvs, e1, e2, e3, e4⟩ := st6.onV el
    rw [ev] at e1
    cases e1
    refine ⟨a, kvs, kk, b, rfl, rfl, e2, e4, nk.mono fun a vs z => st6.frt z, dp, by rw [Paired.length e3]; exact hz, ?_⟩
    refine k.nx _ hy s F4 _ (((g1.trans g2).trans g3).trans g4) Kp.refl ?_
    refine St.mut (us := []) (xs := []) st6 rfl (look_some el) ev fun f g r rl dj => ?_
    simp only [Rp] at r
    obtain ⟨a', kvs', qe, j1, j2, rfl⟩ := r
    cases qe
    refine ⟨rfl, fun b => b = a, fun b z => .inl z, ?_⟩
    simp only [Rp]
    exact ⟨a, _, rfl, upd_same, kn_store e3 nk dp hv, rfl⟩
  · exact hy.elim
end
end VL
set_option Elab.async false
set_option linter.all false
set_option maxRecDepth 100000
set_option maxHeartbeats 4000000
/-! VL13: defs under no open repr (FnG), the law's call; repr; the script; lists whose items are handed out; subscripts of what is in hand; keywords. -/
namespace VL
open PySem PySem.Spec PyProof.Rows L2

/-! ### defs that run where no repr is under way -/
structure FnG (P : Program) (w : World) (K : PySem.W.Frag) (mg : Str → Option Value) (base : Heap) (CX : CXT) (k : Nat) (f : Addr) (fd : FuncData) (ps : List Str) (sp : Sp) : Prop where
  len : ∀ vs H Q E, sp vs H Q E → vs.length = ps.length
  run : ∀ (A : Around) (outer : List Env) (s : Shared) (H : Hp) (args : Args) (us : List Value) (vs : List V) (Q : VK) (E : XK), A.guards = some [] → Room k A → Env0 P w K mg base A outer s H → BindsTo s fd args (ps.zip us) → Vals vs us → sp vs H Q E →
    codeAny (model P w) A (.call (.ref f) args) (CR CX outer P w H s Q E) s
theorem FnG.of {P : Program} {w : World} {K : PySem.W.Frag} {mg : Str → Option Value} {base : Heap} {CX : CXT} {k : Nat} {f : Addr} {fd : FuncData} {ps : List Str} {sp : Sp} (h : FnOk P w K mg base CX k f fd ps sp) : FnG P w K mg base CX k f fd ps sp :=
  ⟨h.len, fun A outer s H args us vs Q E _ hr he hb hv hs => h.run A outer s H args us vs Q E hr he hb hv hs⟩
theorem FnG.mono {P : Program} {w : World} {K : PySem.W.Frag} {mg : Str → Option Value} {base : Heap} {CX : CXT} {j k : Nat} {f : Addr} {fd : FuncData} {ps : List Str} {sp : Sp} (h : FnG P w K mg base CX j f fd ps sp) (l : j ≤ k) : FnG P w K mg base CX k f fd ps sp :=
  ⟨h.len, fun A outer s H args us vs Q E hg hr => h.run A outer s H args us vs Q E hg (hr.mono l)⟩
section
variable {Pg : Program} {wd : World} {K : PySem.W.Frag} {mg : Str → Option Value} {base : Heap} {x qual : Str} {params : Arguments} {body : List Stmt} {scope : Scope} {dvs : List V} {kws : List (Str × V)} {f : Addr} {fd : FuncData} {CX : CXT} {N ps : List Str} {k : Nat} {sp : Sp}
theorem fnG (Fn : FunD K x qual params body scope dvs kws f fd) (S : FnScope N ps scope) (len : ∀ vs H Q E, sp vs H Q E → vs.length = ps.length)
    (hbody : ∀ (cdv : Value) (A : Around) (outer : List Env) (s : Shared) (H : Hp) (vs : List V) (Q : VK) (E : XK), A.guards = some [] → Room k (A.deeper (envOfC qual scope s.heap.objs.size f cdv)) → sp vs H Q E →
      ∃ t, PSs (cxOf CX Pg wd K mg base N qual scope f cdv A outer s H E) body t ∧ t { nx := fun _ H' => Q .non H', rt := Q } (L2.start N vs) H) : FnG Pg wd K mg base CX (k + 1) f fd ps sp := by
  obtain ⟨oc, od, dV, kV, doc, pm, an, cdv, ct, osl, rfl, lk, hcd, _, _⟩ := Fn.ex
  refine ⟨len, fun A outer s H args us vs Q E hg hr e0 hb r hsp => ?_⟩
  have stands : ∀ b o, base.get? b = some o → s.heap.get? b = some o := fun b o e => (e0.bs b o e).1
  have inK : K.In s.heap := e0.mod.kin.keeps stands
  obtain ⟨t, ht, hq⟩ := hbody cdv A outer s H vs Q E hg (hr.deeper _) hsp
  refine codeAny_call_function hr.depth (inK _ _ lk) rfl S.co S.gen rfl (PySem.W.codeRec_of inK hcd) (hb _ _ _ _ (wpAny_newFunctionEnv_cells S.kind ?_ fun env he s1 x => ?_))
  · rintro ⟨n, v⟩ hy
    exact (S.par n (List.of_mem_zip hy).1).imp id fun q => ⟨q, PySem.W.cellsFrom_some _ _ _ (.inl q)⟩
  · subst he
    refine ⟨(e0.mod.nolimit.keeps stands).keeps x.toInCall.keep, codeAny_func ?_⟩
    have I := inv_start (CX := CX) (E := E) S hr.hd e0 (len _ _ _ _ hsp) r x
    refine wpAny_mono (ht.run [] s1 (L2.start N vs) H _ I hq) (fun fl s' hs => ?_) fun e s' hs => hs
    cases fl with
    | ret u => exact let ⟨v, _, H', J, rv, q⟩ := hs; ⟨v, H', J.os, J.bare, J.base, J.hok, rv, q⟩
    | next => exact let ⟨_, H', J, q⟩ := hs; ⟨.non, H', J.os, J.bare, J.base, J.hok, rfl, q⟩
    | brk => exact let ⟨_, _, _, q⟩ := hs; q.elim
    | cont => exact let ⟨_, _, _, q⟩ := hs; q.elim
variable {L : Lk → Prop}
theorem ok_fnG {o : OX} {w : WS} (Fn : FunD K x qual params body scope dvs kws f fd) (S : FnScope N ps scope) (hp : xs0 = ps.length)
    (hb : ∀ (lk : Lk), L lk → ∀ (cdv : Value) (A : Around) (outer : List Env) (s : Shared) (H : Hp) (E : XK), A.guards = some [] → Room k (A.deeper (envOfC qual scope s.heap.objs.size f cdv)) → PSs (cxOf CX Pg wd K mg base N qual scope f cdv A outer s H E) body (LS lk noK (wxOf E) w))
    (spec : ∀ xs P R, xs.length = xs0 → o xs P R → w (startT N.length xs) ⟨fun _ => P (.fz .non), fun t _ => P t, fun _ => False, fun _ => False, fun e _ => R e⟩) : FnG Pg wd K mg base CX (k + 1) f fd ps (spV L xs0 o) := by
  refine fnG Fn S (fun vs H Q E h => h.1.trans hp) fun cdv A outer s H us Q E hg hr h => ?_
  obtain ⟨hn, lk, B, F, xs, P, R, hL, hl, st, ho, k1, k2⟩ := h
  refine ⟨_, hb lk hL cdv A outer s H E hg hr, B, F, _, [], [], _, st.start N hl, spec xs P R (hl ▸ hn) ho, ?_, ?_, ?_, ?_, ?_⟩
  · exact fun m' p s' F' H' g kk st' => k1 _ p .non F' H' g (st'.noslots.push fzn)
  · exact fun t m' p s' v F' H' g kk st' => k1 t p v F' H' g st'.noslots
  · exact fun m' p => p.elim
  · exact fun m' p => p.elim
  · exact fun e m' p s' F' H' cls d g kk st' x => k2 e p F' H' cls d g st'.noslots x
theorem ok_ioG {o : OIO} {w : WS} (Fn : FunD K x qual params body scope dvs kws f fd) (S : FnScope N ps scope) (hp : xs0 = ps.length)
    (hb : ∀ (lk : Lk), L lk → ∀ (cdv : Value) (A : Around) (outer : List Env) (s : Shared) (H : Hp) (E : XK), A.guards = some [] → Room k (A.deeper (envOfC qual scope s.heap.objs.size f cdv)) → PSs (cxOf CX Pg wd K mg base N qual scope f cdv A outer s H E) body (LS lk kp0 (wxOf E) w))
    (spec : ∀ xs P R, xs.length = xs0 → o xs P R → w (startT N.length xs) ⟨fun m => ∃ t0, look m 0 = some t0 ∧ P (.fz .non) t0, fun t m => ∃ t0, look m 0 = some t0 ∧ P t t0, fun _ => False, fun _ => False, fun e m => ∃ t0, look m 0 = some t0 ∧ R e t0⟩) : FnG Pg wd K mg base CX (k + 1) f fd ps (spIO L xs0 o) := by
  refine fnG Fn S (fun vs H Q E h => h.1.trans hp) fun cdv A outer s H us Q E hg hr h => ?_
  obtain ⟨hn, lk, B, F, xs, v0, ur, P, R, hL, rfl, hl, st, ho, k1, k2⟩ := h
  have at0 : ∀ {s' : L2.St}, Kp kp0 (L2.start N (v0 :: ur)) s' → s'[0]? = some (some v0) := fun kk => (kk.2 0 rfl).trans rfl
  refine ⟨_, hb lk hL cdv A outer s H E hg hr, B, F, _, [], [], _, st.start N hl, spec xs P R (hl ▸ hn) ho, ?_, ?_, ?_, ?_, ?_⟩
  · intro m' ⟨t0, e0, p⟩ s' F' H' g kk st'
    obtain ⟨v, e1, st2⟩ := (st'.push fzn).take (look_some e0)
    rw [at0 kk] at e1
    cases e1
    exact k1 _ t0 p .non F' H' g st2.noslots
  · intro t m' ⟨t0, e0, p⟩ s' v F' H' g kk st'
    obtain ⟨v', e1, st2⟩ := st'.take (look_some e0)
    rw [at0 kk] at e1
    cases e1
    exact k1 t t0 p v F' H' g st2.noslots
  · exact fun m' p => p.elim
  · exact fun m' p => p.elim
  · intro e m' ⟨t0, e0, p⟩ s' F' H' cls d g kk st' x
    obtain ⟨v', e1, st2⟩ := st'.take (look_some e0)
    rw [at0 kk] at e1
    cases e1
    exact k2 e t0 p F' H' cls d g st2.noslots x
end
section
variable {X : Cx} {CX : CXT} {k n : Nat} {f C : Addr} {fd : FuncData} {ps : List Str} {sp : Sp} {E : XK} {x y : Str} {p p1 pos : Pos} {e : Expr} {es : List Expr} {t : TA} {wa : WA} {lk : Lk} {L : Lk → Prop}
theorem run_fnG {pins : List (Addr × Obj)} {σ : L2.St} {H : Hp} {s : Shared} {Q : VK} {us : List Value} {vs : List V} (F : FnG X.prog X.w X.K X.mg X.base CX k f fd ps sp) (hG : X.A.guards = some []) (hr : Room k X.A) (hb : Binds X.K fd ps []) (hx : Passes CX X E)
    (I : Inv X pins σ H s) (r : Vals vs us) (h : sp vs H Q E) : wpAny (model X.prog X.w) X.A (call (.ref f) us) (EP X pins σ Q) X.xe s := by
  have hl : us.length = ps.length := r.length.symm.trans (F.len _ _ _ _ h)
  have hb' := hb s us I.kIn (by rw [List.append_nil]; exact hl)
  rw [List.append_nil] at hb'
  refine wpAny_call (codeAny_mono (F.run X.A X.stack s H ⟨us, []⟩ us vs Q E hG hr I.env0 hb' r h) fun r s' hq => ?_)
  cases r with
  | error e => exact hx pins σ H s e s' I hq
  | ok fl =>
    cases fl with
    | ret u => exact I.after hq
    | next => exact hq.elim
    | brk => exact hq.elim
    | cont => exact hq.elim
theorem pe_callG (F : FnG X.prog X.w X.K X.mg X.base CX k f fd ps sp) (hG : X.A.guards = some []) (hr : Room k X.A) (hg : Gl X x) (hm : X.mg x = some (.ref f)) (hk : PySem.W.keepIn X.K (.ref f) = true) (hb : Binds X.K fd ps []) (hx : Passes CX X E)
    (ha : PA X (e :: es) t) (hdb : (x == ("__debug__" : Str)) = false := by decide) (he : starEach (e :: es) X.env = (false, eval e X.env) :: starEach es X.env := by rfl) (hpl : (backTo pos (starEach es X.env)).any (·.1) = false := by rfl) :
    PE X (.Call (.Name x p) (e :: es) [] pos) (tCall sp [] E t) := ⟨fun pins s σ H Q I h =>
  wpAny_Call_Name_kw (ld_glob I hg hm (PySem.W.callWith_K (h₀ := X.base) I.ok.mod.kin hk (thn (ha.run pos pins s σ H _ I h) fun us s1 ⟨vs, H1, I1, r, q⟩ => ⟨I1.kIn, run_fnG F hG hr hb hx I1 r (by have q : sp (vs ++ []) H1 Q E := q; rw [List.append_nil] at q; exact q)⟩) he hpl) hdb)⟩
theorem v_fnG {o : OX} (Fk : FnG X.prog X.w X.K X.mg X.base CX k f fd ps (spV L n o)) (hG : X.A.guards = some []) (hr : Room k X.A) (hm : X.mg x = some (.ref f)) (hk : PySem.W.keepIn X.K (.ref f) = true) (hb : Binds X.K fd ps []) (hx : Passes CX X E0) (hL : L lk)
    (ha : PA X (e :: es) (LA lk wa)) (hg : Gl X x := by rfl) (hdb : (x == ("__debug__" : Str)) = false := by decide) (he : starEach (e :: es) X.env = (false, eval e X.env) :: starEach es X.env := by rfl) (hpl : (backTo pos (starEach es X.env)).any (·.1) = false := by rfl) :
    PE X (.Call (.Name x p) (e :: es) [] pos) (LE lk (wA (oFn n o) wa)) := pe_mono (pe_callG Fk hG hr hg hm hk hb hx ha hdb he hpl) fun s H Q q => by
  have := lAl (sA_fn (E := E0) hL) q
  show LA lk wa s H fun vs H1 => spV L n o (vs ++ []) H1 Q E0
  simpa only [List.append_nil] using this
theorem v_ioG {o : OIO} (i : Nat) (Fk : FnG X.prog X.w X.K X.mg X.base CX k f fd ps (spIO L n o)) (hG : X.A.guards = some []) (hr : Room k X.A) (hm : X.mg x = some (.ref f)) (hk : PySem.W.keepIn X.K (.ref f) = true) (hb : Binds X.K fd ps []) (hx : Passes CX X E0) (hL : L lk)
    (hn : PE X (.Name y p1) (tVar i)) (ha : PA X es (LA lk wa)) (hg : Gl X x := by rfl) (hdb : (x == ("__debug__" : Str)) = false := by decide) (he : starEach (.Name y p1 :: es) X.env = (false, eval (.Name y p1) X.env) :: starEach es X.env := by rfl) (hpl : (backTo pos (starEach es X.env)).any (·.1) = false := by rfl) :
    PE X (.Call (.Name x p) (.Name y p1 :: es) [] pos) (LE lk (wIO i n o wa)) := pe_mono (pe_callG Fk hG hr hg hm hk hb hx (pa_cons hn ha he) hdb he hpl) fun s H Q q => l_io hL q
end

/-! ### the law's call -/
/-- the heap that the law begins with: the script alone is told of -/
def topH (a : Addr) (ob : Obj) (xs : List V) : Hp := fun b => if b = a then some (.frz ob (.lst xs)) else none
theorem law_callG {P : Program} {w : World} {K : PySem.W.Frag} {mg mb : Str → Option Value} {CX : CXT} {k : Nat} {fa a : Addr} {fd : FuncData} {x : Str} {sp : Sp} {s₁ : Shared} {vs : List Value} {ns : List Int}
    (KX : K.In s₁.heap) (hns : s₁.heap.Ns mainGlobals mg) (hb : s₁.heap.Ns builtinsNs mb) (hbb : ∀ x : Str, x ≠ "__name__" → mb x = bootBuiltins x) (hlim : s₁.heap.NoLimit) (hg : s₁.gens = #[])
    (ha : s₁.heap.get? a = some { cls := .type "list", data := .seq vs.toArray }) (hi : IntsAre vs ns) (hl : ns.length ≤ sizeLine) (hr : Room k callerA)
    (Fn : ∀ base : Heap, K.In base → base.Ns mainGlobals mg → FnG P w K mg base CX k fa fd [x] sp) (hbind : ∀ (s : Shared) (u : Value), BindsTo s fd ⟨[u], []⟩ [(x, u)])
    (hsp : ∀ H : Hp, Only H → SqL K H a (ns.map V.int) → sp [.ref a] H (fun v _ => v = .bl true) fun _ _ _ => False)
    (hCX : ∀ H e s', CX [] H s₁ (fun _ _ _ => False) e s' → False) :
    codeAny (model P w) callerA (.call (.ref fa) ⟨[.ref a], []⟩) (fun r s' => r = .ok (.ret (.bool true)) ∧ OldK s₁.heap s'.heap ∧ s'.os = s₁.os ∧ AllBare s'.gens) s₁ := by
  have rv := vals_ints hi
  have len := hi.length
  -- what is wanted of a heap H to begin with
  suffices main : ∀ H : Hp, Only H → SqL K H a (ns.map V.int) → HOk P w H s₁.heap → (∀ b o, H b = some o → b = a ∧ K.lookup a = none) →
      codeAny (model P w) callerA (.call (.ref fa) ⟨[.ref a], []⟩) (fun r s' => r = .ok (.ret (.bool true)) ∧ OldK s₁.heap s'.heap ∧ s'.os = s₁.os ∧ AllBare s'.gens) s₁ by
    cases hk : K.lookup a with
    | some o =>
      have e := KX a o hk
      rw [ha] at e
      cases e
      exact main (fun _ => none) (fun _ => .inl rfl) (.inr ⟨_, vs.toArray, _, hk, rfl, rfl, rfl, by rw [List.size_toArray, len]; exact hl, by simpa using rv⟩) (fun b u z => nomatch z) fun b o z => nomatch z
    | none =>
      have at_a : topH a { cls := .type "list", data := .seq vs.toArray } (ns.map V.int) a = some (.frz { cls := .type "list", data := .seq vs.toArray } (.lst (ns.map V.int))) := if_pos rfl
      have only_a : ∀ b o, topH a { cls := .type "list", data := .seq vs.toArray } (ns.map V.int) b = some o → b = a := fun b o z => by
        unfold topH at z
        split at z
        · assumption
        · cases z
      refine main (topH a { cls := .type "list", data := .seq vs.toArray } (ns.map V.int)) (fun b => ?_) (.inl (.inr ⟨_, at_a⟩)) (fun b u z => ?_) fun b o z => ⟨only_a b o z, hk⟩
      · cases q : topH a { cls := .type "list", data := .seq vs.toArray } (ns.map V.int) b with
        | none => exact .inl rfl
        | some o =>
          have e := only_a b o q
          subst e
          rw [at_a] at q
          cases q
          exact .inr ⟨_, _, rfl⟩
      · have e := only_a b u z
        subst e
        rw [at_a] at z
        cases z
        exact ⟨ha, by rw [List.length_map]; exact hl, vs, _, rv, ha⟩
  intro H hO hS hok own
  have kept : ∀ {b : Addr} {o : Obj}, s₁.heap.get? b = some o → (b = a → K.lookup a = none → False) → (hidT s₁.heap H).get? b = some o := fun {b o} e n => hidT_get e (by
    cases q : H b with
    | none => rfl
    | some u => exact (n (own b u q).1 (own b u q).2).elim)
  have kDict : ∀ {b : Addr} {m : Str → Option Value}, s₁.heap.Ns b m → (hidT s₁.heap H).Ns b m := by
    rintro b m ⟨o, es, ep, e, d, r⟩
    refine ⟨o, es, ep, kept e fun z _ => ?_, d, r⟩
    subst z
    rw [ha] at e
    cases e
    have d : Data.seq vs.toArray _ = Data.dict es ep := d
    cases d
  have kK : K.In (hidT s₁.heap H) := fun b o e => kept (KX b o e) fun z q => by
    subst z
    rw [q] at e
    cases e
  have M : Mod K mg (hidT s₁.heap H) := ⟨kK, kDict hns, ⟨mb, kDict hb, hbb⟩, let ⟨mc, h1, h2⟩ := hlim; ⟨mc, kDict h1, h2⟩⟩
  have e0 : Env0 P w K mg (hidT s₁.heap H) callerA [] s₁ H := ⟨rfl, M, fun b o e => of_hidT e, Nat.le_of_eq (hidT_size _ _), trivial, fun b hb => (List.not_mem_nil hb).elim, hok, .of_eq hg⟩
  refine codeAny_mono ((Fn _ kK (kDict hns)).run callerA [] s₁ H ⟨[.ref a], []⟩ [.ref a] [.ref a] _ _ rfl hr e0 (hbind s₁ (.ref a)) (.cons rfl .nil) (hsp H hO hS)) fun r s' h => ?_
  cases r with
  | error e => exact (hCX H e s' h).elim
  | ok fl =>
    cases fl with
    | next => exact h.elim
    | brk => exact h.elim
    | cont => exact h.elim
    | ret u =>
      obtain ⟨v, H', os, bare, un, hok', r', rfl⟩ := h
      obtain rfl : u = Value.bool true := r'
      refine ⟨rfl, OldK.of_keep fun b o e => ?_, os, bare⟩
      rcases hO b with z | ⟨ob, xs, z⟩
      · exact un.keep b o e z (fun q => (List.not_mem_nil q).elim) (fun q => (List.not_mem_nil q).elim)
      · obtain ⟨e1, _⟩ := hok b _ z
        obtain ⟨e2, _⟩ := hok' b _ (un.frzs b ob _ z)
        rw [e1] at e
        cases e
        exact e2
/-- the end of a law whose defs are FnG -/
theorem walk_G {l : PySem.W.OpenLaw} {n k : Nat} {q : Program} {loose : List Str} {XP : (Str → Option Value) → Heap → Prop} {YP : World → Heap → Prop} {d : DefRec} {CX : CXT} {x : Str}
    (hn : l.most = some n) (hn2 : n ≤ sizeLine) (hdf : d.params.defaults = []) (hr : Room k callerA)
    (Fn : ∀ (w : World) (mg : Str → Option Value) (fa : Addr) (h : Heap), YP w h → h.Ns mainGlobals mg → mg d.name = some (.ref fa) →
      ∃ (K : PySem.W.Frag) (fd : FuncData) (sp : Sp), K.In h ∧ (∀ (s : Shared) (u : Value), BindsTo s fd ⟨[u], []⟩ [(x, u)]) ∧
        (∀ (H : Hp) (a : Addr) (ns : List Int), ns.length ≤ n → (∀ z ∈ ns, Builtin.Int.intBits z ≤ 1048576) → Only H → SqL K H a (ns.map V.int) → sp [.ref a] H (fun v _ => v = .bl true) fun _ _ _ => False) ∧
        ∀ base : Heap, K.In base → base.Ns mainGlobals mg → FnG l.prog w K mg base CX k fa fd [x] sp)
    (hCX : ∀ (H : Hp) (s : Shared) (e : Value) (s' : Shared), CX [] H s (fun _ _ _ => False) e s' → False) :
    PySem.W.WalkO q loose XP YP l.row.toRowW d [] (fun f vs => PySem.call f vs) := by
  refine Att.attach_callB hn hdf fun w s₀ s₁ mg mb fa o pm cd doc a vs ns G Y ho hd hcd hmg hobj hints hlen hbits hg => ?_
  obtain ⟨K, fd, sp, KX, hb, hsp, hF⟩ := Fn w mg fa _ Y G.T.g hmg
  exact law_callG KX G.T.g G.T.b G.T.builtins G.T.nolimit hg hobj hints (Nat.le_trans hlen hn2) hr hF hb (fun H hO hS => hsp H a ns hlen hbits hO hS) fun H e s' => hCX H s₁ e s'

/-! ### repr -/
/-- data that repr shows -/
def shows (d : PyData) : Bool := d.showable && !d.hasDict && decide (d.depth ≤ 60) && decide (d.shown.length ≤ sizeLine)
def rRepr (K : PySem.W.Frag) : List V → Hp → VK → Prop := fun xs H Q => ∃ v d, xs = [v] ∧ Dp K H v d ∧ shows d = true ∧ Q (.str d.shown) H
theorem call_reprG {X : Cx} (hG : X.A.guards = some []) (hu : X.A.units + 64 < cLine) : CallR X (.builtin "repr") (rRepr X.K) := by
  intro pins s σ H xs us Q I r h
  obtain ⟨v, d, rfl, dp, hs, q⟩ := h
  simp only [shows, Bool.and_eq_true, Bool.not_eq_true', decide_eq_true_eq] at hs
  obtain ⟨⟨⟨h1, h2⟩, h3⟩, h4⟩ := hs
  obtain ⟨u, rfl, ru⟩ := Vals.one r
  have fin : ∀ h' t tk, (∀ b o, s.heap.get? b = some o → h'.get? b = some o) → EP X pins σ Q (.str d.shown t) { s with heap := h', toks := tk } := fun h' t tk k => ⟨.str d.shown, H, I.kept k, ⟨t, rfl⟩, q⟩
  obtain ⟨as, rd⟩ := Dp.reads I d v u dp ru
  cases dp with
  | non =>
    cases ru
    exact P.repr_of_none (fin _ _ _ fun _ _ e => e)
  | bl b =>
    cases ru
    have := fin s.heap s.toks (s.toks + 1) fun _ _ e => e
    refine P.repr_of_bool ?_
    cases b <;> exact this
  | int i =>
    obtain ⟨t, rfl⟩ := ru
    exact P.repr_of_int (by simpa [PyData.showable] using h1) (fin s.heap s.toks (s.toks + 1) fun _ _ e => e)
  | str z =>
    obtain ⟨t, rfl⟩ := ru
    exact P.repr_of_str (fin s.heap s.toks (s.toks + 1) fun _ _ e => e) (hsz := h4)
  | lst a b =>
    cases ru
    exact repr_of_reads' rd h1 (fun z => by rw [h2] at z; cases z) hG (by omega) (fun _ _ e => e) (fun h' t tk k => fin h' t tk k) (hsz := h4)
  | tup a b =>
    cases ru
    exact repr_of_reads' rd h1 (fun z => by rw [h2] at z; cases z) hG (by omega) (fun _ _ e => e) (fun h' t tk k => fin h' t tk k) (hsz := h4)
def dRepr (a : D) : Option D := match pyD a with
  | some x => if shows x = true then some (.str x.shown) else none
  | none => none
theorem rd_repr {K : PySem.W.Frag} : Rd1 (fun v H Q => rRepr K [v] H Q) dRepr := by
  intro lk B F H s m vs ts a d v Q st ha e q
  unfold dRepr at e
  split at e
  · rename_i x ex
    split at e
    · rename_i hx
      cases e
      exact ⟨v, x, rfl, py_ok st.sf ha ex, hx, q _ fzs⟩
    · cases e
  · cases e
theorem v_repr {X : Cx} {lk : Lk} {e : Expr} {wa : WA} {p pos : Pos} (hG : X.A.guards = some []) (hu : X.A.units + 64 < cLine) (hm : X.mg "repr" = none) (ha : PA X [e] (LA lk wa)) (hg : Gl X "repr" := by rfl) (he : starEach [e] X.env = (false, eval e X.env) :: starEach [] X.env := by rfl) (hpl : (backTo pos (starEach [] X.env)).any (·.1) = false := by rfl) :
    PE X (.Call (.Name "repr" p) [e] [] pos) (LE lk (wA (oA1 (oR1 dRepr)) wa)) := v_callB (call_reprG hG hu) (sA_of1 (s_R1 rd_repr)) hm (by first | rfl | decide +kernel) ha hg (by decide) (by decide) he hpl

/-! ### the script -/
theorem St.scr {lk : Lk} {B F H : Hp} {s : L2.St} {m : Tau} {vs : List V} {ts : List T} {K : PySem.W.Frag} {ns : List Int} {v : V} (st : St lk B F H s m vs ts) (h : Fz F (.scr K ns) v) : ∃ a, v = .ref a ∧ SqL K H a (ns.map V.int) := by
  simp only [Fz] at h
  obtain ⟨a, rfl, h⟩ := h
  refine ⟨a, rfl, ?_⟩
  rcases h with (h | ⟨ob, h⟩) | h
  · exact .inl (.inl (st.frl h))
  · rcases st.fr a _ h with z | ⟨_, _, _, z, _⟩
    · exact .inl (.inr ⟨ob, z⟩)
    · cases z
  · exact .inr h
def wScrLen (K : PySem.W.Frag) (i : Nat) : WE := fun m Q => match look m i with
  | some (.fz (.scr K' ns)) => K' = K ∧ Q (.fz (.int ns.length)) m
  | _ => False
def wScrIx (K : PySem.W.Frag) (i : Nat) (wb : WE) : WE := fun m Q => (look m i).isSome = true ∧ wb m fun y m1 => match look m1 i, y with
  | some (.fz (.scr K' ns)), .fz (.int j) => K' = K ∧ match atI ns j with
    | some z => Q (.fz (.int z)) m1
    | none => False
  | _, _ => False
section
variable {X : Cx} {lk : Lk} {x : Str} {p p1 cpos pos : Pos} {e : Expr} {wb : WE}
theorem v_scrLen (i : Nat) (hm : X.mg "len" = none) (hn : PE X (.Name x p1) (tVar i)) (hg : Gl X "len" := by rfl) (hst : starEach [.Name x p1] X.env = (false, eval (.Name x p1) X.env) :: starEach [] X.env := by rfl) (hpl : (backTo cpos (starEach [] X.env)).any (·.1) = false := by rfl) :
    PE X (.Call (.Name "len" p) [.Name x p1] [] cpos) (LE lk (wScrLen X.K i)) := pe_mono (pe_callB call_lenA hg hm PySem.boot_len (pa_cons hn pa_nil hst) (by decide) (by decide) hst hpl) fun s H Q q => by
  obtain ⟨B, F, m, vs, ts, P', st, hw, k⟩ := q
  unfold wScrLen at hw
  split at hw
  · rename_i K' ns el
    obtain ⟨rfl, hw⟩ := hw
    obtain ⟨v, e1, e2⟩ := st.var (look_some el)
    obtain ⟨a, rfl, e3⟩ := st.scr e2
    refine ⟨_, e1, .inl ⟨a, _, rfl, .inl e3, ?_⟩⟩
    rw [List.length_map]
    exact k _ m hw _ F H (Gr.refl B F) (st.push fzi)
  · exact hw.elim
theorem v_scrIx (i : Nat) (hn : PE X (.Name x p1) (tVar i)) (hb : PE X e (LE lk wb)) (hp : PlainIx e := by first | exact fun _ _ => rfl | (intro _ _; rfl)) : PE X (.Subscript (.Name x p1) e pos) (LE lk (wScrIx X.K i wb)) :=
  pe_mono (pe_ix ix_seq hn hb hp) fun s H Q q => by
    obtain ⟨B, F, m, vs, ts, P', st, ⟨e0, hw⟩, k⟩ := q
    obtain ⟨t0, e0⟩ := Option.isSome_iff_exists.mp e0
    obtain ⟨v0, f0, ev, _⟩ := st.lookV e0
    refine ⟨v0, ev, B, F, m, vs, ts, _, st, hw, fun y m1 hy u F1 H1 g1 st1 => ?_⟩
    split at hy
    · rename_i K' ns j el
      obtain ⟨rfl, hy⟩ := hy
      split at hy
      · rename_i z ez
        obtain ⟨rfl, st2⟩ := st1.tint
        obtain ⟨v, e1, e2⟩ := st2.var (look_some el)
        rw [ev] at e1
        cases e1
        obtain ⟨a, rfl, e3⟩ := st2.scr e2
        refine .inl ⟨a, _, j, .int z, rfl, rfl, e3, ?_, k _ m1 hy _ F1 H1 g1 (st2.push fzi)⟩
        unfold atI at ez ⊢
        rw [List.length_map]
        cases q : ixN ns.length j with
        | none =>
          rw [q] at ez
          cases ez
        | some jj =>
          rw [q] at ez
          have ez : ns[jj]? = some z := ez
          show (ns.map V.int)[jj]? = _
          rw [List.getElem?_map, ez]
          rfl
      · exact hy.elim
    · exact hy.elim
end
end VL
set_option Elab.async false
set_option linter.all false
set_option maxRecDepth 100000
set_option maxHeartbeats 4000000
/-! VL14: lists whose items are handed out, subscripts of what is in hand, keywords, {k: v}. -/
namespace VL
open PySem PySem.Spec PyProof.Rows L2

/-! ### what is in hand -/
section
variable {lk : Lk} {B F H : Hp} {s : L2.St} {m : Tau} {vs ws : List V} {ts ls : List T} {v : V} {t : T}
theorem St.dropL (st : St lk B F H s m (ws ++ vs) (ls ++ ts)) (hl : ws.length = ls.length) : St lk B F H s m vs ts := by
  obtain ⟨f, g, h1, h2, h3, h4⟩ := st.ex
  obtain ⟨vs1, ws1, g1, g2, e, k1, k2, k3, rfl⟩ := RpL.split h2
  obtain ⟨rfl, rfl⟩ := append_inj_len e (hl.trans k1.length)
  exact ⟨⟨f, g2, h1, k2, fun a p q => h3 a p (.inr q), fun a p => h4 a (p.imp id .inr)⟩, st.fr, st.bk⟩
theorem St.dropMid (st : St lk B F H s m (v :: (ws ++ vs)) (t :: (ls ++ ts))) (hl : ws.length = ls.length) : St lk B F H s m (v :: vs) (t :: ts) := by
  obtain ⟨f, g, h1, h2, h3, h4⟩ := st.ex
  rw [RpL] at h2
  obtain ⟨v', vr, f1, f2, e, k1, k2, k3, rfl⟩ := h2
  cases e
  obtain ⟨vs1, ws1, g1, g2, e, j1, j2, j3, rfl⟩ := RpL.split k2
  obtain ⟨rfl, rfl⟩ := append_inj_len e (hl.trans j1.length)
  refine ⟨⟨f, fun b => f1 b ∨ g2 b, h1, ?_, fun a p q => h3 a p (q.imp id .inr), fun a p => h4 a (p.imp id fun z => z.imp id .inr)⟩, st.fr, st.bk⟩
  rw [RpL]
  exact ⟨v, vs, f1, g2, rfl, k1, j2, fun a p q => k3 a p (.inr q), rfl⟩
/-- a list of ours is laid open: its own object is frozen, its items are in hand -/
theorem St.unpack {l : List T} (st : St lk B F H s m (v :: vs) (.ol l :: ts)) : ∃ a us F', v = .ref a ∧ F' a = some (.lst us) ∧ us.length = l.length ∧ Gr B F F' ∧ St lk B F' H s m (us ++ vs) (l ++ ts) := by
  obtain ⟨f, g, h1, h2, h3, h4⟩ := st.ex
  rw [RpL] at h2
  obtain ⟨v', vr, f1, f2, e, k1, k2, k3, rfl⟩ := h2
  cases e
  simp only [Rp] at k1
  obtain ⟨a, us, g0, rfl, i1, i2, i3, rfl⟩ := k1
  have own := h4 a (.inr (.inl (.inl rfl)))
  have eF : Same F (upd F a (.lst us)) := Same.new own.1
  refine ⟨a, us, upd F a (.lst us), rfl, upd_same, i2.length.symm, ⟨eF, fun b o q => ?_⟩, ⟨f, fun b => g0 b ∨ f2 b, h1.frame eF fun _ _ => rfl, (i2.frame eF fun _ _ => rfl).append (k2.frame eF fun _ _ => rfl) fun b p q => k3 b (.inr p) q, fun b p q => ?_, fun b p => ?_⟩, fun b o q => ?_, st.bk⟩
  · by_cases e : b = a
    · subst e
      exact .inr own.2
    · rw [upd_ne e] at q
      exact .inl q
  · rcases q with q | q
    · exact h3 b p (.inl (.inr q))
    · exact h3 b p (.inr q)
  · have ne : b ≠ a := fun e => by
      subst e
      rcases p with p | p | p
      · exact h3 b p (.inl (.inl rfl))
      · exact i3 p
      · exact k3 b (.inl rfl) p
    rw [upd_ne ne]
    rcases p with p | p | p
    · exact h4 b (.inl p)
    · exact h4 b (.inr (.inl (.inr p)))
    · exact h4 b (.inr (.inr p))
  · by_cases e : b = a
    · subst e
      rw [upd_same] at q
      cases q
      exact .inl i1
    · rw [upd_ne e] at q
      exact st.fr b o q
end

/-! ### for over a list whose items become the name's -/
def wForO (i : Nat) (wb : WS) : List T → WS
  | [], m, E => E.nx m
  | t :: ts, m, E => i < m.length ∧ wb (m.set i (some t)) ⟨fun m2 => wForO i wb ts m2 E, E.rt, E.nx, fun m2 => wForO i wb ts m2 E, E.xe⟩
def wForOwn (we : WE) (i : Nat) (wb : WS) : WS := fun m E => we m fun x m1 => match x with
  | .ol l => wForO i wb l m1 E
  | _ => False
section
variable {X : Cx} {lk : Lk} {kp : Nat → Prop} {W : WX} {we : WE} {wb : WS} {e : Expr} {pos : Pos}
theorem forO_run {K : PySem.W.Frag} {a : Addr} {us : List V} {l : List T} {i0 : Nat} {B F : Hp} {m : Tau} {vs : List V} {ts : List T} {E : WEnds} {D : Ends} {s : L2.St} {H : Hp} (hk : ¬ kp i0) (hF : F a = some (.lst us)) (hl : us.length = l.length)
    (st : St lk B F H s m (us ++ vs) (l ++ ts)) (hw : wForO i0 wb l m E) (k : EndsOk lk kp W B F s vs ts E D) :
    ∃ Wi : Nat → Nat → L2.St → Hp → Prop, (∃ m, Wi 0 m s H) ∧ ∀ i m σ H, Wi i m σ H →
      ((Itl K a).stop i H ∧ D.nx σ H) ∨ ((Itl K a).go i H ∧ ∃ N : L2.St → Hp → Prop, (∀ σ' H', N σ' H' → ∃ m', m' < m ∧ Wi (i + 1) m' σ' H') ∧ ∀ x H', (Itl K a).yld i H x H' → gName i0 x σ H' fun σ2 H2 => LS lk kp W wb { D with nx := N, ct := N, bk := D.nx } σ2 H2) := by
  refine ⟨fun i n s' H' => n = l.length - i ∧ i ≤ l.length ∧ ∃ F' m', Gr B F F' ∧ Kp kp s s' ∧ St lk B F' H' s' m' (us.drop i ++ vs) (l.drop i ++ ts) ∧ wForO i0 wb (l.drop i) m' E,
    ⟨l.length, by simp, Nat.zero_le _, F, m, Gr.refl B F, Kp.refl, by simpa using st, by simpa using hw⟩, ?_⟩
  rintro i n s1 H1 ⟨rfl, hi, F1, m1, g1, k1, st1, hw1⟩
  have hF1 := g1.same _ _ hF
  have hS : SqL K H1 a us := SqL.of (st1.frl hF1)
  by_cases hlt : i < l.length
  · have hlu : i < us.length := by omega
    refine .inr ⟨⟨us, us[i], hS, List.getElem?_eq_getElem hlu⟩, fun s' H' => ∃ F' m', Gr B F F' ∧ Kp kp s s' ∧ St lk B F' H' s' m' (us.drop (i + 1) ++ vs) (l.drop (i + 1) ++ ts) ∧ wForO i0 wb (l.drop (i + 1)) m' E,
      fun s' H' p => ⟨l.length - (i + 1), by omega, rfl, hlt, p⟩, fun x H' y => ?_⟩
    obtain ⟨rfl, y⟩ := y
    have ex := y us hS
    rw [List.getElem?_eq_getElem hlu] at ex
    cases ex
    rw [List.drop_eq_getElem_cons hlt] at hw1 st1
    rw [List.drop_eq_getElem_cons hlu] at st1
    unfold wForO at hw1
    obtain ⟨w, wr, e, st2⟩ := St.set (t := l[i]) st1 hw1.1
    cases e
    have kk : Kp kp s (s1.set i0 (some us[i])) := k1.trans (Kp.set hk)
    have hld : (us.drop (i + 1)).length = (l.drop (i + 1)).length := by simp [hl]
    refine ⟨B, F1, _, us.drop (i + 1) ++ vs, l.drop (i + 1) ++ ts, _, st2, hw1.2, ?_, ?_, ?_, ?_, ?_⟩
    · exact fun m2 h2 s2 F2 H2 g2 k2 st3 => ⟨F2, m2, g1.trans g2, kk.trans k2, st3, h2⟩
    · exact fun t m2 h2 s2 v F2 H2 g2 k2 st3 => k.rt t m2 h2 s2 v F2 H2 (g1.trans g2) (kk.trans k2) (st3.dropMid hld)
    · exact fun m2 h2 s2 F2 H2 g2 k2 st3 => k.nx m2 h2 s2 F2 H2 (g1.trans g2) (kk.trans k2) (st3.dropL hld)
    · exact fun m2 h2 s2 F2 H2 g2 k2 st3 => ⟨F2, m2, g1.trans g2, kk.trans k2, st3, h2⟩
    · exact fun x m2 h2 s2 F2 H2 cls d g2 k2 st3 z => k.xe x m2 h2 s2 F2 H2 cls d (g1.trans g2) (kk.trans k2) (st3.dropL hld) z
  · have hi' : i = l.length := by omega
    subst hi'
    refine .inl ⟨⟨us, hS, by omega⟩, ?_⟩
    rw [List.drop_length] at hw1
    unfold wForO at hw1
    exact k.nx m1 hw1 s1 F1 H1 g1 k1 (st1.dropL (by simp [hl]))
theorem s_forO (i : Nat) {x : Str} {px : Pos} {body : List Stmt} (hN : X.N.Nodup) (hk : ¬ kp i) (hpo : PassesOwn (model X.prog X.w) X.A X.env X.xe) (hc : X.calm = true) (he : PE X e (LE lk we)) (hb : PSs X body (LS lk kp W wb)) (hi : X.N[i]? = some x := by rfl) (hx : Loc X.env.scope x := by first | exact Or.inl rfl | exact Or.inr rfl)
    (hf : X.fn x = true ∨ X.env.scope.names.lookup x = some .local := by first | exact .inl rfl | exact .inr rfl | assumption) (hs : ∀ x, foldedSetIterable e X.env x = pure x := by intro _; rfl) :
    PS X (.For (.Name x px) e body [] pos) (LS lk kp W (wForOwn we i wb)) := ps_mono (ps_for hpo hc (pi_list he) (pg_name hN hi hx hf) hb hs) fun D s H q => by
  obtain ⟨B, F, m, vs, ts, E, st, hw, k⟩ := q
  refine ⟨B, F, m, vs, ts, _, st, hw, fun t m1 ht v F1 H1 g1 st1 => ?_⟩
  split at ht
  · rename_i l
    obtain ⟨a, us, F2, rfl, e1, e2, g2, st2⟩ := st1.unpack
    exact ⟨a, rfl, ⟨us, SqL.of (st2.frl e1)⟩, forO_run hk e1 e2 st2 ht (k.mv (g1.trans g2) Kp.refl)⟩
  · exact ht.elim
end

/-! ### a subscript of what is in hand -/
def oIxH : O2 := fun x y P => match y with
  | .fz b => match tIx x b with
    | some d => P (.fz d)
    | none => False
  | _ => False
theorem s_ixH {K : PySem.W.Frag} : S2 (rIxA K) oIxH := by
  intro lk B F H s m vs ts v u x y P Q st ho k
  unfold oIxH at ho
  split at ho
  · rename_i b
    split at ho
    · rename_i d e
      obtain ⟨hb, st1⟩ := st.tfz
      obtain ⟨f, g, h1, h2, h3, h4⟩ := st1.ex
      rw [RpL] at h2
      obtain ⟨v', vr, f1, f2, q, k1, k2, k3, rfl⟩ := h2
      cases q
      obtain ⟨_, _, q, st2⟩ := st1.drop
      cases q
      exact rp_ix st1 k1 hb e fun w hw => k _ ho w F H (Gr.refl B F) (st2.push hw)
    · exact ho.elim
  · exact ho.elim
theorem v_ixH {X : Cx} {lk : Lk} {a b : Expr} {wa wb : WE} {pos : Pos} (hu : X.A.units + 1 < cLine) (ha : PE X a (LE lk wa)) (hb : PE X b (LE lk wb)) (hp : PlainIx b := by first | exact fun _ _ => rfl | (intro _ _; rfl)) : PE X (.Subscript a b pos) (LE lk (w2 oIxH wa wb)) := v_ix (ix_any hu) s_ixH ha hb hp

/-! ### {k: v} -/
def wDisp1 (wk wv : WE) : WE := fun m Q => wk m fun x m1 => wv m1 fun y m2 => match x with
  | .fz d => match keyD d with
    | some k => Q (.od [k] [y]) m2
    | none => False
  | _ => False
theorem v_disp1 {X : Cx} {lk : Lk} {a b : Expr} {wk wv : WE} {pos : Pos} (hk : PE X a (LE lk wk)) (hv : PE X b (LE lk wv)) : PE X (.Dict [some a] [b] pos) (LE lk (wDisp1 wk wv)) := pe_mono (pe_disp (pps_cons hk hv pps_nil) rfl rfl (by simp) (by simp)) fun s H Q q => by
  obtain ⟨B, F, m, vs, ts, P, st, hw, k⟩ := q
  intro p hp
  have st0 : St lk B F (upd H p (.dK [])) s m (.ref p :: vs) (.od [] [] :: ts) := st.own0 hp fun H' e => by
    simp only [Rp]
    exact ⟨p, [], fun _ => False, rfl, e, ⟨rfl, List.nodup_nil⟩, by simp only [RpL]; exact ⟨trivial, trivial⟩, id, rfl⟩
  refine ⟨B, F, m, _, _, _, st0, hw, fun x m1 hx xv F1 H1 g1 st1 => ⟨B, F1, m1, _, _, _, st1, hx, fun y m2 hy yv F2 H2 g2 st2 => ?_⟩⟩
  split at hy
  · rename_i d
    split at hy
    · rename_i kk ek
      obtain ⟨f, g, h1, h2, h3, h4⟩ := st2.ex
      rw [RpL] at h2
      obtain ⟨_, _, f1, f2, q, k1, k2, k3, rfl⟩ := h2
      cases q
      rw [RpL] at k2
      obtain ⟨_, _, g1', g2', q, j1, j2, j3, rfl⟩ := k2
      cases q
      simp only [Rp] at j1
      obtain ⟨hd, rfl⟩ := j1
      rw [RpL] at j2
      obtain ⟨_, _, e1, e2, q, i1, i2, i3, rfl⟩ := j2
      cases q
      simp only [Rp] at i1
      obtain ⟨p', ws, g0, q, l1, ⟨l2, _⟩, l3, l4, rfl⟩ := i1
      cases q
      have ews : ws = [] := by
        cases ws with
        | nil => rfl
        | cons _ _ => cases l2
      subst ews
      simp only [RpL] at l3
      obtain ⟨_, rfl⟩ := l3
      have l1 : H2 p = some (.dK []) := l1
      refine ⟨l1, [(kk, yv)], ?_, by simp, ?_⟩
      · simp only [List.map_cons, List.map_nil]
        rw [keyD_ok hd ek]
      · have nf : ¬ f p := fun z => h3 p z (.inr (.inr (.inl (.inl rfl))))
        have nf1 : ¬ f1 p := fun z => k3 p z (.inr (.inl (.inl rfl)))
        have ne2 : ¬ e2 p := fun z => i3 p (.inl rfl) z
        have own := h4 p (.inr (.inr (.inr (.inl (.inl rfl)))))
        refine k _ m2 hy _ F2 _ (g1.trans g2) ⟨⟨f, fun b => (b = p ∨ f1 b) ∨ e2 b, h1.frame (Same.refl F2) (keepF nf), ?_, fun b z q => ?_, fun b z => ?_⟩, fun b o z => ?_, ⟨fun b o z => ?_, st2.bk.own⟩⟩
        · rw [RpL]
          refine ⟨.ref p, vs, _, e2, rfl, ?_, i2.frame (Same.refl F2) (keepF ne2), fun b z q => ?_, rfl⟩
          · simp only [Rp]
            exact ⟨p, [yv], f1, rfl, upd_same, ⟨rfl, by simp⟩, RpL.one (k1.frame (Same.refl F2) (keepF nf1)), nf1, rfl⟩
          · rcases z with rfl | z
            · exact ne2 q
            · exact k3 b z (.inr (.inr q))
        · rcases q with (rfl | q) | q
          · exact nf z
          · exact h3 b z (.inl q)
          · exact h3 b z (.inr (.inr (.inr q)))
        · rcases z with z | (rfl | z) | z
          · exact h4 b (.inl z)
          · exact own
          · exact h4 b (.inr (.inl z))
          · exact h4 b (.inr (.inr (.inr (.inr z))))
        · have ne : b ≠ p := fun e => by
            rw [e, own.1] at z
            cases z
          rw [upd_ne ne]
          exact st2.fr b o z
        · have ne : b ≠ p := fun e => by
            rw [e, own.2] at z
            cases z
          rw [upd_ne ne]
          exact st2.bk.sub b o z
    · exact hy.elim
  · exact hy.elim

/-! ### keywords -/
section
variable {K : PySem.W.Frag} {x qual : Str} {params : Arguments} {body : List Stmt} {scope : Scope} {kws : List (Str × V)} {f : Addr} {fd : FuncData} {ps : List Str}
theorem kbP (Fn : FunD K x qual params body scope [] kws f fd) (n : Nat) (ks : List Str)
    (h : ∀ (kV doc pm : Value) (an : Option Addr) (cdv ct : Value) (us ws : List Value), us.length = n → ws.length = ks.length → bindArgs (PySem.W.fnOf x qual params body scope .none kV doc pm an cdv ct) ⟨us, ks.zip ws⟩ = pure (ps.zip (us ++ ws))) :
    KBn K fd ps n ks (fun us ws => us ++ ws) (fun vs zs => vs ++ zs) := by
  obtain ⟨oc, od, dV, kV, doc, pm, an, cdv, ct, osl, rfl, lk, hcd, hD, hK⟩ := Fn.ex
  rcases hD with ⟨_, rfl⟩ | ⟨e, _⟩
  · exact ⟨fun s us ws X l1 l2 => .of_eq (h kV doc pm an cdv ct us ws l1 l2), fun r1 r2 => r1.append r2⟩
  · exact absurd rfl e
end
structure PKL (X : Cx) (kws : List Keyword) (lk : Lk) (w : WA) : Prop where
  run : PK X kws (LA lk w)
section
variable {X : Cx} {CX : CXT} {k n : Nat} {f C : Addr} {fd : FuncData} {ps ks : List Str} {sp : Sp} {E : XK} {x mn : Str} {p pos apos kpos : Pos} {e oe : Expr} {es : List Expr} {kws : List Keyword} {t tk : TA} {ta : TE} {we : WE} {wr wk : WA} {lk : Lk} {L : Lk → Prop} {nm : Option Str}
theorem pk_mono {t t' : TA} (h : PK X kws t) (k : ∀ s H Q, t' s H Q → t s H Q) : PK X kws t' := ⟨fun pos pins s σ H Q I q => h.run pos pins s σ H Q I (k σ H Q q)⟩
theorem vk_nil : PK X [] (LA lk wNil) := pk_mono pk_nil fun s H Q q => by
  obtain ⟨B, F, m, vs, ts, P, st, hw, k⟩ := q
  exact k [] m hw [] F H (Gr.refl B F) rfl st
theorem vk_cons (he : PE X e (LE lk we)) (hr : PK X kws (LA lk wr)) : PK X (⟨nm, e, kpos⟩ :: kws) (LA lk (wCons we wr)) := pk_mono (pk_cons he hr) fun s H Q q => by
  obtain ⟨B, F, m, vs, ts, P, st, hw, k⟩ := q
  refine ⟨B, F, m, vs, ts, _, st, hw, fun t m1 ht v F1 H1 g1 st1 => ⟨B, F1, m1, v :: vs, t :: ts, _, st1, ht, fun xs m2 hx us F2 H2 g2 hl st2 => ?_⟩⟩
  exact k (t :: xs) m2 hx (v :: us) F2 H2 (g1.trans g2) (by simp [hl]) (st2.rot hl)
/-- o.m(k = v, ..): no argument by its place -/
def tMethK (C : Addr) (mn : Str) (n : Nat) (sp : Sp) (E : XK) (ta : TE) (tk : TA) : TE := fun σ H Q => ta σ H fun x H1 => ∃ a dx fs, x = .ref a ∧ H1 a = some (.ins C dx fs) ∧ fs.lookup mn = none ∧ tk σ H1 fun zs H2 => zs.length = n ∧ sp (x :: zs) H2 Q E
theorem pe_methK {pl : Sem Bool} (he : PE X oe ta) (c : Cls X.K C) (hm : Meth X.K C mn f) (F : FnOk X.prog X.w X.K X.mg X.base CX k f fd ps sp) (hr : Room k X.A) (hb : KBn X.K fd ps 1 ks (fun us ws => us ++ ws) (fun vs zs => vs ++ zs)) (hx : Passes CX X E) (hkw : PK X kws tk)
    (hall : (backToKw pos (keywordEach kws X.env)).all (·.1.isSome) = true := by rfl) (hks : (backToKw pos (keywordEach kws X.env)).filterMap (·.1) = ks := by rfl)
    (hpl : ((backTo pos (starEach [] X.env)).any (·.1) || (backToKw pos (keywordEach kws X.env)).any (·.1.isNone)) = false := by rfl)
    (ht : eval (.Call (.Attribute oe mn apos) [] kws pos) X.env = (do
      let ov ← eval oe X.env
      standAt apos.atName
      let (f, first) ← holding [ov] (getMethod ov mn pl)
      callWith pos f first (backTo pos (starEach [] X.env)) (backToKw pos (keywordEach kws X.env))) := by rfl) :
    PE X (.Call (.Attribute oe mn apos) [] kws pos) (tMethK C mn ks.length sp E ta tk) := by
  refine ⟨fun pins s σ H Q I h => ?_⟩
  refine PySem.W.methodCall_KW (pl := pl) (thn (he.run pins s σ H _ I h) fun u s1 ⟨x, H1, I1, rx, a, dx, fs, ex, ea, l, q⟩ => ?_) ht
  subst ex
  obtain rfl : u = Value.ref a := rx
  refine getmeth_ok I1 ea c hm l ?_
  refine PySem.W.callWith_KW0 (first := [.ref a]) (h₀ := X.base) I1.ok.mod.kin hm.kp hall (thn (hkw.run pos pins s1 σ H1 _ I1 q) fun ws s2 ⟨zs, H2, I2, rz, l2, q2⟩ => ⟨I2.kIn, ?_⟩) hpl
  rw [hks]
  exact run_fnN (us := [.ref a]) (vs := [.ref a]) F hr hb hx I2 (.cons rfl .nil) rz rfl l2 q2
theorem v_methK {o : OX} {pl : Sem Bool} (Fk : FnOk X.prog X.w X.K X.mg X.base CX k f fd ps (spV L n o)) (hr : Room k X.A) (c : Cls X.K C) (hm : Meth X.K C mn f) (hb : KBn X.K fd ps 1 ks (fun us ws => us ++ ws) (fun vs zs => vs ++ zs)) (hx : Passes CX X E0) (hL : L lk) (hn : n = ks.length + 1)
    (ho : PE X oe (LE lk we)) (ha : PK X kws (LA lk wk)) (hall : (backToKw pos (keywordEach kws X.env)).all (·.1.isSome) = true := by rfl) (hks : (backToKw pos (keywordEach kws X.env)).filterMap (·.1) = ks := by rfl)
    (hpl : ((backTo pos (starEach [] X.env)).any (·.1) || (backToKw pos (keywordEach kws X.env)).any (·.1.isNone)) = false := by rfl)
    (ht : eval (.Call (.Attribute oe mn apos) [] kws pos) X.env = (do
      let ov ← eval oe X.env
      standAt apos.atName
      let (f, first) ← holding [ov] (getMethod ov mn pl)
      callWith pos f first (backTo pos (starEach [] X.env)) (backToKw pos (keywordEach kws X.env))) := by rfl) :
    PE X (.Call (.Attribute oe mn apos) [] kws pos) (LE lk (wMeth C mn (oFn n o) we wk)) := pe_mono (pe_methK (pl := pl) ho c hm Fk hr hb hx ha hall hks hpl ht) fun s H Q q => by
  have q := l_meth (E := E0) (sA_fn hL) q
  obtain ⟨B, F, m, vs, ts, P, st, hw, k⟩ := q
  refine ⟨B, F, m, vs, ts, _, st, hw, fun x m1 hx v F1 H1 g1 st1 => ?_⟩
  obtain ⟨a, dx, fs, rfl, e2, e3, B', F', m', vs', ts', P', st', hw', k'⟩ := k x m1 hx v F1 H1 g1 st1
  refine ⟨a, dx, fs, rfl, e2, e3, B', F', m', vs', ts', _, st', hw', fun xs m2 hx2 us F2 H2 g2 hl st2 => ?_⟩
  have := k' xs m2 hx2 us F2 H2 g2 hl st2
  have h2 : spV L n o (.ref a :: (us ++ [])) H2 Q E0 := this
  rw [List.append_nil] at h2
  refine ⟨?_, h2⟩
  have := h2.1
  simp only [List.length_cons] at this
  omega
end
end VL
set_option Elab.async false
set_option linter.all false
set_option maxRecDepth 100000
set_option maxHeartbeats 4000000
/-! VL15: a, b, .. = x, y, ..; contexts. -/
namespace VL
open PySem PySem.Spec PyProof.Rows L2

def gNames : List Nat → TGs
  | [] => gNil
  | i :: is => gCons (gName i) (gNames is)
def setAll (m : Tau) : List Nat → List T → Tau
  | i :: is, x :: xs => setAll (m.set i (some x)) is xs
  | _, _ => m
def wParL (is : List Nat) (wa : WA) : WS := fun m E => wa m fun xs m1 => (xs.length = is.length ∧ ∀ i ∈ is, i < m1.length) ∧ E.nx (setAll m1 is xs)
theorem names_ok {lk : Lk} {kp : Nat → Prop} {B F H : Hp} {vs : List V} {ts : List T} {Q : L2.St → Hp → Prop} : ∀ {is : List Nat} {us : List V} {xs : List T} {s : L2.St} {m : Tau}, us.length = xs.length → xs.length = is.length → (∀ i ∈ is, ¬ kp i) → (∀ i ∈ is, i < m.length) →
    St lk B F H s m (us ++ vs) (xs ++ ts) → (∀ s', Kp kp s s' → St lk B F H s' (setAll m is xs) vs ts → Q s' H) → gNames is us s H Q
  | [], [], [], s, m, _, _, _, _, st, k => ⟨rfl, k s Kp.refl st⟩
  | [], u :: us, [], s, m, h, _, _, _, _, _ => by cases h
  | [], [], x :: xs, s, m, h, _, _, _, _, _ => by cases h
  | [], u :: us, x :: xs, s, m, _, h, _, _, _, _ => by cases h
  | i :: is, [], [], s, m, _, h, _, _, _, _ => by cases h
  | i :: is, u :: us, [], s, m, h, _, _, _, _, _ => by cases h
  | i :: is, [], x :: xs, s, m, h, _, _, _, _, _ => by cases h
  | i :: is, u :: us, x :: xs, s, m, h1, h2, hk, hl, st, k => by
    obtain ⟨w, wr, e, st2⟩ := St.set (t := x) st (hl i List.mem_cons_self)
    cases e
    refine ⟨u, us, rfl, ?_⟩
    show gNames is us (s.set i (some u)) H Q
    exact names_ok (by simpa using h1) (by simpa using h2) (fun j hj => hk j (List.mem_cons_of_mem _ hj)) (fun j hj => by rw [List.length_set]; exact hl j (List.mem_cons_of_mem _ hj)) st2 fun s' ks st' => k s' ((Kp.set (hk i List.mem_cons_self)).trans ks) st'
theorem s_parT {X : Cx} {lk : Lk} {kp : Nat → Prop} {W : WX} {wa : WA} {u : TGs} (is : List Nat) {tgs es : List Expr} {kt k2 : Nat} {pt pt2 pos : Pos} (hc : X.calm = true) (hk : ∀ i ∈ is, ¬ kp i) (ha : PA X es (LA lk wa)) (hg : PGs X tgs u) (hu : u = gNames is := by rfl) (hz : is.length ≤ sizeLine := by decide)
    (hn : (assignEach tgs X.env).length = is.length := by rfl) (hst : (assignEach tgs X.env).findIdx? (·.1) = none := by rfl) (hs : swapsWithSole [.Tuple tgs kt pt] (.Tuple es k2 pt2) pos.line X.env = pure false := by rfl) (hw : swappedStores [.Tuple tgs kt pt] (.Tuple es k2 pt2) X.env = pure none := by rfl)
    (h1 : (assignEach [.Tuple tgs kt pt] X.env).map (·.2) = [assign (.Tuple tgs kt pt) X.env] := by rfl) :
    PS X (.Assign [.Tuple tgs kt pt] (.Tuple es k2 pt2) pos) (LS lk kp W (wParL is wa)) := ps_mono (ps_asg (pe_tup ha) (pg_tup (n := is.length) hc hg hn hst) hs hw h1) fun D s H q => by
  subst hu
  obtain ⟨B, F, m, vs, ts, E, st, hw, k⟩ := q
  refine ⟨B, F, m, vs, ts, _, st, hw, fun xs m1 hx us F1 H1 g1 hl st1 => ⟨by rw [hl, hx.1.1]; exact hz, fun p hp => ?_⟩⟩
  have st2 := st1.junk (o := .tup us) hp
  exact ⟨p, us, rfl, SqT.of upd_same, by rw [hl, hx.1.1], names_ok hl hx.1.1 hk hx.1.2 st2 fun s' ks st' => k.nx _ hx.2 s' F1 _ g1 ks st'⟩
end VL
set_option Elab.async false
set_option linter.all false
set_option maxRecDepth 100000
set_option maxHeartbeats 4000000
/-! VL16: callees by name. -/
namespace VL
open PySem PySem.Spec PyProof.Rows L2

/-- what comes about is frozen -/
def wFz (w : WE) : WE := fun m Q => w m fun t m1 => Q (.fz t.er) m1
theorem v_fz {X : Cx} {e : Expr} {w : WE} {lk : Lk} (h : PE X e (LE lk w)) : PE X e (LE lk (wFz w)) := pe_mono h fun s H Q q => by
  obtain ⟨B, F, m, vs, ts, P, st, hw, k⟩ := q
  refine ⟨B, F, m, vs, ts, _, st, hw, fun t m1 ht v F1 H1 g1 st1 => ?_⟩
  obtain ⟨F2, g2, st2⟩ := st1.freeze
  exact k _ m1 ht v F2 H1 (g1.trans g2) st2
structure Cal (P : Program) (w : World) (K : PySem.W.Frag) (mg : Str → Option Value) (base : Heap) (CX : CXT) (x : Str) (k : Nat) (ps : List Str) (sp : Sp) : Prop where
  ex : ∃ f fd, mg x = some (.ref f) ∧ PySem.W.keepIn K (.ref f) = true ∧ L2.Binds K fd ps [] ∧ FnOk P w K mg base CX k f fd ps sp
structure CalG (P : Program) (w : World) (K : PySem.W.Frag) (mg : Str → Option Value) (base : Heap) (CX : CXT) (x : Str) (k : Nat) (ps : List Str) (sp : Sp) : Prop where
  ex : ∃ f fd, mg x = some (.ref f) ∧ PySem.W.keepIn K (.ref f) = true ∧ L2.Binds K fd ps [] ∧ FnG P w K mg base CX k f fd ps sp
/-- a method m of the class at C -/
structure CalM (P : Program) (w : World) (K : PySem.W.Frag) (mg : Str → Option Value) (base : Heap) (CX : CXT) (C : Addr) (m : Str) (k : Nat) (ps : List Str) (sp : Sp) : Prop where
  ex : ∃ f fd, Cls K C ∧ Meth K C m f ∧ L2.Binds K fd ps [] ∧ FnOk P w K mg base CX k f fd ps sp
structure CalMK (P : Program) (w : World) (K : PySem.W.Frag) (mg : Str → Option Value) (base : Heap) (CX : CXT) (C : Addr) (m : Str) (k : Nat) (ps ks : List Str) (sp : Sp) : Prop where
  ex : ∃ f fd, Cls K C ∧ Meth K C m f ∧ KBn K fd ps 1 ks (fun us ws => us ++ ws) (fun vs zs => vs ++ zs) ∧ FnOk P w K mg base CX k f fd ps sp
/-- a class -/
structure CalC (P : Program) (w : World) (K : PySem.W.Frag) (mg : Str → Option Value) (base : Heap) (CX : CXT) (x : Str) (C : Addr) (k : Nat) (ps : List Str) (sp : Sp) : Prop where
  ex : ∃ f fd, Mk K C f ∧ mg x = some (.ref C) ∧ L2.Binds K fd ps [] ∧ FnOk P w K mg base CX k f fd ps sp
section
variable {P : Program} {w : World} {K : PySem.W.Frag} {mg : Str → Option Value} {base : Heap} {CX : CXT} {x m : Str} {C : Addr} {j k : Nat} {ps ks : List Str} {sp : Sp}
theorem Cal.mono (h : Cal P w K mg base CX x j ps sp) (l : j ≤ k) : Cal P w K mg base CX x k ps sp := let ⟨f, fd, a, b, c, d⟩ := h.ex; ⟨f, fd, a, b, c, d.mono l⟩
theorem CalG.mono (h : CalG P w K mg base CX x j ps sp) (l : j ≤ k) : CalG P w K mg base CX x k ps sp := let ⟨f, fd, a, b, c, d⟩ := h.ex; ⟨f, fd, a, b, c, d.mono l⟩
theorem CalM.mono (h : CalM P w K mg base CX C m j ps sp) (l : j ≤ k) : CalM P w K mg base CX C m k ps sp := let ⟨f, fd, a, b, c, d⟩ := h.ex; ⟨f, fd, a, b, c, d.mono l⟩
theorem CalMK.mono (h : CalMK P w K mg base CX C m j ps ks sp) (l : j ≤ k) : CalMK P w K mg base CX C m k ps ks sp := let ⟨f, fd, a, b, c, d⟩ := h.ex; ⟨f, fd, a, b, c, d.mono l⟩
theorem CalC.mono (h : CalC P w K mg base CX x C j ps sp) (l : j ≤ k) : CalC P w K mg base CX x C k ps sp := let ⟨f, fd, a, b, c, d⟩ := h.ex; ⟨f, fd, a, b, c, d.mono l⟩
theorem Cal.toG (h : Cal P w K mg base CX x k ps sp) : CalG P w K mg base CX x k ps sp := let ⟨f, fd, a, b, c, d⟩ := h.ex; ⟨f, fd, a, b, c, .of d⟩
end
section
variable {X : Cx} {CX : CXT} {k n : Nat} {C : Addr} {ps ks : List Str} {o : OX} {oi : OIO} {x y mn : Str} {p p1 pos apos : Pos} {e oe : Expr} {es : List Expr} {kws : List Keyword} {wa wk : WA} {we : WE} {lk : Lk} {L : Lk → Prop}
theorem u_fn (c : Cal X.prog X.w X.K X.mg X.base CX x k ps (spV L n o)) (hr : Room k X.A) (hx : Passes CX X E0) (hL : L lk)
    (ha : PA X (e :: es) (LA lk wa)) (hg : Gl X x := by rfl) (hdb : (x == ("__debug__" : Str)) = false := by decide) (he : starEach (e :: es) X.env = (false, eval e X.env) :: starEach es X.env := by rfl) (hpl : (backTo pos (starEach es X.env)).any (·.1) = false := by rfl) :
    PE X (.Call (.Name x p) (e :: es) [] pos) (LE lk (wA (oFn n o) wa)) := let ⟨_, _, a, b, c, d⟩ := c.ex; v_fn d hr a b c hx hL ha hg hdb he hpl
theorem u_fnG (c : CalG X.prog X.w X.K X.mg X.base CX x k ps (spV L n o)) (hG : X.A.guards = some []) (hr : Room k X.A) (hx : Passes CX X E0) (hL : L lk)
    (ha : PA X (e :: es) (LA lk wa)) (hg : Gl X x := by rfl) (hdb : (x == ("__debug__" : Str)) = false := by decide) (he : starEach (e :: es) X.env = (false, eval e X.env) :: starEach es X.env := by rfl) (hpl : (backTo pos (starEach es X.env)).any (·.1) = false := by rfl) :
    PE X (.Call (.Name x p) (e :: es) [] pos) (LE lk (wA (oFn n o) wa)) := let ⟨_, _, a, b, c, d⟩ := c.ex; v_fnG d hG hr a b c hx hL ha hg hdb he hpl
theorem u_io (i : Nat) (c : Cal X.prog X.w X.K X.mg X.base CX x k ps (spIO L n oi)) (hr : Room k X.A) (hx : Passes CX X E0) (hL : L lk)
    (hn : PE X (.Name y p1) (tVar i)) (ha : PA X es (LA lk wa)) (hg : Gl X x := by rfl) (hdb : (x == ("__debug__" : Str)) = false := by decide) (he : starEach (.Name y p1 :: es) X.env = (false, eval (.Name y p1) X.env) :: starEach es X.env := by rfl) (hpl : (backTo pos (starEach es X.env)).any (·.1) = false := by rfl) :
    PE X (.Call (.Name x p) (.Name y p1 :: es) [] pos) (LE lk (wIO i n oi wa)) := let ⟨_, _, a, b, c, d⟩ := c.ex; v_io i d hr a b c hx hL hn ha hg hdb he hpl
theorem u_ioG (i : Nat) (c : CalG X.prog X.w X.K X.mg X.base CX x k ps (spIO L n oi)) (hG : X.A.guards = some []) (hr : Room k X.A) (hx : Passes CX X E0) (hL : L lk)
    (hn : PE X (.Name y p1) (tVar i)) (ha : PA X es (LA lk wa)) (hg : Gl X x := by rfl) (hdb : (x == ("__debug__" : Str)) = false := by decide) (he : starEach (.Name y p1 :: es) X.env = (false, eval (.Name y p1) X.env) :: starEach es X.env := by rfl) (hpl : (backTo pos (starEach es X.env)).any (·.1) = false := by rfl) :
    PE X (.Call (.Name x p) (.Name y p1 :: es) [] pos) (LE lk (wIO i n oi wa)) := let ⟨_, _, a, b, c, d⟩ := c.ex; v_ioG i d hG hr a b c hx hL hn ha hg hdb he hpl
theorem u_meth {pl : Sem Bool} (c : CalM X.prog X.w X.K X.mg X.base CX C mn k ps (spV L n o)) (hr : Room k X.A) (hx : Passes CX X E0) (hL : L lk)
    (ho : PE X oe (LE lk we)) (ha : PA X (e :: es) (LA lk wa)) (hst : starEach (e :: es) X.env = (false, eval e X.env) :: starEach es X.env := by rfl) (hpl : (backTo pos (starEach es X.env)).any (·.1) = false := by rfl)
    (ht : eval (.Call (.Attribute oe mn apos) (e :: es) [] pos) X.env = (do
      let ov ← eval oe X.env
      standAt apos.atName
      let (f, first) ← holding [ov] (getMethod ov mn pl)
      callWith pos f first (backTo pos (starEach (e :: es) X.env)) (backToKw pos (keywordEach [] X.env))) := by rfl) :
    PE X (.Call (.Attribute oe mn apos) (e :: es) [] pos) (LE lk (wMeth C mn (oFn n o) we wa)) := let ⟨_, _, a, b, c, d⟩ := c.ex; v_meth (pl := pl) d hr a b c hx hL ho ha hst hpl ht
theorem u_methK {pl : Sem Bool} (c : CalMK X.prog X.w X.K X.mg X.base CX C mn k ps ks (spV L n o)) (hr : Room k X.A) (hx : Passes CX X E0) (hL : L lk) (hn : n = ks.length + 1)
    (ho : PE X oe (LE lk we)) (ha : PK X kws (LA lk wk)) (hall : (backToKw pos (keywordEach kws X.env)).all (·.1.isSome) = true := by rfl) (hks : (backToKw pos (keywordEach kws X.env)).filterMap (·.1) = ks := by rfl)
    (hpl : ((backTo pos (starEach [] X.env)).any (·.1) || (backToKw pos (keywordEach kws X.env)).any (·.1.isNone)) = false := by rfl)
    (ht : eval (.Call (.Attribute oe mn apos) [] kws pos) X.env = (do
      let ov ← eval oe X.env
      standAt apos.atName
      let (f, first) ← holding [ov] (getMethod ov mn pl)
      callWith pos f first (backTo pos (starEach [] X.env)) (backToKw pos (keywordEach kws X.env))) := by rfl) :
    PE X (.Call (.Attribute oe mn apos) [] kws pos) (LE lk (wMeth C mn (oFn n o) we wk)) := let ⟨_, _, a, b, c, d⟩ := c.ex; v_methK (pl := pl) d hr a b c hx hL hn ho ha hall hks hpl ht
theorem u_make (c : CalC X.prog X.w X.K X.mg X.base CX x C k ps (spIO L n oi)) (hr : Room (k + 1) X.A) (hx : Passes CX X E0) (hL : L lk)
    (ha : PA X (e :: es) (LA lk wa)) (hg : Gl X x := by rfl) (hdb : (x == ("__debug__" : Str)) = false := by decide) (he : starEach (e :: es) X.env = (false, eval e X.env) :: starEach es X.env := by rfl) (hpl : (backTo pos (starEach es X.env)).any (·.1) = false := by rfl) :
    PE X (.Call (.Name x p) (e :: es) [] pos) (LE lk (wA (oMk C n oi) wa)) := let ⟨_, _, a, b, c, d⟩ := c.ex; v_make a d hr b c hx hL ha hg hdb he hpl
end
/-- the cell that a frame's own names are in -/
theorem own_cx {CX : CXT} {P : Program} {w : World} {K : PySem.W.Frag} {mg : Str → Option Value} {base : Heap} {N : List Str} {qual : Str} {scope : Scope} {f : Addr} {cd : Value} {A : Around} {outer : List Env} {s : Shared} {H : Hp} {E : XK} :
    PassesOwn (model P w) (cxOf CX P w K mg base N qual scope f cd A outer s H E).A (cxOf CX P w K mg base N qual scope f cd A outer s H E).env (cxOf CX P w K mg base N qual scope f cd A outer s H E).xe :=
  passes_of (X := cxOf CX P w K mg base N qual scope f cd A outer s H E) (K := fun e s'' => CX outer H s E e s'') rfl
end VL
set_option Elab.async false
set_option linter.all false
set_option maxRecDepth 100000
set_option maxHeartbeats 4000000
/-! VL17: name = [.. for ..]. -/
namespace VL
open PySem PySem.Spec PyProof.Rows L2
abbrev oMin : O2 := oI fun i j => .int (if j < i then j else i)
abbrev oMax : O2 := oI fun i j => .int (if j > i then j else i)
section
variable {X : Cx} {elt tg iter : Expr} {ifs : List Expr} {scope : Scope} {own : List (Str × Nat)} {pos spos py : Pos} {y : Str} {wi : WI} {g : WG} {wt : WT} {we : WE} {gt : TG} {lk : Lk} {kp : Nat → Prop} {W : WX} {ti : TI} {te : TE} {p : Tau → Option D} {sel : List Key → List D → List D}
theorem s_setLc (i : Nat) (hc : X.calm = true) (hN : X.N.Nodup) (hk : ¬ kp i) (hi : PI X tg iter (LI lk wi)) (ok : BlkOk X.N X.env.scope scope own) (sg : SG gt (fun i => i ∉ own.map (·.2)) g)
    (hg : ∀ (s : Shared) (H : Hp) (C : Addr) (cl : List (Str × Addr)) (fp : List Addr), PG (X.blk s H scope (compEnvC scope cl C X.env) fp) tg gt) (ht : ∀ (s : Shared) (H : Hp) (C : Addr) (cl : List (Str × Addr)) (fp : List Addr), PTs (X.blk s H scope (compEnvC scope cl C X.env) fp) ifs (LT lk wt))
    (he : ∀ (s : Shared) (H : Hp) (C : Addr) (cl : List (Str × Addr)) (fp : List Addr), PE (X.blk s H scope (compEnvC scope cl C X.env) fp) elt (LE lk we)) (hy : X.N[i]? = some y := by rfl) (hyl : X.env.scope.names.lookup y = some .local := by rfl)
    (hsw : swapsWith (.ListComp elt [⟨tg, iter, ifs, 0⟩] scope pos) (some (.Name y py)) spos.line X.env = pure true := by rfl) (hs : ∀ x, foldedSetIterable iter X.env x = pure x := by intro _; rfl) :
    PS X (.Assign [.Name y py] (.ListComp elt [⟨tg, iter, ifs, 0⟩] scope pos) spos) (LS lk kp W (wSet i (wLc wi g wt we (own.map (·.2))))) :=
  ps_mono (ps_setLc hc hN hy hyl hsw hi ok hg ht he hs) fun D s H q => l_lc sg (l_set hk q)
theorem s_setLcF (i : Nat) (hc : X.calm = true) (hN : X.N.Nodup) (hk : ¬ kp i) (hi : PI X tg iter (LI lk wi)) (ok : BlkOk X.N X.env.scope scope own) (sg : SG gt (fun i => i ∉ own.map (·.2)) g)
    (hg : ∀ (s : Shared) (H : Hp) (C : Addr) (cl : List (Str × Addr)) (fp : List Addr), PG (X.blk s H scope (compEnvC scope cl C X.env) fp) tg gt) (ht : ∀ (s : Shared) (H : Hp) (C : Addr) (cl : List (Str × Addr)) (fp : List Addr), PTs (X.blk s H scope (compEnvC scope cl C X.env) fp) ifs (LT lk wt))
    (he : ∀ (s : Shared) (H : Hp) (C : Addr) (cl : List (Str × Addr)) (fp : List Addr), PE (X.blk s H scope (compEnvC scope cl C X.env) fp) elt (LE lk we)) (hy : X.N[i]? = some y := by rfl) (hyl : X.env.scope.names.lookup y = some .local := by rfl)
    (hsw : swapsWith (.ListComp elt [⟨tg, iter, ifs, 0⟩] scope pos) (some (.Name y py)) spos.line X.env = pure true := by rfl) (hs : ∀ x, foldedSetIterable iter X.env x = pure x := by intro _; rfl) :
    PS X (.Assign [.Name y py] (.ListComp elt [⟨tg, iter, ifs, 0⟩] scope pos) spos) (LS lk kp W (wSetF i (wLc wi g wt we (own.map (·.2))))) :=
  ps_mono (ps_setLc hc hN hy hyl hsw hi ok hg ht he hs) fun D s H q => l_lc sg (l_setF hk q)
theorem s_setLcK (i : Nat) (hc : X.calm = true) (hN : X.N.Nodup) (hk : ¬ kp i) (hi : PI X tg iter ti) (hd : DIt te ti sel) (hp : Pth te p) (ok : BlkOk X.N X.env.scope scope own) (sg : SG gt (fun i => i ∉ own.map (·.2)) g)
    (hg : ∀ (s : Shared) (H : Hp) (C : Addr) (cl : List (Str × Addr)) (fp : List Addr), PG (X.blk s H scope (compEnvC scope cl C X.env) fp) tg gt) (ht : ∀ lk (s : Shared) (H : Hp) (C : Addr) (cl : List (Str × Addr)) (fp : List Addr), PTs (X.blk s H scope (compEnvC scope cl C X.env) fp) ifs (LT lk wt))
    (he : ∀ lk (s : Shared) (H : Hp) (C : Addr) (cl : List (Str × Addr)) (fp : List Addr), PE (X.blk s H scope (compEnvC scope cl C X.env) fp) elt (LE lk we)) (hy : X.N[i]? = some y := by rfl) (hyl : X.env.scope.names.lookup y = some .local := by rfl)
    (hsw : swapsWith (.ListComp elt [⟨tg, iter, ifs, 0⟩] scope pos) (some (.Name y py)) spos.line X.env = pure true := by rfl) (hs : ∀ x, foldedSetIterable iter X.env x = pure x := by intro _; rfl) :
    PS X (.Assign [.Name y py] (.ListComp elt [⟨tg, iter, ifs, 0⟩] scope pos) spos) (LS lk kp W (wSet i (wLcK p sel g wt we (own.map (·.2))))) := by
  have h := ps_setLc (te := LEU we) (tt := LTU wt) hc hN hy hyl hsw hi ok hg (fun s H C cl fp => pts_any fun lk => ht lk s H C cl fp) (fun s H C cl fp => pe_any fun lk => he lk s H C cl fp) hs
  exact ps_mono (ps_or (ps_lock h) h) fun D s H q => l_lcK hd hp sg (l_set hk q)
theorem s_setLcKF (i : Nat) (hc : X.calm = true) (hN : X.N.Nodup) (hk : ¬ kp i) (hi : PI X tg iter ti) (hd : DIt te ti sel) (hp : Pth te p) (ok : BlkOk X.N X.env.scope scope own) (sg : SG gt (fun i => i ∉ own.map (·.2)) g)
    (hg : ∀ (s : Shared) (H : Hp) (C : Addr) (cl : List (Str × Addr)) (fp : List Addr), PG (X.blk s H scope (compEnvC scope cl C X.env) fp) tg gt) (ht : ∀ lk (s : Shared) (H : Hp) (C : Addr) (cl : List (Str × Addr)) (fp : List Addr), PTs (X.blk s H scope (compEnvC scope cl C X.env) fp) ifs (LT lk wt))
    (he : ∀ lk (s : Shared) (H : Hp) (C : Addr) (cl : List (Str × Addr)) (fp : List Addr), PE (X.blk s H scope (compEnvC scope cl C X.env) fp) elt (LE lk we)) (hy : X.N[i]? = some y := by rfl) (hyl : X.env.scope.names.lookup y = some .local := by rfl)
    (hsw : swapsWith (.ListComp elt [⟨tg, iter, ifs, 0⟩] scope pos) (some (.Name y py)) spos.line X.env = pure true := by rfl) (hs : ∀ x, foldedSetIterable iter X.env x = pure x := by intro _; rfl) :
    PS X (.Assign [.Name y py] (.ListComp elt [⟨tg, iter, ifs, 0⟩] scope pos) spos) (LS lk kp W (wSetF i (wLcK p sel g wt we (own.map (·.2))))) := by
  have h := ps_setLc (te := LEU we) (tt := LTU wt) hc hN hy hyl hsw hi ok hg (fun s H C cl fp => pts_any fun lk => ht lk s H C cl fp) (fun s H C cl fp => pe_any fun lk => he lk s H C cl fp) hs
  exact ps_mono (ps_or (ps_lock h) h) fun D s H q => l_lcK hd hp sg (l_setF hk q)
end
end VL
set_option Elab.async false
set_option linter.all false
set_option maxRecDepth 100000
set_option maxHeartbeats 4000000
/-! VL18: the law's own call. -/
namespace VL
open PySem PySem.Spec PyProof.Rows L2
theorem top_spV {K : PySem.W.Frag} {H : Hp} {a : Addr} {ns : List Int} {o : OX} (hS : SqL K H a (ns.map V.int)) (ho : o [.fz (.scr K ns)] (fun t => t = .fz (.bl true)) (fun _ => False)) :
    spV onlyL 1 o [.ref a] H (fun v _ => v = .bl true) fun _ _ _ => False := by
  have hz : Fz H (.scr K ns) (.ref a) := by
    simp only [Fz]
    exact ⟨a, rfl, hS⟩
  have st0 : St noLk H H H [] [] [] [] := ⟨⟨fun _ => False, fun _ => False, by simp only [RpS]; exact ⟨trivial, trivial⟩, by simp only [RpL]; exact ⟨trivial, trivial⟩, fun _ z _ => z, fun a z => (z.elim id id).elim⟩, Sub.refl _ _, ⟨Sub.refl _ _, fun a z => z.elim⟩⟩
  refine ⟨rfl, noLk, H, H, [.fz (.scr K ns)], _, _, rfl, rfl, st0.push hz, ho, fun t e v F' H' g st => ?_, fun e z => z.elim⟩
  subst e
  obtain ⟨k, _⟩ := st.tfz
  exact fz_bl k
end VL
set_option Elab.async false
set_option linter.all false
set_option maxRecDepth 100000
set_option maxHeartbeats 4000000
/-! VL19: operators of own classes. -/
namespace VL
open PySem PySem.Spec PyProof.Rows L2
/-- what is handed back by a method of an operator is a value -/
theorem back_ok {Q : Value → Shared → Prop} {v : V} {u : Value} {s : Shared} (r : RelV v u) (q : Q u s) : PySem.W.CmpBack Q u s := by
  cases u with
  | notImplemented => cases v <;> first | (cases r; done) | (obtain ⟨_, r⟩ := r; cases r)
  | _ => exact q
section
variable {X : Cx} {CX : CXT} {k : Nat} {C f : Addr} {fd : FuncData} {ps : List Str} {sp : Sp} {E : XK} {mn : Str}
def rOwn2 (C : Addr) (sp : Sp) (E : XK) : R2 := fun x y H Q => ∃ a b dx dy fs gs, x = .ref a ∧ y = .ref b ∧ H a = some (.ins C dx fs) ∧ H b = some (.ins C dy gs) ∧ sp [x, y] H Q E
def rOwn1 (C : Addr) (sp : Sp) (E : XK) : V → Hp → VK → Prop := fun x H Q => ∃ a dx fs, x = .ref a ∧ H a = some (.ins C dx fs) ∧ sp [x] H Q E
theorem op_own2 {op : Operator} (F : FnOk X.prog X.w X.K X.mg X.base CX k f fd ps sp) (hm : Meth X.K C mn f) (e : mn = PySem.dunder op.info.2) (hc : PySem.W.selfFirst X.K C = true) (hr : Room k X.A) (hb : Binds X.K fd ps []) (hx : Passes CX X E) : OpR X (binaryOp op) (rOwn2 C sp E) := by
  intro pins s σ H x y v u Q I rx ry h
  obtain ⟨a, b, dx, dy, fs, gs, rfl, rfl, ha, hb', q⟩ := h
  obtain rfl : v = Value.ref a := rx
  obtain rfl : u = Value.ref b := ry
  obtain ⟨mA, J, _⟩ := ins_get I.hok ha
  obtain ⟨mB, J', _⟩ := ins_get I.hok hb'
  obtain ⟨od, J, _⟩ := J.look
  obtain ⟨od', J', _⟩ := J'.look
  obtain ⟨m, hF⟩ := I.fr
  subst e
  refine PySem.W.binop_K hF I.ok.mod.kin J J'.type hc hm.at_ hm.fn (wpAny_mono (run_fn (us := [.ref a, .ref b]) (vs := [.ref a, .ref b]) F hr hb .nil hx I (.cons rfl (.cons rfl .nil)) q) (fun r s' z => ?_) fun _ _ x => x)
  obtain ⟨v', H', I', rv, q'⟩ := z
  exact back_ok rv ⟨v', H', I', rv, q'⟩
theorem un_own1 (F : FnOk X.prog X.w X.K X.mg X.base CX k f fd ps sp) (hm : Meth X.K C "__invert__" f) (hr : Room k X.A) (hb : Binds X.K fd ps []) (hx : Passes CX X E) : UnR X (unaryOp .Invert) (rOwn1 C sp E) := by
  intro pins s σ H x v Q I rx h
  obtain ⟨a, dx, fs, rfl, ha, q⟩ := h
  obtain rfl : v = Value.ref a := rx
  obtain ⟨mA, J, _⟩ := ins_get I.hok ha
  obtain ⟨od, J, _⟩ := J.look
  obtain ⟨m, hF⟩ := I.fr
  exact PySem.W.ksp_inv hF I.ok.mod.kin J hm.at_ hm.fn (run_fn (us := [.ref a]) (vs := [.ref a]) F hr hb .nil hx I (.cons rfl .nil) q)
theorem eq_own2 (F : FnOk X.prog X.w X.K X.mg X.base CX k f fd ps sp) (hm : Meth X.K C "__eq__" f) (hr : Room k X.A) (hb : Binds X.K fd ps []) (hx : Passes CX X E) : OpR X (compareOp .Eq) (rOwn2 C sp E) := by
  intro pins s σ H x y v u Q I rx ry h
  obtain ⟨a, b, dx, dy, fs, gs, rfl, rfl, ha, hb', q⟩ := h
  obtain rfl : v = Value.ref a := rx
  obtain rfl : u = Value.ref b := ry
  obtain ⟨mA, J, _⟩ := ins_get I.hok ha
  obtain ⟨mB, J', _⟩ := ins_get I.hok hb'
  obtain ⟨od, J, _⟩ := J.look
  obtain ⟨od', J', _⟩ := J'.look
  obtain ⟨m, hF⟩ := I.fr
  show wpAny (model X.prog X.w) X.A (richCompare .Eq (.ref a) (.ref b)) (EP X pins σ Q) X.xe s
  refine PySem.W.cmp_K (op := .Eq) (tb := .ref C) hr.units0 hF I.ok.mod.kin J J'.type (by simp [PySem.W.notFirst]) hm.at_ hm.fn (wpAny_mono (run_fn (us := [.ref a, .ref b]) (vs := [.ref a, .ref b]) F hr hb .nil hx I (.cons rfl (.cons rfl .nil)) q) (fun r s' z => ?_) fun _ _ x => x)
  obtain ⟨v', H', I', rv, q'⟩ := z
  exact back_ok rv ⟨v', H', I', rv, q'⟩
end
end VL
set_option Elab.async false
set_option linter.all false
set_option maxRecDepth 100000
set_option maxHeartbeats 4000000
/-! VL20: operators of own classes, read over trees. -/
namespace VL
open PySem PySem.Spec PyProof.Rows L2
def oOwn2 (C : Addr) (oA : OA) : O2 := fun x y P => match x, y with
  | .fz (.ins C1 fs l), .fz (.ins C2 gs l') => C1 = C ∧ C2 = C ∧ oA [.fz (.ins C1 fs l), .fz (.ins C2 gs l')] P
  | _, _ => False
def oOwn1 (C : Addr) (oA : OA) : O1 := fun x P => match x with
  | .fz (.ins C1 fs l) => C1 = C ∧ oA [.fz (.ins C1 fs l)] P
  | _ => False
theorem s_own2 {C : Addr} {o : OX} : S2 (rOwn2 C (spV anyL 2 o) E0) (oOwn2 C (oFn 2 o)) := by
  intro lk B F H s m vs ts v u x y P Q st ho k
  unfold oOwn2 at ho
  split at ho
  · rename_i C1 fs l C2 gs l'
    obtain ⟨rfl, rfl, ho⟩ := ho
    obtain ⟨hb, st1⟩ := st.tfz
    obtain ⟨ha, st2⟩ := st1.tfz
    have st3 := (st2.push hb).push ha
    obtain ⟨a, dx, ws, rfl, e1, e2, e3, e4⟩ := st2.ins ha
    obtain ⟨b, dy, ws', rfl, f1, f2, f3, f4⟩ := st2.ins hb
    exact ⟨a, b, dx, dy, _, _, rfl, rfl, e2, f2, spV_in (us := [.ref a, .ref b]) (xs := [_, _]) trivial st3 rfl rfl ho.2 k fun e z => z.elim⟩
  · exact ho.elim
theorem s_own1 {C : Addr} {o : OX} : S1 (rOwn1 C (spV anyL 1 o) E0) (oOwn1 C (oFn 1 o)) := by
  intro lk B F H s m vs ts u x P Q st ho k
  unfold oOwn1 at ho
  split at ho
  · rename_i C1 fs l
    obtain ⟨rfl, ho⟩ := ho
    obtain ⟨ha, st2⟩ := st.tfz
    have st3 := st2.push ha
    obtain ⟨a, dx, ws, rfl, e1, e2, e3, e4⟩ := st2.ins ha
    exact ⟨a, dx, _, rfl, e2, spV_in (us := [.ref a]) (xs := [_]) trivial st3 rfl rfl ho.2 k fun e z => z.elim⟩
  · exact ho.elim
section
variable {X : Cx} {CX : CXT} {k n : Nat} {C : Addr} {ps : List Str} {o : OX} {mn x : Str} {p pos apos : Pos} {a b e : Expr} {wa wb we : WE} {lk : Lk}
theorem u_op2 {op : Operator} (c : CalM X.prog X.w X.K X.mg X.base CX C mn k ps (spV anyL 2 o)) (em : mn = PySem.dunder op.info.2) (hc : PySem.W.selfFirst X.K C = true) (hr : Room k X.A) (hx : Passes CX X E0)
    (ha : PE X a (LE lk wa)) (hb : PE X b (LE lk wb)) : PE X (.BinOp a op b pos) (LE lk (w2 (oOwn2 C (oFn 2 o)) wa wb)) := let ⟨_, _, _, m, bb, d⟩ := c.ex; v_bin (op_own2 d m em hc hr bb hx) s_own2 ha hb
theorem u_inv (c : CalM X.prog X.w X.K X.mg X.base CX C "__invert__" k ps (spV anyL 1 o)) (hr : Room k X.A) (hx : Passes CX X E0)
    (ha : PE X a (LE lk wa)) : PE X (.UnaryOp .Invert a pos) (LE lk (w1 (oOwn1 C (oFn 1 o)) wa)) := let ⟨_, _, _, m, bb, d⟩ := c.ex; v_un (un_own1 d m hr bb hx) s_own1 ha
end
/-! ### == of data or of instances -/
def oEqO (C : Addr) (oA : OA) : O2 := fun x y P => match x, y with
  | .fz (.ins C1 fs l), .fz (.ins C2 gs l') => C1 = C ∧ C2 = C ∧ oA [.fz (.ins C1 fs l), .fz (.ins C2 gs l')] P
  | .fz a, .fz b => match dEq false a b with
    | some d => P (.fz d)
    | none => False
  | _, _ => False
theorem OpR.or {X : Cx} {f : Value → Value → Sem Value} {r r' : R2} (h : OpR X f r) (h' : OpR X f r') : OpR X f (fun x y H Q => r x y H Q ∨ r' x y H Q) := fun pins s σ H x y v u Q I rx ry q => q.elim (h pins s σ H x y v u Q I rx ry) (h' pins s σ H x y v u Q I rx ry)
theorem s_eqO {K : PySem.W.Frag} {C : Addr} {o : OX} : S2 (fun x y H Q => rOwn2 C (spV anyL 2 o) E0 x y H Q ∨ rEqD K x y H Q) (oEqO C (oFn 2 o)) := by
  intro lk B F H s m vs ts v u x y P Q st ho k
  unfold oEqO at ho
  split at ho
  · exact .inl (s_own2 lk B F H s m vs ts v u _ _ P Q st ho k)
  · rename_i a b _
    split at ho
    · rename_i d e
      refine .inr (s_R2 rd_eq lk B F H s m vs ts v u _ _ P Q st ?_ k)
      show (match dEq false a b with
        | some d => P (.fz d)
        | none => False)
      rw [e]
      exact ho
    · exact ho.elim
  · exact ho.elim
section
variable {X : Cx} {CX : CXT} {k n : Nat} {C : Addr} {ps : List Str} {o : OX} {mn x : Str} {p pos apos : Pos} {a b e : Expr} {wa wb we : WE} {lk : Lk}
theorem v_eqO (hu : X.A.units + 64 < cLine) (c : CalM X.prog X.w X.K X.mg X.base CX C "__eq__" k ps (spV anyL 2 o)) (hr : Room k X.A) (hx : Passes CX X E0) (ha : PE X a (LE lk wa)) (hb : PE X b (LE lk wb)) :
    PE X (.Compare a [.Eq] [b] pos) (LE lk (w2 (oEqO C (oFn 2 o)) wa wb)) := let ⟨_, _, _, m, bb, d⟩ := c.ex; v_cmp ((eq_own2 d m hr bb hx).or (op_eqD hu)) s_eqO ha hb
theorem t_eqO (hu : X.A.units + 64 < cLine) (c : CalM X.prog X.w X.K X.mg X.base CX C "__eq__" k ps (spV anyL 2 o)) (hr : Room k X.A) (hx : Passes CX X E0) (ha : PE X a (LE lk wa)) (hb : PE X b (LE lk wb)) :
    PT X (.Compare a [.Eq] [b] pos) (LT lk (wB (w2 (oEqO C (oFn 2 o)) wa wb))) := let ⟨_, _, _, m, bb, d⟩ := c.ex; v_tcmp ((eq_own2 d m hr bb hx).or (op_eqD hu)) s_eqO ha hb
/-- o.m() -/
theorem u_meth0 {pl : Sem Bool} (c : CalM X.prog X.w X.K X.mg X.base CX C mn k ps (spV anyL 1 o)) (hr : Room k X.A) (hx : Passes CX X E0) (ho : PE X e (LE lk we))
    (ht : eval (.Call (.Attribute e mn apos) [] [] pos) X.env = (do
      let ov ← eval e X.env
      standAt apos.atName
      let (f, first) ← holding [ov] (getMethod ov mn pl)
      callWith pos f first (backTo pos (starEach [] X.env)) (backToKw pos (keywordEach [] X.env))) := by rfl) :
    PE X (.Call (.Attribute e mn apos) [] [] pos) (LE lk (wMeth C mn (oFn 1 o) we wNil)) := let ⟨_, _, cl, m, bb, d⟩ := c.ex; v_meth0 (pl := pl) d hr cl m bb hx (L := anyL) trivial ho ht
end
/-! ### len of instances -/
def rLenO (C : Addr) (sp : Sp) (E : XK) : List V → Hp → VK → Prop := fun xs H Q => ∃ a dx fs, xs = [.ref a] ∧ H a = some (.ins C dx fs) ∧ sp [.ref a] H (fun v H' => ∃ i : Int, v = .int i ∧ 0 ≤ i ∧ i < 2 ^ 63 ∧ Q (.int i) H') E
theorem call_lenO {X : Cx} {CX : CXT} {k : Nat} {C f : Addr} {fd : FuncData} {ps : List Str} {sp : Sp} {E : XK} (F : FnOk X.prog X.w X.K X.mg X.base CX k f fd ps sp) (hm : Meth X.K C "__len__" f) (hr : Room (k + 1) X.A) (hb : Binds X.K fd ps []) (hx : Passes CX X.nox E) : CallR X (.builtin "len") (rLenO C sp E) := by
  intro pins s σ H xs us Q I r h
  obtain ⟨a, dx, fs, rfl, ha, q⟩ := h
  obtain ⟨u, rfl, ru⟩ := Vals.one r
  obtain rfl : u = Value.ref a := ru
  obtain ⟨mA, J, _⟩ := ins_get I.hok ha
  obtain ⟨od, J, _⟩ := J.look
  obtain ⟨m, hF⟩ := I.fr
  have hl : [Value.ref a].length = ps.length := (F.len _ _ _ _ q)
  have hb' := hb s [.ref a] I.kIn (by rw [List.append_nil]; exact hl)
  rw [List.append_nil] at hb'
  refine PySem.W.len_K hF I.ok.mod.kin J hm.at_ hm.fn (wpAny_call (codeAny_mono (F.run X.A.in1 X.stack s H ⟨[.ref a], []⟩ [.ref a] [.ref a] _ E hr.in1 I.env0.in1 hb' (.cons rfl .nil) q) fun r s' hq => ?_))
  cases r with
  | error er => exact False.elim (hx pins σ H s er s' (I.wish _) hq)
  | ok fl =>
    cases fl with
    | ret u =>
      obtain ⟨v, H', I3, rv, i, rfl, i0, i1, q3⟩ := I.after hq
      obtain ⟨t, rfl⟩ := rv
      exact ⟨⟨i0, i1⟩, .int i, H', I3.tok _, ⟨_, rfl⟩, q3⟩
    | next => exact False.elim hq
    | brk => exact False.elim hq
    | cont => exact False.elim hq
/-- len of data or of instances -/
def oLenO (C : Addr) (o : OX) : OA := fun xs P => match xs with
  | [.fz (.ins C1 fs l)] => C1 = C ∧ o [.fz (.ins C1 fs l)] (fun t => ∃ i : Int, t = .fz (.int i) ∧ 0 ≤ i ∧ i < 2 ^ 63 ∧ P (.fz (.int i))) noX
  | xs => oA1 (oR1 dLen) xs P
theorem s_lenO {K : PySem.W.Frag} {C : Addr} {o : OX} : SA (fun xs H Q => rLenO C (spV anyL 1 o) E0 xs H Q ∨ rLenA K xs H Q) (oLenO C o) := by
  intro lk B F H s m vs ts us xs P Q hl st ho k
  unfold oLenO at ho
  split at ho
  · rename_i C1 fs l
    obtain ⟨rfl, ho⟩ := ho
    cases us with
    | nil => cases hl
    | cons u us =>
      cases us with
      | cons _ _ => cases hl
      | nil =>
        obtain ⟨ha, st2⟩ := St.tfz st
        have st3 := st2.push ha
        obtain ⟨a, dx, ws, rfl, e1, e2, e3, e4⟩ := st2.ins ha
        refine .inl ⟨a, dx, _, rfl, e2, spV_in (us := [.ref a]) (xs := [_]) trivial st3 rfl rfl ho (fun t e v F' H' g st4 => ?_) fun e z => z.elim⟩
        obtain ⟨i, rfl, i0, i1, q⟩ := e
        obtain ⟨rfl, st5⟩ := st4.tint
        exact ⟨i, rfl, i0, i1, k _ q _ F' H' g st4⟩
  · exact .inr (sA_of1 (s_R1 rd_len) lk B F H s m vs ts us _ P Q hl st ho k)
end VL
set_option Elab.async false
set_option linter.all false
set_option maxRecDepth 100000
set_option maxHeartbeats 4000000
/-! VL21: comprehensions of two clauses. -/
namespace VL
open PySem PySem.Spec PyProof.Rows L2
theorem wipe_get_not {s : L2.St} {i : Nat} : ∀ {vs : List Nat}, i ∉ vs → (L2.wipe s vs)[i]? = s[i]? := fun {vs} h => wipe_out h
theorem wipe_at {s : L2.St} {i : Nat} (hi : i < s.length) : ∀ {vs : List Nat}, i ∈ vs → (L2.wipe s vs)[i]? = some none
  | [], h => absurd h List.not_mem_nil
  | v :: vs, h => by
    unfold L2.wipe
    by_cases e : v = i
    · subst e
      rw [List.getElem?_set_self (by rw [L2.wipe_length]; exact hi)]
    · rw [List.getElem?_set_ne e]
      exact wipe_at hi ((List.mem_cons.mp h).resolve_left fun z => e z.symm)
/-- slots wiped are told by what is not wiped -/
theorem wipe_wipe {s : L2.St} {a b : List Nat} (h : ∀ i ∈ a, i ∈ b) : L2.wipe (L2.wipe s a) b = L2.wipe s b := by
  refine wipe_eq (by rw [L2.wipe_length]) fun i hi => ?_
  exact wipe_get_not fun z => hi (h i z)
/-- the loop of a comprehension's clause, acc there already -/
theorem lc_from {J : It} {lk : Lk} {gt : TG} {tt : TT} {te : TE} {s : L2.St} {B F0 : Hp} {vs : List V} {ts : List T} {g : WG} {wt : WT} {we : WE} {own : List Nat} {ds : List D} {G : Hp → Prop} {Dl : Addr} {H1 : Hp} {m1 : Tau} {acc0 : List T} {P : List T → Tau → Prop} {Qd : Hp → Prop}
    (sr : Src J lk B ds G) (sg : SG gt (fun i => i ∉ own) g) (ht : ∀ s H Q, LT lk wt s H Q → tt s H Q) (he : ∀ s H Q, LE lk we s H Q → te s H Q) (hG : G F0) (st : St lk B F0 H1 s m1 (.ref Dl :: vs) (.ol acc0 :: ts)) (hw : wLcL g wt we own ds acc0 (wipeT m1 own) P)
    (hd : ∀ acc m2 F H, P acc (wipeT m2 own) → Gr B F0 F → St lk B F H (L2.wipe s own) (wipeT m2 own) (.ref Dl :: vs) (.ol acc :: ts) → Qd H) :
    ∃ W : Nat → Nat → Hp → Prop, (∃ m, W 0 m H1) ∧ ∀ i m H, W i m H →
      (J.stop i H ∧ Qd H) ∨ (J.go i H ∧ ∃ Nx : Hp → Prop, (∀ H', Nx H' → ∃ m', m' < m ∧ W (i + 1) m' H') ∧ ∀ x H', J.yld i H x H' → gt x (L2.wipe s own) H' fun σ2 H2 => L2.wipe σ2 own = L2.wipe s own ∧ tt σ2 H2 fun b H3 =>
        if b = true then te σ2 H3 fun y H4 => ∃ acc, H4 Dl = some (.lst acc) ∧ acc.length < sizeLine ∧ Nx (upd H4 Dl (.lst (acc ++ [y]))) else Nx H3) := by
  refine ⟨fun i m H => m = ds.length - i ∧ i ≤ ds.length ∧ ∃ F mm acc, Gr B F0 F ∧ St lk B F H (L2.wipe s own) (wipeT mm own) (.ref Dl :: vs) (.ol acc :: ts) ∧ wLcL g wt we own (ds.drop i) acc (wipeT mm own) P,
    ⟨ds.length, by simp, Nat.zero_le _, F0, m1, acc0, Gr.refl B F0, st.wipe own, hw⟩, ?_⟩
  rintro i m H ⟨rfl, hi, F, mm, acc, gr, st1, hw1⟩
  have hGF := sr.mono _ _ hG gr.same
  by_cases hlt : i < ds.length
  · refine .inr ⟨sr.go _ _ _ _ _ _ i hGF st1 hlt, fun H' => ∃ F mm acc, Gr B F0 F ∧ St lk B F H' (L2.wipe s own) (wipeT mm own) (.ref Dl :: vs) (.ol acc :: ts) ∧ wLcL g wt we own (ds.drop (i + 1)) acc (wipeT mm own) P,
      fun H' p => ⟨ds.length - (i + 1), by omega, rfl, hlt, p⟩, fun x H' y => ?_⟩
    have ed : ds[i]? = some ds[i] := List.getElem?_eq_getElem hlt
    obtain ⟨F2, g2, st2, kx⟩ := sr.yld _ _ _ _ _ _ i ds[i] x H' hGF st1 ed y
    rw [List.drop_eq_getElem_cons hlt] at hw1
    unfold wLcL at hw1
    refine sg lk B F2 H' _ _ _ _ ds[i] x _ _ st2 kx hw1 fun m3 hm3 s3 F3 H3 g3 hl3 kp3 st3 => ?_
    have ew : L2.wipe s3 own = L2.wipe s own := by
      rw [wipe_eq (own := own) hl3 kp3]
      exact wipe_wipe fun i h => h
    refine ⟨ew, ht _ _ _ ⟨B, F3, m3, _, _, _, st3, hm3, fun b m4 hm4 F4 H4 g4 st4 => ?_⟩⟩
    cases b with
    | true =>
      rw [if_pos rfl]
      refine he _ _ _ ⟨B, F4, m4, _, _, _, st4, hm4, fun t m5 hm5 v F5 H5 g5 st5 => ?_⟩
      obtain ⟨ws, e1, e2, st6⟩ := st5.snoc
      refine ⟨ws, e1, by rw [e2]; exact hm5.1, F5, m5, _, (((gr.trans g2).trans g3).trans g4).trans g5, ?_, hm5.2⟩
      have := st6.wipe own
      rw [ew] at this
      exact this
    | false =>
      rw [if_neg Bool.false_ne_true]
      refine ⟨F4, m4, acc, ((gr.trans g2).trans g3).trans g4, ?_, hm4⟩
      have := st4.wipe own
      rw [ew] at this
      exact this
  · have hi' : i = ds.length := by omega
    subst hi'
    refine .inl ⟨sr.stop _ _ _ _ _ _ _ hGF st1 (Nat.le_refl _), ?_⟩
    rw [List.drop_length] at hw1
    unfold wLcL at hw1
    exact hd acc mm F H hw1 gr st1
def wLcL2 (g : WG) (wt : WT) (wi1 : WI) (g1 : WG) (wt1 : WT) (we : WE) (own own1 : List Nat) : List D → List T → Tau → (List T → Tau → Prop) → Prop
  | [], acc, m, Q => Q acc m
  | d :: ds, acc, m, Q => g d m fun m1 => wt m1 fun b m2 => match b with
    | true => wi1 m2 fun ds1 m3 => wLcL g1 wt1 we own1 ds1 acc (wipeT m3 own1) fun acc' m4 => wLcL2 g wt wi1 g1 wt1 we own own1 ds acc' (wipeT m4 own) Q
    | false => wLcL2 g wt wi1 g1 wt1 we own own1 ds acc (wipeT m2 own) Q
def wLc2 (wi : WI) (g : WG) (wt : WT) (wi1 : WI) (g1 : WG) (wt1 : WT) (we : WE) (own own1 : List Nat) : WE := fun m Q => wi m fun ds m1 => wLcL2 g wt wi1 g1 wt1 we own own1 ds [] (wipeT m1 own) fun acc m2 => Q (.ol acc) (backT m1 m2 own)
theorem l_lc2 {lk : Lk} {gt gt1 : TG} {g g1 : WG} {wt wt1 : WT} {we : WE} {wi wi1 : WI} {own own1 : List Nat} (sg : SG gt (fun i => i ∉ own) g) (sg1 : SG gt1 (fun i => i ∉ own1) g1) (hsub : ∀ i ∈ own1, i ∈ own) {s : L2.St} {H : Hp} {Q : VK}
    (q : LE lk (wLc2 wi g wt wi1 g1 wt1 we own own1) s H Q) : tLc2 (LI lk wi) gt (LT lk wt) (LI lk wi1) gt1 (LT lk wt1) (LE lk we) own own1 s H Q := by
  obtain ⟨B, F, m, vs, ts, P, st, hw, k⟩ := q
  refine ⟨B, F, m, vs, ts, _, st, hw, fun ds m1 hx J G F1 H1 g1' st1 sr hG => ?_⟩
  intro Dl hD
  have st2 : St lk B F1 (upd H1 Dl (.lst [])) s m1 (.ref Dl :: vs) (.ol [] :: ts) := st1.own0 hD fun H' e' => by
    simp only [Rp]
    exact ⟨Dl, [], fun _ => False, rfl, e', by simp only [RpL]; exact ⟨trivial, trivial⟩, id, rfl⟩
  refine ⟨fun i n H => n = ds.length - i ∧ i ≤ ds.length ∧ ∃ F mm acc, Gr B F1 F ∧ St lk B F H (L2.wipe s own) (wipeT mm own) (.ref Dl :: vs) (.ol acc :: ts) ∧ wLcL2 g wt wi1 g1 wt1 we own own1 (ds.drop i) acc (wipeT mm own) (fun acc m2 => P (.ol acc) (backT m1 m2 own)),
    ⟨ds.length, by simp, Nat.zero_le _, F1, m1, [], Gr.refl B F1, st2.wipe own, hx⟩, ?_⟩
  rintro i n H2 ⟨rfl, hi, F2, mm, acc, gr, st3, hw1⟩
  have hGF := sr.mono _ _ hG gr.same
  by_cases hlt : i < ds.length
  · refine .inr ⟨sr.go _ _ _ _ _ _ i hGF st3 hlt, fun H' => ∃ F mm acc, Gr B F1 F ∧ St lk B F H' (L2.wipe s own) (wipeT mm own) (.ref Dl :: vs) (.ol acc :: ts) ∧ wLcL2 g wt wi1 g1 wt1 we own own1 (ds.drop (i + 1)) acc (wipeT mm own) (fun acc m2 => P (.ol acc) (backT m1 m2 own)),
      fun H' p => ⟨ds.length - (i + 1), by omega, rfl, hlt, p⟩, fun x H' y => ?_⟩
    have ed : ds[i]? = some ds[i] := List.getElem?_eq_getElem hlt
    obtain ⟨F3, g3, st4, kx⟩ := sr.yld _ _ _ _ _ _ i ds[i] x H' hGF st3 ed y
    rw [List.drop_eq_getElem_cons hlt] at hw1
    unfold wLcL2 at hw1
    refine sg lk B F3 H' _ _ _ _ ds[i] x _ _ st4 kx hw1 fun m3 hm3 s3 F4 H4 g4 hl3 kp3 st5 => ?_
    have ew : L2.wipe s3 own = L2.wipe s own := by
      rw [wipe_eq (own := own) hl3 kp3]
      exact wipe_wipe fun i h => h
    refine ⟨ew, B, F4, m3, _, _, _, st5, hm3, fun b m4 hm4 F5 H5 g5 st6 => ?_⟩
    cases b with
    | true =>
      rw [if_pos rfl]
      refine ⟨B, F5, m4, _, _, _, st6, hm4, fun ds1 m5 hm5 J1 G1 F6 H6 g6 st7 sr1 hG1 => ?_⟩
      refine lc_from sr1 sg1 (fun _ _ _ q => q) (fun _ _ _ q => q) hG1 st7 hm5 fun acc' m6 F7 H7 hP gr7 st8 => ?_
      refine ⟨F7, wipeT m6 own1, acc', ((((gr.trans g3).trans g4).trans g5).trans g6).trans gr7, ?_, hP⟩
      have := st8.wipe own
      rw [wipe_wipe hsub, ew] at this
      exact this
    | false =>
      rw [if_neg Bool.false_ne_true]
      refine ⟨F5, m4, acc, ((gr.trans g3).trans g4).trans g5, ?_, hm4⟩
      have := st6.wipe own
      rw [ew] at this
      exact this
  · have hi' : i = ds.length := by omega
    subst hi'
    refine .inl ⟨sr.stop _ _ _ _ _ _ _ hGF st3 (Nat.le_refl _), ?_⟩
    rw [List.drop_length] at hw1
    unfold wLcL2 at hw1
    refine k _ _ hw1 (.ref Dl) F2 H2 (g1'.trans gr) ?_
    have st4 : St lk B F2 H2 s (wipeT mm own) (.ref Dl :: vs) (.ol acc :: ts) := st3.swap (by rw [L2.wipe_length]) fun i t e => by
      by_cases hi : i ∈ own
      · exact (wipeT_own hi t e).elim
      · exact (wipe_get hi).symm
    refine St.back (fun i d e => ?_) st4 own
    obtain ⟨v, e1, e2⟩ := st1.var e
    exact ⟨v, e1, e2.mono gr.same⟩
section
variable {X : Cx} {elt tg iter tg1 iter1 : Expr} {ifs ifs1 : List Expr} {scope : Scope} {own : List (Str × Nat)} {own1 : List Nat} {pos : Pos} {wi wi1 : WI} {g g1 : WG} {wt wt1 : WT} {we : WE} {gt gt1 : TG} {lk : Lk}
theorem v_lc2 (hc : X.calm = true) (hN : X.N.Nodup) (hi : PI X tg iter (LI lk wi)) (ok : BlkOk X.N X.env.scope scope own) (hv : ∀ i ∈ own1, i ∈ own.map (·.2)) (sg : SG gt (fun i => i ∉ own.map (·.2)) g) (sg1 : SG gt1 (fun i => i ∉ own1) g1)
    (hg : ∀ (s : Shared) (H : Hp) (C : Addr) (cl : List (Str × Addr)) (fp : List Addr), PG (X.blk s H scope (compEnvC scope cl C X.env) fp) tg gt) (ht : ∀ (s : Shared) (H : Hp) (C : Addr) (cl : List (Str × Addr)) (fp : List Addr), PTs (X.blk s H scope (compEnvC scope cl C X.env) fp) ifs (LT lk wt))
    (hi1 : ∀ (s : Shared) (H : Hp) (C : Addr) (cl : List (Str × Addr)) (fp : List Addr), PI (X.blk s H scope (compEnvC scope cl C X.env) fp) tg1 iter1 (LI lk wi1))
    (hg1 : ∀ (s : Shared) (H : Hp) (C : Addr) (cl : List (Str × Addr)) (fp : List Addr), PG (X.blk s H scope (compEnvC scope cl C X.env) fp) tg1 gt1) (ht1 : ∀ (s : Shared) (H : Hp) (C : Addr) (cl : List (Str × Addr)) (fp : List Addr), PTs (X.blk s H scope (compEnvC scope cl C X.env) fp) ifs1 (LT lk wt1))
    (he : ∀ (s : Shared) (H : Hp) (C : Addr) (cl : List (Str × Addr)) (fp : List Addr), PE (X.blk s H scope (compEnvC scope cl C X.env) fp) elt (LE lk we)) (hs : ∀ x, foldedSetIterable iter X.env x = pure x := by intro _; rfl) (hs1 : ∀ env x, foldedSetIterable iter1 env x = pure x := by intro _ _; rfl) :
    PE X (.ListComp elt [⟨tg, iter, ifs, 0⟩, ⟨tg1, iter1, ifs1, 0⟩] scope pos) (LE lk (wLc2 wi g wt wi1 g1 wt1 we (own.map (·.2)) own1)) := pe_mono (pe_lc2 hc hN hi ok hv hg ht hi1 hg1 ht1 he hs hs1) fun s H Q q => l_lc2 sg sg1 hv q
end
end VL
set_option Elab.async false
set_option linter.all false
set_option maxRecDepth 100000
set_option maxHeartbeats 4000000
/-! VL22: starred items, {k: v} by nested keys, three names at once, isinstance. -/
namespace VL
open PySem PySem.Spec PyProof.Rows L2
/-! ### [*xs, y] -/
theorem St.pushL {lk : Lk} {B F H : Hp} {s : L2.St} {m : Tau} {vs : List V} {ts : List T} : ∀ {l : List D} {us : List V}, St lk B F H s m vs ts → FzL F l us → St lk B F H s m (us ++ vs) (l.map T.fz ++ ts)
  | [], us, st, h => by
    simp only [FzL] at h
    subst h
    exact st
  | d :: l, us, st, h => by
    simp only [FzL] at h
    obtain ⟨v, vr, rfl, h1, h2⟩ := h
    exact (st.pushL h2).push h1
def wStar (we : WE) (wr : WA) : WA := fun m Q => we m fun t m1 => match t with
  | .fz (.lst l) => wr m1 fun ts m2 => Q (l.map T.fz ++ ts) m2
  | .fz (.tup l) => wr m1 fun ts m2 => Q (l.map T.fz ++ ts) m2
  | _ => False
section
variable {X : Cx} {e : Expr} {es : List Expr} {we : WE} {wr : WA} {p pos : Pos} {lk : Lk}
theorem va_star (he : PE X e (LE lk we)) (hr : PA X es (LA lk wr)) (hs : starEach (.Starred e p :: es) X.env = (true, eval e X.env) :: starEach es X.env := by rfl) : PA X (.Starred e p :: es) (LA lk (wStar we wr)) := pa_mono (StX.pa_star he hr hs) fun s H Q q => by
  obtain ⟨B, F, m, vs, ts, P, st, hw, k⟩ := q
  refine ⟨B, F, m, vs, ts, _, st, hw, fun t m1 ht v F1 H1 g1 st1 => ?_⟩
  have aux : ∀ (l : List D) (us : List V) (st2 : St lk B F1 H1 s m1 vs ts) (hz : FzL F1 l us), (wr m1 fun ts' m2 => P (l.map T.fz ++ ts') m2) → LA lk wr s H1 fun ys H2 => Q (us ++ ys) H2 := fun l us st2 hz hw2 => by
    refine ⟨B, F1, m1, vs, ts, _, st2, hw2, fun xs m2 hx ys F2 H2 g2 hl st3 => ?_⟩
    refine k _ m2 hx (us ++ ys) F2 H2 (g1.trans g2) (by simp [hl, hz.length]) ?_
    have := st3.pushL (hz.mono g2.same)
    simpa only [List.append_assoc] using this
  split at ht
  · obtain ⟨hd, st2⟩ := st1.tfz
    obtain ⟨a, us, rfl, e1, e2, e3⟩ := st2.lst hd
    exact ⟨a, us, rfl, .inr (SqL.of e2), aux _ us st2 e3 ht⟩
  · obtain ⟨hd, st2⟩ := st1.tfz
    obtain ⟨a, us, rfl, e1, e2, e3⟩ := st2.tup hd
    exact ⟨a, us, rfl, .inl (SqT.of e2), aux _ us st2 e3 ht⟩
  · exact ht.elim
end
/-! ### {k: v} by a nested key -/
def tDisp1N (P : Program) (w : World) (tk tv : TE) : TE := fun σ H Q => ∀ p, H p = none → tk σ (upd H p (DN P w p [])) fun x H1 => tv σ H1 fun y H2 => ∃ k b, x = .ref b ∧ H2 p = some (DN P w p []) ∧ NK H2 k (.ref b) ∧ k.depth ≤ 8 ∧ Q (.ref p) (upd H2 p (DN P w p [(k, b, y)]))
section
variable {X : Cx} {a b : Expr} {ta tb : TE} {pos : Pos}
theorem pe_disp1N (hu : X.A.units + 64 < cLine) (ha : PE X a ta) (hb : PE X b tb) : PE X (.Dict [some a] [b] pos) (tDisp1N X.prog X.w ta tb) := by
  refine ⟨fun pins s σ H Q I q => ?_⟩
  have hn := I.hok.fresh (Nat.le_refl s.heap.objs.size)
  have ok0 : ObjOk X.prog X.w H (s.heap.push { cls := .type "dict", data := .dict #[] }) s.heap.objs.size (DN X.prog X.w s.heap.objs.size []) :=
    ⟨⟨beq_eq_false_iff_ne.mpr (Ne.symm (Nat.ne_of_lt I.big)), Nat.zero_le _, List.nodup_nil, [], .nil, _, #[], 0, Heap.get?_push_size _ rfl, ⟨rfl, rfl, rfl⟩, rfl, rfl⟩, ⟨_, Heap.get?_push_size _ rfl⟩, fun h1 h2 x k => dnx_stays x k⟩
  have I1 := I.laid (a := s.heap.objs.size) (o := DN X.prog X.w s.heap.objs.size []) (h' := s.heap.push { cls := .type "dict", data := .dict #[] }) (t' := s.toks) (fun _ _ q => Heap.get?_push_of_some _ q) (Nat.le_refl _) ok0
  have hroom : (nestedKind X.prog X.w).room X.A := by
    show X.A.units + 8 < cLine
    omega
  rw [arm_eval_Dict, zip_pairTrees [some a] [b] X.env pos rfl rfl, dictDisplay_pairs _ (by simp [pairTrees]) (by simp [pairTrees])]
  refine wpAny_bind (wpAny_standAt (wpAny_bind (wpAny_subDictH (knd := nestedKind X.prog X.w) (Q := fun d s' => wpAny (model X.prog X.w) X.A (pure (Value.ref d)) (EP X pins σ Q) X.xe s') hroom (by simp [pairTrees])
    (pairTrees_cons_walk (thn (ha.run pins _ σ _ _ I1 (q _ hn)) fun u s1 ⟨x, H1, I2, rx, q1⟩ => thn (hb.run pins s1 σ H1 _ I2 q1) fun w2 s2 ⟨y, H2, I3, ry, q2⟩ => pairTrees_nil_walk ?_)))))
  obtain ⟨k, bk, rfl, e2, nk, dp, q3⟩ := q2
  obtain rfl : u = Value.ref bk := rx
  obtain ⟨hd, z, xs, rel, dd⟩ := dn_of I3.hok e2 (fun p hp => absurd hp List.not_mem_nil)
  have e0 : xs = [] := by
    cases rel
    rfl
  subst e0
  refine ⟨[(k, bk, w2)], ⟨rfl, rfl, ⟨nk_is I3.hok nk rfl, dp⟩, trivial⟩, dd, fun h' tk dd' hs => wpAny_pure ⟨.ref s.heap.objs.size, _, ?_, rfl, q3⟩⟩
  obtain ⟨o, es, ep, hq, h2, h3, h4, _, h5⟩ := dd'
  have rel' : KNx [(k, bk, y)] (storedAllH [] [(k, bk, w2)]) := (KNx.put (kvs := []) (xs := []) .nil k bk ry)
  exact d_write I3 (by rw [e2]; exact True.intro) hs ⟨o, hq⟩ ⟨⟨hd, by rw [sizeLine_eq]; simp, by simp, _, rel', o, es, ep, hq, h2, h3, h4⟩, ⟨o, hq⟩, fun h1 h2 x k => dnx_stays x k⟩
end
def wDisp1N (P : Program) (w : World) (wk wv : WE) : WE := fun m Q => wk m fun x m1 => wv m1 fun y m2 => match keyN x.er with
  | some k => Q (.on P w [(k, y.er)]) m2
  | none => False
end VL
set_option Elab.async false
set_option linter.all false
set_option maxRecDepth 100000
set_option maxHeartbeats 4000000
/-! VL23: {k: v} by a nested key read over trees; three names at once; isinstance. -/
namespace VL
open PySem PySem.Spec PyProof.Rows L2
section
variable {X : Cx} {a b : Expr} {wk wv : WE} {pos : Pos} {lk : Lk}
theorem v_disp1N (hu : X.A.units + 64 < cLine) (hk : PE X a (LE lk wk)) (hv : PE X b (LE lk wv)) : PE X (.Dict [some a] [b] pos) (LE lk (wDisp1N X.prog X.w wk wv)) := pe_mono (pe_disp1N hu hk hv) fun s H Q q => by
  obtain ⟨B, F, m, vs, ts, P, st, hw, k⟩ := q
  intro p hp
  have st0 : St lk B F (upd H p (DN X.prog X.w p [])) s m (.ref p :: vs) (.on X.prog X.w [] :: ts) := st.own0 hp fun H' e => by
    simp only [Rp]
    exact ⟨p, [], rfl, e, .nil, by funext b; simp⟩
  refine ⟨B, F, m, _, _, _, st0, hw, fun x m1 hx xv F1 H1 g1 st1 => ⟨B, F1, m1, _, _, _, st1, hx, fun y m2 hy yv F2 H2 g2 st2 => ?_⟩⟩
  split at hy
  · rename_i kk ek
    obtain ⟨F3, g3, st3⟩ := st2.freeze
    obtain ⟨hyv, st4⟩ := st3.tfz
    obtain ⟨F4, g4, st5⟩ := st4.freeze
    obtain ⟨hd, st6⟩ := st5.tfz
    obtain ⟨b', rfl, nk, dp⟩ := keyN_ok hd ek
    have hyv4 := hyv.mono g4.same
    obtain ⟨f, g, h1, h2, h3, h4⟩ := st6.ex
    rw [RpL] at h2
    obtain ⟨_, _, f1, f2, q, k1, k2, k3, rfl⟩ := h2
    cases q
    simp only [Rp] at k1
    obtain ⟨a', kvs, q, e2, e3, rfl⟩ := k1
    cases q
    cases e3
    have own := h4 p (.inr (.inl rfl))
    have nf : ¬ f p := fun z => h3 p z (.inl rfl)
    have nf2 : ¬ f2 p := fun z => k3 p rfl z
    refine ⟨kk, b', rfl, e2, nk.mono fun a vs z => st6.frt z, dp, k _ m2 hy (.ref p) F4 _ (((g1.trans g2).trans g3).trans g4) ⟨⟨f, fun b => b = p ∨ f2 b, h1.frame (Same.refl F4) (keepF nf), ?_, fun b z q => h3 b z q, fun b z => h4 b z⟩, fun b o z => ?_, ⟨fun b o z => ?_, st6.bk.own⟩⟩⟩
    · rw [RpL]
      refine ⟨.ref p, vs, _, f2, rfl, ?_, k2.frame (Same.refl F4) (keepF nf2), k3, rfl⟩
      simp only [Rp]
      exact ⟨p, _, rfl, upd_same, .cons ⟨rfl, ⟨nk, dp⟩, hyv4⟩ .nil, rfl⟩
    · have ne : b ≠ p := fun e => by
        rw [e, own.1] at z
        cases z
      rw [upd_ne ne]
      exact st6.fr b o z
    · have ne : b ≠ p := fun e => by
        rw [e, own.2] at z
        cases z
      rw [upd_ne ne]
      exact st6.bk.sub b o z
  · exact hy.elim
end
section
variable {X : Cx} {lk : Lk} {kp : Nat → Prop} {W : WX} {pos : Pos}
theorem u_par3 (i j l : Nat) {x y z : Str} {a b c : Expr} {wa : WA} {px py pz pt : Pos} {kt k2 pt2} (hc : X.calm = true) (hN : X.N.Nodup) (ki : ¬ kp i) (kj : ¬ kp j) (kl : ¬ kp l) (ha : PA X [a, b, c] (LA lk wa)) (hi : X.N[i]? = some x := by rfl) (hj : X.N[j]? = some y := by rfl) (hl : X.N[l]? = some z := by rfl)
    (hij : i ≠ j := by decide) (hil : i ≠ l := by decide) (hjl : j ≠ l := by decide) (hx : X.env.scope.names.lookup x = some .local := by rfl) (hy : X.env.scope.names.lookup y = some .local := by rfl) (hz : X.env.scope.names.lookup z = some .local := by rfl)
    (hw : swappedStores [.Tuple [.Name x px, .Name y py, .Name z pz] kt pt] (.Tuple [a, b, c] k2 pt2) X.env = pure (some [x, y, z]) := by rfl)
    (hs : swapsWithSole [.Tuple [.Name x px, .Name y py, .Name z pz] kt pt] (.Tuple [a, b, c] k2 pt2) pos.line X.env = pure false := by rfl) :
    PS X (.Assign [.Tuple [.Name x px, .Name y py, .Name z pz] kt pt] (.Tuple [a, b, c] k2 pt2) pos) (LS lk kp W (wPar3 i j l wa)) :=
  s_par3 i j l hc hN ki kj kl ha (ps_par3 hc hN hi hj hl hij hil hjl hx hy hz ha hw hs)
end
/-! ### isinstance(x, C), x an instance of C -/
def oIsI (C : Addr) : O1 := fun x P => match x with
  | .fz (.ins C' _ _) => C' = C ∧ P (.fz (.bl true))
  | _ => False
section
variable {X : Cx} {lk : Lk} {C : Addr} {cn : Str} {e : Expr} {we : WE} {p p2 pos : Pos}
theorem u_isi (c : C8.InsC X.K C) (hm : X.mg "isinstance" = none) (hC : X.mg cn = some (.ref C)) (he : PE X e (LE lk we)) (hg : Gl X "isinstance" := by rfl) (hg2 : Gl X cn := by rfl) (hd2 : (cn == ("__debug__" : Str)) = false := by decide)
    (hst : starEach [e, .Name cn p2] X.env = (false, eval e X.env) :: starEach [.Name cn p2] X.env := by rfl) (hst2 : starEach [.Name cn p2] X.env = (false, eval (.Name cn p2) X.env) :: starEach [] X.env := by rfl) (hpl : (backTo pos (starEach [.Name cn p2] X.env)).any (·.1) = false := by rfl) :
    PE X (.Call (.Name "isinstance" p) [e, .Name cn p2] [] pos) (LE lk (w1 (oIsI C) we)) := pe_mono (pe_callB (C8.call_isC c) hg hm (by decide +kernel) (pa_cons he (pa_cons (pe_glob (v := .ref C) hg2 hC rfl hd2) pa_nil hst2) hst) (by decide) (by decide) hst hpl) fun s H Q q => by
  refine l1 (r := fun x H1 Q => ∃ a dx fs, [x, V.ref C] = [V.ref a, V.ref C] ∧ H1 a = some (.ins C dx fs) ∧ Q (.bl true) H1) ?_ q
  intro lk B F H s m vs ts u x P Q st ho k
  unfold oIsI at ho
  split at ho
  · obtain ⟨rfl, ho⟩ := ho
    obtain ⟨hd, st2⟩ := st.tfz
    obtain ⟨a, dx, ws, rfl, e1, e2, e3, e4⟩ := st2.ins hd
    exact ⟨a, dx, _, rfl, e2, k _ ho _ F H (Gr.refl B F) (st2.push fzb)⟩
  · exact ho.elim
end
end VL
set_option Elab.async false
set_option linter.all false
set_option maxRecDepth 100000
set_option maxHeartbeats 4000000
/-! VL24: sorted(set(list of texts, or of ints)). -/
namespace VL
open PySem PySem.Spec PyProof.Rows L2
/-- how the keys of a kind are told of values -/
structure Kf {P : Program} {w : World} {K : Type} [DecidableEq K] (knd : KeyKind P w K) (kf : Value → K) (ok : Value → Prop) : Prop where
  is : ∀ v, ok v → ∀ k, knd.is k v = true ↔ kf v = k
  scan : ∀ v, ok v → v.scannable = true
section
variable {P : Program} {w : World} {K : Type} [DecidableEq K] {knd : KeyKind P w K} {kf : Value → K} {ok : Value → Prop}
def GE (knd : KeyKind P w K) (kf : Value → K) (ok : Value → Prop) (e : Int × Value) : Prop := ok e.2 ∧ e.1 = knd.hash (kf e.2)
/-- the set at a has the keys L -/
def SetL (knd : KeyKind P w K) (kf : Value → K) (ok : Value → Prop) (h : Heap) (a : Addr) (L : List K) : Prop :=
  ∃ o es ep t, h.get? a = some o ∧ o.ExactSet ∧ o.data = .set es ep t ∧ (∀ e ∈ es.toList, GE knd kf ok e) ∧ (es.toList.map fun e => kf e.2).Perm L ∧ L.Nodup ∧
    es.size < scanBound ∧ t.fits es.size = true ∧ Ris t.place.toList ∧ (w.params.followText "set-order" = true ∨ t.led = true)
theorem SetL.at {h h' : Heap} {a : Addr} {L : List K} (R : SetL knd kf ok h a L) (k : ∀ o, h.get? a = some o → h'.get? a = some o) : SetL knd kf ok h' a L := by
  obtain ⟨o, es, ep, t, ho, r⟩ := R
  exact ⟨o, es, ep, t, k o ho, r⟩
theorem ge_elems (F : Kf knd kf ok) {l : List (Int × Value)} (g : ∀ e ∈ l, GE knd kf ok e) : ElemsOf knd l := fun e he => by
  obtain ⟨h1, h2⟩ := g e he
  exact ⟨⟨kf e.2, (F.is _ h1 _).mpr rfl, h2⟩, F.scan _ h1⟩
section
variable {A : Around} {E : Value → Shared → Prop} {s : Shared} {a : Addr} {L : List K}
theorem setL_tail {g : Bool → Sem Unit} (hg : ∀ (b : Bool) (s₁ : Shared) (Q' : Unit → Shared → Prop), Q' () s₁ → wpAny (model P w) A (g b) Q' E s₁) {o : Obj} {es : Array (Int × Value)} {ep : Nat} {t : SetTable}
    (ho : s.heap.get? a = some o) (hex : o.ExactSet) (hd : o.data = .set es ep t) {es1 : Array (Int × Value)} {t2 : SetTable} {L' : List K} (g1 : ∀ e ∈ es1.toList, GE knd kf ok e) (p1 : (es1.toList.map fun e => kf e.2).Perm L') (nd1 : L'.Nodup)
    (hb1 : es1.size < scanBound) (hf2 : t2.fits es1.size = true) (hr : Ris t2.place.toList) (hl : w.params.followText "set-order" = true ∨ t2.led = true) {wasDummy : Bool} {R : Option Bool → Shared → Prop}
    (hR : ∀ h', Heap.SameBut a s.heap h' → SetL knd kf ok h' a L' → R (some true) { s with heap := h' }) :
    wpAny (model P w) A (do
        storeSet a es1 t2
        if (!wasDummy && t2.tooFull) = true then do
            g (relayAll t2 es1 (SetTable.grown es1.size)).2.2
            storeSet a (relayAll t2 es1 (SetTable.grown es1.size)).1 (relayAll t2 es1 (SetTable.grown es1.size)).2.1
            pure (some true)
          else pure (some true)) R E s := by
  have first := store_at (es' := es1) (t' := t2) ho hd
  have sb1 := Heap.SameBut.update s.heap a (Obj.putSet es1 t2)
  refine wpAny_bind (wpAny_storeSet_of ho hd ?_ (fits_of_scanBound hb1))
  split
  · have q1 := relayAll_perm t2 es1 (SetTable.grown es1.size)
    have q2 := relayAll_fits t2 es1 (SetTable.grown es1.size)
    have q3 := relayAll_ris t2 es1 (SetTable.grown es1.size)
    have q4 := relayAll_led t2 es1 (SetTable.grown es1.size)
    generalize relayAll t2 es1 (SetTable.grown es1.size) = Z at q1 q2 q3 q4 ⊢
    obtain ⟨es2, t3, gave⟩ := Z
    dsimp only at q1 q2 q3 q4 ⊢
    have hsz : es2.size = es1.size := by rw [← Array.length_toList, q1.length_eq, Array.length_toList]
    have hb2 : es2.size < scanBound := hsz ▸ hb1
    refine wpAny_bind (hg _ _ _ ?_)
    refine wpAny_bind (wpAny_storeSet_of first rfl ?_ (fits_of_scanBound hb2))
    have second := store_at (es' := es2) (t' := t3) first rfl
    exact wpAny_pure (hR _ (sb1.trans (Heap.SameBut.update _ a _)) ⟨_, es2, _, t3, second, hex, rfl, fun e he => g1 e (q1.mem_iff.mp he), (q1.map fun e => kf e.2).trans p1, nd1, hb2, q2, q3, hl.imp id fun z => by rw [q4]; exact z⟩)
  · exact wpAny_pure (hR _ sb1 ⟨_, es1, _, t2, first, hex, rfl, g1, p1, nd1, hb1, hf2, hr, hl⟩)
theorem setL_add (F : Kf knd kf ok) {v : Value} (hv : ok v) {Q : Bool → Shared → Prop} (R : SetL knd kf ok s.heap a L) (room : L.length + 1 < scanBound)
    (hQ : ∀ b h' L', Heap.SameBut a s.heap h' → SetL knd kf ok h' a L' → (∀ x, x ∈ L' ↔ x ∈ L ∨ x = kf v) → Q b { s with heap := h' }) :
    wpAny (model P w) A (setAddHashed a v (knd.hash (kf v))) Q E s := by
  obtain ⟨o, es, ep, t, ho, hex, hd, g, pl, nd, hb, hf, hr, hl⟩ := R
  have hkey : knd.is (kf v) v = true := (F.is v hv _).mpr rfl
  have hsc := F.scan v hv
  have hel := ge_elems F g
  have inL : ∀ {x : K}, x ∈ L ↔ ∃ e ∈ es.toList, knd.is x e.2 = true := fun {x} => by
    rw [← pl.mem_iff, List.mem_map]
    exact ⟨fun ⟨e, he, q⟩ => ⟨e, he, (F.is _ (g e he).1 _).mpr q⟩, fun ⟨e, he, q⟩ => ⟨e, he, (F.is _ (g e he).1 _).mp q⟩⟩
  have lsz : es.size = L.length := by rw [← pl.length_eq, List.length_map, Array.length_toList]
  unfold setAddHashed setAddHashedIn
  refine wpAny_holding (wpAny_bind (wpAny_setState_of ho hd hf ?_))
  dsimp only
  rw [byScan_of hsc hb hel]
  simp only [↓reduceIte]
  unfold setAddByScan
  refine wpAny_bind (wpAny_bind (wpAny_rule (wpAny_bind (wpAny_setScan_of hkey ho hd hf hel ?_))))
  cases hfi : List.findIdx? (fun e => knd.is (kf v) e.2) es.toList with
  | some j =>
    dsimp only
    obtain ⟨hj, pj, _⟩ := List.findIdx?_eq_some_iff_getElem.mp hfi
    have there : kf v ∈ L := inL.mpr ⟨es.toList[j], List.getElem_mem hj, pj⟩
    exact wpAny_pure (wpAny_pure (hQ _ s.heap L (Heap.SameBut.refl a s.heap) ⟨o, es, ep, t, ho, hex, hd, g, pl, nd, hb, hf, hr, hl⟩ fun x => ⟨.inl, fun z => z.elim id fun e => e ▸ there⟩))
  | none =>
    dsimp only
    have away : kf v ∉ L := fun z => by
      obtain ⟨e, he, q⟩ := inL.mp z
      have c := List.findIdx?_eq_none_iff.mp hfi e he
      rw [q] at c
      cases c
    have q1 := layNew_perm t es (knd.hash (kf v)) v
    have q2 := layNew_fits t es (knd.hash (kf v)) v
    have q3 := layNew_ris t es (knd.hash (kf v)) v hr
    have q4 := layNew_led t es (knd.hash (kf v)) v
    generalize layNew t es (knd.hash (kf v)) v = Z at q1 q2 q3 q4 ⊢
    obtain ⟨es1, t1, wasDummy, gave⟩ := Z
    dsimp only at q1 q2 q3 q4 ⊢
    rw [Array.toList_push] at q1
    have pc : es1.toList.Perm ((knd.hash (kf v), v) :: es.toList) := q1.trans (List.perm_append_singleton _ _)
    have pk : (es1.toList.map fun e => kf e.2).Perm (kf v :: L) := (pc.map fun e => kf e.2).trans (List.Perm.cons _ pl)
    have g1 : ∀ e ∈ es1.toList, GE knd kf ok e := fun e he => by
      rcases List.mem_cons.mp (pc.mem_iff.mp he) with z | z
      · rw [z]; exact ⟨hv, rfl⟩
      · exact g e z
    have sz1 : es1.size = L.length + 1 := by rw [← Array.length_toList, pc.length_eq, List.length_cons, Array.length_toList, lsz]
    have hb1 : es1.size < scanBound := sz1 ▸ room
    have led1 : w.params.followText "set-order" = true ∨ t1.led = true := hl.imp id fun z => by rw [q4]; exact z
    have fin : ∀ h', Heap.SameBut a s.heap h' → SetL knd kf ok h' a (kf v :: L) → ∀ b, Q b { s with heap := h' } := fun h' sb r b => hQ b h' _ sb r fun x => by
      rw [List.mem_cons]
      exact Or.comm
    have nd1 : (kf v :: L).Nodup := List.nodup_cons.mpr ⟨away, nd⟩
    have word : ∀ (b : Bool) {s₁ : Shared} {Q' : Unit → Shared → Prop}, Q' () s₁ → wpAny (model P w) A (match b with | true => rule "set.scan.the-table-gave-way" | false => pure ()) Q' E s₁ :=
      fun b s₁ Q' q => by cases b <;> first | exact wpAny_pure q | exact wpAny_rule q
    refine wpAny_bind (word _ ?_)
    split
    · refine wpAny_bind ?_
      rw [hashByValue_scannable 8 hsc]
      refine wpAny_pure ?_
      refine setL_tail ?_ ho hex hd g1 pk nd1 hb1 ?_ ?_ ?_ ?_
      · intro b s₁ Q' q; cases b <;> first | exact wpAny_pure q | exact wpAny_rule q
      · first | (split <;> first | exact q2 | exact SetTable.fits_plain_off q2) | exact q2
      · first | (split <;> exact q3) | exact q3
      · first | (split <;> exact led1) | exact led1
      · intro h' sb r; dsimp only; exact wpAny_pure (fin h' sb r _)
    · refine wpAny_bind (wpAny_pure ?_)
      simp only [↓reduceIte]
      refine setL_tail ?_ ho hex hd g1 pk nd1 hb1 q2 q3 led1 ?_
      · intro b s₁ Q' q; cases b <;> first | exact wpAny_pure q | exact wpAny_rule q
      · intro h' sb r; dsimp only; exact wpAny_pure (fin h' sb r _)
theorem setL_fresh {h : Heap} (ho : h.get? a = some { cls := .type "set", dict := none, data := .set #[] 0 (.fresh 0 0 (!w.params.followText "set-order")) }) : SetL knd kf ok h a [] := by
  refine ⟨_, _, _, _, ho, ⟨rfl, rfl, rfl⟩, rfl, fun e he => absurd he (by simp), by simp, List.nodup_nil, ?_, rfl, List.Pairwise.nil, ?_⟩
  · show 0 < scanBound
    unfold scanBound
    omega
  · show _ ∨ (!w.params.followText "set-order") = true
    cases w.params.followText "set-order"
    · exact .inr rfl
    · exact .inl rfl
end
end
end VL
set_option Elab.async false
set_option linter.all false
set_option maxRecDepth 100000
set_option maxHeartbeats 4000000
/-! VL25: set(list), sorted(set). -/
namespace VL
open PySem PySem.Spec PyProof.Rows L2
section
variable {P : Program} {w : World} {K : Type} [DecidableEq K] {knd : KeyKind P w K} {kf : Value → K} {ok : Value → Prop} {A : Around} {E : Value → Shared → Prop} {s : Shared}
abbrev setOb (w : World) : Obj := { cls := .type "set", dict := none, data := .set #[] 0 (.fresh 0 0 (!w.params.followText "set-order")) }
/-- what set.update's loop does -/
theorem setL_update (Fk : Kf knd kf ok) {I : Addr} {fp wr : List Addr} {G : Array GenState → Array GenState → Prop} {n : Nat} {Pv : Nat → Value → Prop} {St : Nat → Shared → Prop} {R : Result → Shared → Prop}
    (W : WalksS P w A.in1 I fp wr G n Pv St) (S : Addr) (hSf : S ∉ fp) (ks : List K) (hn : n = ks.length) (hsmall : ks.length < 1000) (hval : ∀ i v, Pv i v → ok v ∧ ks[i]? = some (kf v)) :
    ∀ (k i : Nat) (s : Shared), n - i = k → i ≤ n → St i s → (∃ L, SetL knd kf ok s.heap S L ∧ L.length ≤ i ∧ ∀ x, x ∈ L ↔ x ∈ ks.take i) →
      (∀ s' L, Moved (S :: wr) G s s' → SetL knd kf ok s'.heap S L → (∀ x, x ∈ L ↔ x ∈ ks) → R (.ok (.ret .none)) s') →
      codeAny (model P w) A (.builtin "set.update.loop" ⟨[.ref S, .ref I], []⟩) R s := by
  have away : S ∉ wr := fun h => hSf (W.sub _ h)
  have more : ∀ b ∈ wr, b ∈ S :: wr := fun b hb => List.mem_cons_of_mem _ hb
  have scan : (1000 : Nat) < scanBound := by
    unfold scanBound
    omega
  intro k
  induction k with
  | zero =>
    intro i s hk hi hst ⟨L, hS, hL, mL⟩ hR
    obtain rfl : i = n := by omega
    refine codeAny_builtin F.entry_set_update_loop ?_
    rw [Around.under_plainId F.plain_set_update_loop _]
    show wpAny _ A.in1 (pyNext (.ref I) >>= _) _ _ s
    refine wpAny_bind (W.done s _ _ hst fun s' hm => wpAny_pure (hR s' L (hm.mono more) (hS.at fun o e => hm.heap S o away e) fun x => ?_))
    rw [mL, hn, List.take_length]
  | succ k ih =>
    intro i s hk hi hst ⟨L, hS, hL, mL⟩ hR
    have hlt : i < n := by omega
    refine codeAny_builtin F.entry_set_update_loop ?_
    rw [Around.under_plainId F.plain_set_update_loop _]
    show wpAny _ A.in1 (pyNext (.ref I) >>= _) _ _ s
    refine wpAny_bind (W.item i s _ _ hlt hst fun v s' hP hst' hm => ?_)
    obtain ⟨hv, hk2⟩ := hval i v hP
    have hS' : SetL knd kf ok s'.heap S L := hS.at fun o e => hm.heap S o away e
    show wpAny _ A.in1 (holding [v] (setAdd S v) >>= _) _ _ s'
    refine wpAny_bind (wpAny_holding ?_)
    unfold setAdd
    refine wpAny_holding (wpAny_bind (knd.pyHash ((Fk.is v hv _).mpr rfl) ?_))
    refine setL_add (s := { s' with toks := s'.toks + 1 }) Fk hv hS' (by omega) fun b h' L' sb hS2 mL' => ?_
    have tk : ks.take (i + 1) = ks.take i ++ [kf v] := by
      rw [List.take_add_one, hk2]
      rfl
    have nd' : L'.length ≤ i + 1 := by
      obtain ⟨_, _, _, _, _, _, _, _, _, nd, _⟩ := hS2
      have := List.Nodup.length_le_of_subset nd (l₂ := ks.take (i + 1)) fun x hx => by
        rw [tk, List.mem_append, List.mem_singleton, ← mL]
        exact (mL' x).mp hx
      have h2 := List.length_take_le (i + 1) ks
      omega
    refine wpAny_pure ⟨plainId_quiet F.plain_set_update_loop _, ih (i + 1) _ (by omega) hlt (W.frame _ s' _ _ hst' (Nat.le_succ _) fun b hb o e => ?_) ⟨L', hS2, nd', fun x => ?_⟩ fun s'' L2 hm2 hS3 mL2 => ?_⟩
    · rw [sb.2 b (fun h : b = S => hSf (by rw [← h]; exact hb))]
      exact e
    · rw [tk, List.mem_append, List.mem_singleton, ← mL]
      exact mL' x
    · refine hR s'' L2 (Moved.trans W.gtrans ((hm.mono more).then_heap (Nat.le_succ _) fun b o hb e => ?_) hm2) hS3 mL2
      rw [sb.2 b (fun h : b = S => hb (by rw [h]; exact List.mem_cons_self))]
      exact e
set_option maxHeartbeats 8000000 in
/-- set(l) -/
theorem setL_list (Fk : Kf knd kf ok) {l : Addr} {items : Array Value} {Q : Value → Shared → Prop} (hh : A.handled = none) (hl : s.heap.IsList l items) (hok : ∀ v ∈ items.toList, ok v) (hsmall : items.size < 1000)
    (h : ∀ (h' : Heap) (tk : Nat) L, SetL knd kf ok h' s.heap.objs.size L → (∀ x, x ∈ L ↔ x ∈ items.toList.map kf) → (∀ b o, s.heap.get? b = some o → h'.get? b = some o) → Q (.ref s.heap.objs.size) { s with heap := h', toks := tk }) :
    wpAny (model P w) A (call (.type "set") [.ref l]) Q E s := by
  obtain ⟨c, tl, hmro⟩ := F.called_set.mro
  have hmade := F.called_set.made
  have hsub := F.called_set.sub
  refine wpAny_call (codeAny_of_tree ?_)
  show wpAny _ _ (callAny (.type "set") _) _ _ _
  refine wpAny_pure ⟨Code.quiet_builtin _ (by decide +kernel), codeAny_builtin F.entry_type_call ?_⟩
  rw [Around.under_plain (weight_type_call_type "set" [.ref l] []) rfl]
  have h1 := F.called_set.notType
  have h2 := F.called_set.canCreate
  have hct := F.typeCall_set_1 (.ref l)
  repeat (any_goals (first | assumption | wp_step))
  refine codeAny_mono (code_set_led1 (.ref l) (E := E) (Q₁ := fun obj s₁ => obj = .ref s.heap.objs.size ∧ s₁ = { s with heap := s.heap.push (setOb w) }) ⟨rfl, rfl⟩) fun r s₁ hr => ?_
  cases r with
  | error e => exact hr
  | ok fl =>
    cases fl with
    | ret obj =>
      obtain ⟨rfl, rfl⟩ := hr
      have hS : (s.heap.push (setOb w)).get? s.heap.objs.size = some (setOb w) := Heap.get?_push_size _ rfl
      have hT : Shared.TypeIs { s with heap := s.heap.push (setOb w) } (.ref s.heap.objs.size) "set" := ⟨_, hS, rfl⟩
      have hli := F.called_set.init.lookup
      have hbi := F.called_set.init.bind (.ref s.heap.objs.size)
      repeat (any_goals (first | assumption | wp_step))
      refine codeAny_mono (codeAny_call_builtin (R := wants (fun r s₂ => r = .none ∧ ∃ h' tk L, s₂ = { s with heap := h', toks := tk } ∧ SetL knd kf ok h' s.heap.objs.size L ∧ (∀ x, x ∈ L ↔ x ∈ items.toList.map kf) ∧
          (∀ b o, s.heap.get? b = some o → h'.get? b = some o)) E) F.called_set.init.plain F.entry_set_init (check_set_init_1 hT ?_)) fun r₂ s₂ hr₂ => ?_
      · obtain ⟨ol, hol, hcl, nl, hdl⟩ := hl
        obtain ⟨ocls, odict, odata, oslots⟩ := ol
        simp only at hcl hdl
        subst hcl
        subst hdl
        have hol' : (s.heap.push (setOb w)).get? l = some { cls := .type "list", dict := odict, data := .seq items nl, slots := oslots } := Heap.get?_push_of_some _ hol
        have hsls := F.sub_list_set
        have hslf := F.sub_list_frozenset
        have hne : (Value.type "list" == Value.type "dict") = false := by decide
        have hl1 : (s.heap.push (setOb w)).IsList l items := ⟨_, hol', rfl, nl, rfl⟩
        unfold Builtin.«set.__init__» noKeywords Builtin.Frozenset.updateFrom
        generalize hPI : pyIter = PI
        wp_walk
        subst hPI
        refine wpAny_pyIter_list hl1 ?_
        refine wpAny_bind (wpAny_runValue ?_)
        have lt : l < s.heap.objs.size := Heap.lt_size hol
        have calm3 : A.in1.in1.in1.handled = none := by simp [hh]
        have sz : (s.heap.push (setOb w)).objs.size = s.heap.objs.size + 1 := Heap.size_push ..
        have ne1 : l ≠ (s.heap.push (setOb w)).objs.size := by
          rw [sz]
          exact Nat.ne_of_lt (Nat.lt_succ_of_lt lt)
        have ne2 : s.heap.objs.size ∉ [(s.heap.push (setOb w)).objs.size, l] := by
          rw [sz]
          simp only [List.mem_cons, List.not_mem_nil, or_false, not_or]
          exact ⟨Nat.ne_of_lt (Nat.lt_succ_self _), Nat.ne_of_gt lt⟩
        have vals : ∀ (i : Nat) (v : Value), items[i]? = some v → ok v ∧ (items.toList.map kf)[i]? = some (kf v) := fun i v hv => by
          have q : items.toList[i]? = some v := by rw [Array.getElem?_toList]; exact hv
          exact ⟨hok v (List.mem_of_getElem? q), by rw [List.getElem?_map, q]; rfl⟩
        refine setL_update Fk ((Walks.list calm3 _ l ne1 items).toS) s.heap.objs.size ne2 (items.toList.map kf) (by simp) (by simpa using hsmall) vals (items.size - 0) 0 _ (by omega) (Nat.zero_le _)
          ⟨⟨_, Heap.get?_push_size _ rfl, rfl, rfl⟩, (hl1.push _)⟩ ⟨[], setL_fresh (Heap.get?_push_of_some _ hS), Nat.zero_le _, fun x => by simp⟩ fun s' L hm hS' mL => ?_
        obtain ⟨h', g2, d', tk', os'⟩ := s'
        have eg : g2 = s.gens := hm.gens
        have ed : d' = s.drawn := hm.drawn
        have eo : os' = s.os := hm.os
        subst eg
        subst ed
        subst eo
        refine wpAny_pure ?_
        show wpAny _ _ (ret Value.none) _ _ _
        refine wpAny_pure ⟨rfl, h', tk', L, rfl, hS', mL, fun b o e => ?_⟩
        have lb : b < s.heap.objs.size := Heap.lt_size e
        refine hm.heap b o (fun z => ?_) (Heap.get?_push_of_some _ (Heap.get?_push_of_some _ e))
        rw [sz] at z
        simp only [List.mem_cons, List.not_mem_nil, or_false] at z
        rcases z with z | z
        · exact absurd lb (by rw [z]; exact Nat.lt_irrefl _)
        · exact absurd lb (by rw [z]; exact Nat.not_lt_of_le (Nat.le_succ _))
      · cases r₂ with
        | error e => exact hr₂
        | ok fl₂ =>
          cases fl₂ with
          | ret r =>
            obtain ⟨rfl, h', tk, L, rfl, hS', mL, hk'⟩ := hr₂
            repeat (any_goals (first | assumption | wp_step))
            exact h _ _ _ hS' mL hk'
          | _ => exact hr₂.elim
    | _ => exact hr.elim
end
end VL
set_option Elab.async false
set_option linter.all false
set_option maxRecDepth 100000
set_option maxHeartbeats 4000000
/-! VL26: sorted(set(..)) by values and over trees. -/
namespace VL
open PySem PySem.Spec PyProof.Rows L2
/-! ### the two kinds -/
def sOf : Value → Str
  | .str z _ => z
  | _ => Str.empty
def isS (v : Value) : Prop := ∃ z t, v = .str z t
def iOf : Value → Int
  | .int i _ => i
  | _ => 0
def isI (v : Value) : Prop := ∃ i t, v = .int i t
theorem kf_str (P : Program) (w : World) : Kf (PySem.strKind P w) sOf isS := ⟨fun v ⟨z, t, e⟩ k => by
  subst e
  simp [PySem.strKind, Value.isStrOf, sOf], fun v ⟨z, t, e⟩ => by
  subst e
  rfl⟩
theorem kf_int (P : Program) (w : World) : Kf (PySem.intKind P w) iOf isI := ⟨fun v ⟨z, t, e⟩ k => by
  subst e
  simp [PySem.intKind, Value.isInt, iOf], fun v ⟨z, t, e⟩ => by
  subst e
  rfl⟩
theorem strs_as : ∀ {vs : List Value}, (∀ v ∈ vs, isS v) → PyProof.Rows.StrsAre vs (vs.map sOf)
  | [], _ => .nil
  | v :: vs, h => by
    obtain ⟨z, t, rfl⟩ := h v List.mem_cons_self
    exact .cons z t (strs_as fun u hu => h u (List.mem_cons_of_mem _ hu))
theorem ints_as : ∀ {vs : List Value}, (∀ v ∈ vs, isI v) → IntsAre vs (vs.map iOf)
  | [], _ => .nil
  | v :: vs, h => by
    obtain ⟨z, t, rfl⟩ := h v List.mem_cons_self
    exact .cons z t (ints_as fun u hu => h u (List.mem_cons_of_mem _ hu))
section
variable {P : Program} {w : World} {A : Around} {E : Value → Shared → Prop} {s : Shared} {a : Addr}
theorem sorted_setS {L : List Str} {Q : Value → Shared → Prop} (R : SetL (PySem.strKind P w) sOf isS s.heap a L) (hh : A.handled = none) (h64 : L.length < 64)
    (hQ : ∀ s' p (out : Array Value) (c : Nat) (ys : List Str), (∀ b o, s.heap.get? b = some o → s'.heap.get? b = some o) → s'.gens = s.gens → s'.os = s.os → s.heap.objs.size ≤ p →
      s'.heap.get? p = some (seqObj "list" out c) → PyProof.Rows.StrsAre out.toList ys → ys.Perm L → sortedS ys = true → Q (.ref p) s') :
    wpAny (model P w) A (call (.builtin "sorted") [.ref a]) Q E s := by
  obtain ⟨o, es, ep, t, ho, hex, hd, g, pl, nd, hb, hf, hr, hl⟩ := R
  refine Calls.call_function_entry kind_sorted plain_sorted entry_sorted (args_sorted1 _) ?_
  unfold Builtin.«sorted»
  refine wpAny_bind (m := checkCount "sorted" 1 1 _) (wpAny_pure ?_)
  refine wpAny_bind (collect_set (A := A.in1) hh ⟨o, ho, hex.1, hd⟩ hf hb hr hl fun s1 vs k1 hz g1 o1 pm => ?_)
  have oks : ∀ v ∈ vs, isS v := fun v hv => by
    obtain ⟨e, he, q⟩ := List.mem_map.mp (pm.mem_iff.mp hv)
    rw [← q]
    exact (g e he).1
  have pk : (vs.map sOf).Perm L := by
    have q := pm.map sOf
    rw [List.map_map] at q
    exact q.trans pl
  have len : vs.length = L.length := by
    rw [← pk.length_eq, List.length_map]
  refine wpAny_bind (wpAny_newList ?_ (by rw [len, sizeLine_eq]; omega))
  have at1 : (s1.heap.push (seqObj "list" vs.toArray 0)).get? s1.heap.objs.size = some (seqObj "list" vs.toArray 0) := Heap.get?_push_size _ rfl
  have hS := strs_as oks
  refine wpAny_bind (wpAny_holding (wpAny_call_entry slot_list_sort ⟨_, at1, rfl⟩ entry_list_sort (list_sort_treeK strKind_oneLt at1 hS.keysOf (fun v₁ v₂ rest e => keyKind_strs (by rw [← e]; exact hS)) (by rw [len]; exact h64) fun st' hp hs => ⟨_, rfl, ?_⟩) (args_list_sort _)))
  obtain ⟨ys, b1, b2, b3⟩ := sorted_out_str hS hp hs
  obtain ⟨c, hc⟩ := sortedHeap_at (vs := vs) (out := (arrOf st').map (·.2)) at1
  refine wpAny_pure ⟨_, rfl, hQ _ s1.heap.objs.size _ c ys (fun b u e => ?_) g1 o1 hz hc b1 (b2.trans pk) b3⟩
  have q := k1 b u e
  have lt := Heap.lt_size q
  show (sortedHeap (s1.heap.push (seqObj "list" vs.toArray 0)) s1.heap.objs.size vs ((arrOf st').map (·.2))).get? b = some u
  rw [sortedHeap_old (Nat.ne_of_lt lt) (by rw [size_push']; exact Nat.lt_succ_of_lt lt)]
  exact Heap.get?_push_of_some _ q
end
/-! ### by values -/
def SetLO (P : Program) (w : World) (a : Addr) (L : List Str) : HO := .ext fun h => SetL (PySem.strKind P w) sOf isS h a L
theorem setLO_ok {P : Program} {w : World} {H : Hp} {h : Heap} {a : Addr} {L : List Str} (R : SetL (PySem.strKind P w) sOf isS h a L) : ObjOk P w H h a (SetLO P w a L) := by
  have ⟨o, _, _, _, ho, _⟩ := R
  exact ⟨R, ⟨o, ho⟩, fun h1 h2 p k => SetL.at p k⟩
def rSetS (P : Program) (w : World) (K : PySem.W.Frag) : List V → Hp → VK → Prop := fun xs H Q => ∃ (a : Addr) (zs : List Str), xs = [V.ref a] ∧ SqL K H a (zs.map V.str) ∧ zs.length < 1000 ∧
  ∀ (p : Addr) (L : List Str), H p = none → L.Nodup → (∀ x, x ∈ L ↔ x ∈ zs) → Q (.ref p) (upd H p (SetLO P w p L))
def rSortSet (P : Program) (w : World) : List V → Hp → VK → Prop := fun xs H Q => ∃ (a : Addr) (L : List Str), xs = [V.ref a] ∧ H a = some (SetLO P w a L) ∧ L.length < 64 ∧
  ∀ (ys : List Str) (p : Addr), ys.Perm L → sortedS ys = true → H p = none → Q (.ref p) (upd H p (.lst (ys.map V.str)))
theorem strs_of_as : ∀ {vs : List Value} {zs : List Str}, PyProof.Rows.StrsAre vs zs → (∀ v ∈ vs, isS v) ∧ vs.map sOf = zs
  | [], _, .nil => ⟨fun v h => absurd h List.not_mem_nil, rfl⟩
  | _ :: vs, _, .cons z t h => ⟨fun v hv => by
      rcases List.mem_cons.mp hv with e | hv
      · exact ⟨z, t, e⟩
      · exact (strs_of_as h).1 v hv, by simp only [List.map_cons, sOf, (strs_of_as h).2]⟩
section
variable {X : Cx}
theorem cr_setS (hc : X.calm = true) : CallR X (.type "set") (rSetS X.prog X.w X.K) := by
  intro pins s σ H xs us Q I r h
  obtain ⟨a, zs, rfl, hs, hz, q⟩ := h
  obtain ⟨its, rv, hl, _⟩ := I.list hs
  rw [Vals.ref1 r]
  obtain ⟨oks, eqs⟩ := strs_of_as rv.strs
  have len : its.length = zs.length := by rw [← eqs, List.length_map]
  refine setL_list (kf_str X.prog X.w) (I.ok.hd hc) hl.isList (by simpa using oks) (by simpa [len] using hz) fun h' tk L hS mL hk => ?_
  have nd : L.Nodup := by
    obtain ⟨_, _, _, _, _, _, _, _, _, nd, _⟩ := hS
    exact nd
  exact ⟨.ref _, upd H s.heap.objs.size (SetLO X.prog X.w s.heap.objs.size L), I.laid (t' := tk) (fun b u e => hk b u e) (Nat.le_refl _) (setLO_ok hS), rfl, q _ L (I.hok.fresh (Nat.le_refl _)) nd fun x => by rw [mL x]; simp [eqs]⟩
theorem cr_sortSet (hc : X.calm = true) : CallR X (.builtin "sorted") (rSortSet X.prog X.w) := by
  intro pins s σ H xs us Q I r h
  obtain ⟨a, L, rfl, ha, h64, q⟩ := h
  rw [Vals.ref1 r]
  have R : SetL (PySem.strKind X.prog X.w) sOf isS s.heap a L := (I.hok a _ ha).1
  refine sorted_setS R (I.ok.hd hc) h64 fun s' p out c ys k g o hp hg hi hperm hsrt => ?_
  have len : (ys.map V.str).length ≤ sizeLine := by rw [List.length_map, hperm.length_eq]; exact small64 h64
  have fresh : H p = none := I.hok.fresh hp
  have J : Inv X pins σ (upd H p (.lst (ys.map V.str))) { s with heap := s'.heap, gens := s'.gens, drawn := s'.drawn, toks := s'.toks } :=
    I.call (ch := []) (Un.laid k hp fresh) (I.hok.laid k hp ⟨len, out.toList, c, vals_of_strs hi, hg⟩) (by rw [g]; exact I.bare) (fun _ z => nomatch z)
  have e : s' = { s with heap := s'.heap, gens := s'.gens, drawn := s'.drawn, toks := s'.toks } := by
    cases s'
    cases s
    cases o
    rfl
  rw [e]
  exact ⟨.ref p, _, J, rfl, q ys p hperm hsrt fresh⟩
end
/-! ### over trees -/
def wSSet (we : WE) : WE := fun m Q => we m fun t m1 => match t.er with
  | .lst l => match strsOf l with
    | some zs => (zs.length < 1000 ∧ zs.eraseDups.length < 64) ∧ Q (.ol ((sS zs.eraseDups).map fun z => .fz (.str z))) m1
    | none => False
  | _ => False
theorem nodup_dups {α : Type} [BEq α] [LawfulBEq α] : ∀ (n : Nat) (l : List α), l.length ≤ n → l.eraseDups.Nodup
  | _, [], _ => by simp
  | 0, a :: l, h => absurd h (by simp)
  | n + 1, a :: l, h => by
    rw [List.eraseDups_cons]
    refine List.nodup_cons.mpr ⟨fun z => ?_, nodup_dups n _ (Nat.le_trans (List.length_filter_le _ _) (by simpa using h))⟩
    have := (List.mem_filter.mp (List.mem_eraseDups.mp z)).2
    simp at this
theorem mem_dups {α : Type} [BEq α] [LawfulBEq α] {x : α} {l : List α} : x ∈ l.eraseDups ↔ x ∈ l := List.mem_eraseDups
section
variable {X : Cx} {lk : Lk} {e : Expr} {we : WE} {p p2 pos pos2 : Pos}
theorem v_sset (hm : X.mg "sorted" = none) (hm2 : X.mg "set" = none) (hc : X.calm = true) (he : PE X e (LE lk we)) (hg : Gl X "sorted" := by rfl) (hg2 : Gl X "set" := by rfl)
    (hs2 : starEach [e] X.env = (false, eval e X.env) :: starEach [] X.env := by rfl) (hp2 : (backTo pos2 (starEach [] X.env)).any (·.1) = false := by rfl)
    (hs : starEach [.Call (.Name "set" p2) [e] [] pos2] X.env = (false, eval (.Call (.Name "set" p2) [e] [] pos2) X.env) :: starEach [] X.env := by rfl) (hpl : (backTo pos (starEach [] X.env)).any (·.1) = false := by rfl) :
    PE X (.Call (.Name "sorted" p) [.Call (.Name "set" p2) [e] [] pos2] [] pos) (LE lk (wSSet we)) :=
  pe_mono (pe_callB (cr_sortSet hc) hg hm (by decide +kernel) (pa_cons (pe_callTy (cr_setS hc) hg2 hm2 (by decide +kernel) (pa_cons he pa_nil hs2) (by decide) (by decide) hs2 hp2) pa_nil hs) (by decide) (by decide) hs hpl) fun s H Q q => by
    obtain ⟨B, F, m, vs, ts, P, st, hw, k⟩ := q
    refine ⟨B, F, m, vs, ts, _, st, hw, fun t m1 ht v F1 H1 g1 st1 => ?_⟩
    split at ht
    · rename_i l el
      split at ht
      · rename_i zs ez
        obtain ⟨⟨z1, z2⟩, ht⟩ := ht
        obtain ⟨F2, g2, st2⟩ := st1.freeze
        obtain ⟨hd, st3⟩ := st2.tfz
        rw [el] at hd
        obtain ⟨a, ws, rfl, e1, e2, e3⟩ := st3.lst hd
        refine ⟨a, zs, rfl, by rw [← strs_fz e3 ez]; exact SqL.of e2, z1, fun p' L hp' nd mL => ?_⟩
        have pm : L.Perm zs.eraseDups := (List.perm_ext_iff_of_nodup nd (nodup_dups _ _ (Nat.le_refl _))).mpr fun x => by rw [mL, mem_dups]
        refine ⟨p', L, rfl, upd_same, by rw [pm.length_eq]; exact z2, fun ys q2 hy srt hq => ?_⟩
        have ey : ys = sS zs.eraseDups := sorted_sS (hy.trans pm) srt
        subst ey
        have st4 := st3.junk (o := SetLO X.prog X.w p' L) hp'
        refine k _ m1 ht (.ref q2) F2 _ (g1.trans g2) (st4.own0 hq fun H' e' => ?_)
        simp only [Rp]
        refine ⟨q2, (sS zs.eraseDups).map V.str, fun _ => False, rfl, e', ?_, id, rfl⟩
        have := RpL.fz (F := F2) (H := H') (fz_strs (F := F2) (sS zs.eraseDups))
        simpa only [List.map_map, Function.comp_def] using this
      · exact ht.elim
    · exact ht.elim
end
end VL
set_option Elab.async false
set_option linter.all false
set_option maxRecDepth 100000
set_option maxHeartbeats 4000000
/-! VL27: name[e][k] = v: a dict or a list within a list of ours is changed where it stands. -/
namespace VL
open PySem PySem.Spec PyProof.Rows L2
section
variable {lk : Lk} {B F H : Hp} {s : L2.St} {m : Tau} {us vs : List V} {xs ts : List T} {t t' : T} {i : Nat} {b : Addr} {v : V} {o : HO}
/-- something of a slot's tree is changed -/
theorem St.mutB (st : St lk B F H s m (us ++ vs) (xs ++ ts)) (hl : us.length = xs.length) (e : m[i]? = some (some t)) (es : s[i]? = some (some v))
    (mk : ∀ f g : Fp, Rp F H t v f → RpL F H xs us g → (∀ b, f b → g b → False) → f b ∧ ∃ f' : Fp, (∀ c, f' c → f c ∨ g c) ∧ Rp F (upd H b o) t' v f') : St lk B F (upd H b o) s (m.set i (some t')) vs ts := by
  obtain ⟨f, g, h1, h2, h3, h4⟩ := st.ex
  obtain ⟨v', f1, f2, e1, k1, k2, k3, rfl⟩ := h1.out e
  rw [es] at e1
  cases e1
  obtain ⟨vs1, ws1, g1, g2, e2, j1, j2, j3, rfl⟩ := RpL.split h2
  obtain ⟨rfl, rfl⟩ := append_inj_len e2 (hl.trans j1.length)
  obtain ⟨fa, f', hf, r'⟩ := mk f1 g1 k1 j1 fun b p q => h3 b (.inl p) (.inl q)
  have own := h4 b (.inl (.inl fa))
  have hi : i < m.length := (List.getElem?_eq_some_iff.mp e).1
  have nf2 : ¬ f2 b := fun z => k3 b fa z
  have ng2 : ¬ g2 b := fun z => h3 b (.inl fa) (.inr z)
  have p2 : RpS F (upd H b o) s (m.set i none) f2 := k2.frame (Same.refl F) fun c z => upd_ne fun e => nf2 (e ▸ z)
  have p3 := RpS.put r' (m := m) p2 hi fun c p q => by
    rcases hf c p with z | z
    · exact k3 c z q
    · exact h3 c (.inr q) (.inl z)
  rw [set_same es] at p3
  refine ⟨⟨_, g2, p3, j2.frame (Same.refl F) fun c z => upd_ne fun e => ng2 (e ▸ z), fun c p q => ?_, fun c p => ?_⟩, fun c o' q => ?_, ⟨fun c o' q => ?_, st.bk.own⟩⟩
  · rcases p with p | p
    · rcases hf c p with z | z
      · exact h3 c (.inl z) (.inr q)
      · exact j3 c z q
    · exact h3 c (.inr p) (.inr q)
  · rcases p with (p | p) | p
    · rcases hf c p with z | z
      · exact h4 c (.inl (.inl z))
      · exact h4 c (.inr (.inl z))
    · exact h4 c (.inl (.inr p))
    · exact h4 c (.inr (.inr p))
  · have ne : c ≠ b := fun z => by
      rw [z, own.1] at q
      cases q
    rw [upd_ne ne]
    exact st.fr c o' q
  · have ne : c ≠ b := fun z => by
      rw [z, own.2] at q
      cases q
    rw [upd_ne ne]
    exact st.bk.sub c o' q
/-- a slot's tree stands aside while an expression is read -/
theorem St.park (st : St lk B F H s m vs ts) (e : m[i]? = some (some t)) : ∃ v f B', s[i]? = some (some v) ∧ Rp F H t v f ∧ St lk B' F H s (m.set i none) vs ts ∧
    ∀ F' H' m' vs' ts', Gr B' F F' → St lk B' F' H' s m' vs' ts' → m'[i]? = some none → Gr B F F' ∧ (∀ a, f a → H' a = H a) ∧ St lk B F' H' s (m'.set i (some t)) vs' ts' := by
  obtain ⟨f, g, h1, h2, h3, h4⟩ := st.ex
  obtain ⟨v, f1, f2, e1, k1, k2, k3, rfl⟩ := h1.out e
  have own1 : ∀ a, f1 a → F a = none ∧ B a = none := fun a p => h4 a (.inl (.inl p))
  have nlk : ∀ a, f1 a → ¬ lk a := fun a p z => by
    obtain ⟨ob, o, q⟩ := st.bk.own a z
    rw [(own1 a p).2] at q
    cases q
  classical
  refine ⟨v, f1, fun a => if f1 a then H a else B a, e1, k1, ⟨⟨f2, g, k2, h2, fun a p q => h3 a (.inr p) q, fun a p => ⟨(h4 a (p.imp .inr id)).1, ?_⟩⟩, st.fr, ⟨fun a o q => ?_, fun a z => ?_⟩⟩, fun F' H' m' vs' ts' gr st' hn => ?_⟩
  · have n1 : ¬ f1 a := fun z => p.elim (fun p => k3 a z p) fun p => h3 a (.inl z) p
    show (if f1 a then H a else B a) = none
    rw [if_neg n1]
    exact (h4 a (p.imp .inr id)).2
  · have q : (if f1 a then H a else B a) = some o := q
    by_cases z : f1 a
    · rw [if_pos z] at q
      exact .inl q
    · rw [if_neg z] at q
      exact st.bk.sub a o q
  · obtain ⟨ob, o, q⟩ := st.bk.own a z
    refine ⟨ob, o, ?_⟩
    show (if f1 a then H a else B a) = _
    rw [if_neg fun p => nlk a p z]
    exact q
  · have keep : ∀ a, f1 a → H' a = H a := fun a p => by
      obtain ⟨o, q⟩ := k1.dom a p
      have z : (if f1 a then H a else B a) = some o := by rw [if_pos p]; exact q
      rcases st'.bk.sub a o z with z | ⟨z, _⟩
      · rw [z, q]
      · exact (nlk a p z).elim
    have fF : ∀ a, f1 a → F' a = none := fun a p => by
      cases q : F' a with
      | none => rfl
      | some o =>
        rcases gr.new a o q with z | z
        · rw [(own1 a p).1] at z
          cases z
        · have z : (if f1 a then H a else B a) = none := z
          rw [if_pos p] at z
          obtain ⟨o', e⟩ := k1.dom a p
          rw [z] at e
          cases e
    obtain ⟨f', g', c1, c2, c3, c4⟩ := st'.ex
    have sep : ∀ a, f1 a → f' a ∨ g' a → False := fun a p q => by
      have k : (if f1 a then H a else B a) = none := (c4 a q).2
      rw [if_pos p] at k
      obtain ⟨o', e⟩ := k1.dom a p
      rw [k] at e
      cases e
    have hi : i < m'.length := (List.getElem?_eq_some_iff.mp hn).1
    have em : m'.set i none = m' := by
      apply List.ext_getElem?
      intro j
      rw [List.getElem?_set]
      by_cases ej : i = j
      · subst ej
        rw [if_pos rfl, if_pos hi, hn]
      · rw [if_neg ej]
    have r' := k1.frame gr.same keep
    have p3 := RpS.put r' (m := m') (by rw [em]; exact c1) hi fun a p q => sep a p (.inl q)
    rw [set_same e1] at p3
    refine ⟨⟨gr.same, fun a o q => ?_⟩, keep, ⟨_, g', p3, c2, fun a p q => ?_, fun a p => ?_⟩, st'.fr, ⟨fun a o q => ?_, st.bk.own⟩⟩
    · rcases gr.new a o q with z | z
      · exact .inl z
      · have z : (if f1 a then H a else B a) = none := z
        by_cases p : f1 a
        · exact .inr (own1 a p).2
        · rw [if_neg p] at z
          exact .inr z
    · rcases p with p | p
      · exact sep a p (.inr q)
      · exact c3 a p q
    · rcases p with (p | p) | p
      · exact ⟨fF a p, (own1 a p).2⟩
      · refine ⟨(c4 a (.inl p)).1, ?_⟩
        have k : (if f1 a then H a else B a) = none := (c4 a (.inl p)).2
        rw [if_neg fun z => sep a z (.inl p)] at k
        exact k
      · refine ⟨(c4 a (.inr p)).1, ?_⟩
        have k : (if f1 a then H a else B a) = none := (c4 a (.inr p)).2
        rw [if_neg fun z => sep a z (.inr p)] at k
        exact k
    · refine st'.bk.sub a o ?_
      show (if f1 a then H a else B a) = some o
      rw [if_neg]
      · exact q
      · intro z
        rw [(own1 a z).2] at q
        cases q
end
theorem zip_inj {ks : List Key} {ws ws' : List V} (h : ks.length = ws.length) (h' : ks.length = ws'.length) (e : ks.zip ws = ks.zip ws') : ws' = ws := by
  have := congrArg (fun z : List (Key × V) => z.map (fun q => q.2)) e
  rw [List.map_snd_zip (by omega), List.map_snd_zip (by omega)] at this
  exact this.symm
section
variable {lk : Lk} {B F H : Hp} {s : L2.St} {m : Tau} {vs : List V} {ts : List T} {t : T} {v : V} {i n : Nat} {L : List T}
/-- list[n][k] = v, the item a dict -/
theorem St.dput2 {ks : List Key} {l : List T} {k : Key} (st : St lk B F H s m (v :: vs) (t :: ts)) (e : m[i]? = some (some (.ol L))) (eL : L[n]? = some (.od ks l)) :
    ∃ a us b ws, s[i]? = some (some (.ref a)) ∧ H a = some (.lst us) ∧ us[n]? = some (.ref b) ∧ H b = some (.dK (ks.zip ws)) ∧ (ws.length = l.length ∧ ks.length = ws.length) ∧
      St lk B F (upd H b (.dK (putK (ks.zip ws) k v))) s (m.set i (some (.ol (L.set n (.od (putL ks l k t).1 (putL ks l k t).2))))) vs ts := by
  obtain ⟨f, g, h1, h2, h3, h4⟩ := st.ex
  obtain ⟨v1, f1, f2, e1, k1, _⟩ := h1.out e
  simp only [Rp] at k1
  obtain ⟨a, us, g0, rfl, i1, i2, i3, rfl⟩ := k1
  obtain ⟨v2, fj, rr, q1, q2, q3, rfl, q5⟩ := i2.item eL
  simp only [Rp] at q2
  obtain ⟨b, ws, g1, rfl, j1, ⟨jl, jnd⟩, j2, j3, rfl⟩ := q2
  refine ⟨a, us, b, ws, e1, i1, q1, j1, ⟨j2.length.symm, jl⟩, St.mutB (us := [v]) (xs := [t]) st rfl e e1 fun f g r rl dj => ?_⟩
  simp only [Rp] at r
  obtain ⟨a', us', g0', q, c1, c2, c3, rfl⟩ := r
  cases q
  rw [i1] at c1
  cases c1
  obtain ⟨v2', fj', rr', d1, d2, d3, rfl, d5⟩ := c2.item eL
  rw [q1] at d1
  cases d1
  simp only [Rp] at d2
  obtain ⟨b', ws', g1', q, x1, ⟨xl, xnd⟩, x2, x3, rfl⟩ := d2
  cases q
  have we : ws' = ws := by
    rw [j1] at x1
    have hz := Option.some.inj x1
    exact zip_inj jl xl (by injection hz)
  subst we
  have ne : b ≠ a := fun z => c3 (.inl (.inl z.symm))
  have nr : ¬ rr' b := fun z => d3 b (.inl rfl) z
  have ra : Rp F (upd H b (.dK (putK (ks.zip ws') k v))) t v g := (RpL.ofOne rl).frame (Same.refl F) fun c z => upd_ne (disj_ne dj (.inr (.inl (.inl rfl))) c z)
  have rb : RpL F (upd H b (.dK (putK (ks.zip ws') k v))) l ws' g1' := x2.frame (Same.refl F) (keepF x3)
  obtain ⟨g', p1, p2⟩ := RpL.putL (k := k) rb xl ra fun c p q => dj c (.inr (.inl (.inr p))) q
  refine ⟨.inr (.inl (.inl rfl)), fun c => c = a ∨ ((c = b ∨ g' c) ∨ rr' c), fun c z => ?_, ?_⟩
  · rcases z with z | (z | z) | z
    · exact .inl (.inl z)
    · exact .inl (.inr (.inl (.inl z)))
    · rcases p2 c z with z | z
      · exact .inl (.inr (.inl (.inr z)))
      · exact .inr z
    · exact .inl (.inr (.inr z))
  · simp only [Rp]
    refine ⟨a, us, fun c => (c = b ∨ g' c) ∨ rr' c, rfl, by rw [upd_ne ne.symm]; exact i1, ?_, fun z => ?_, rfl⟩
    · have hset : us.set n (.ref b) = us := by
        apply List.ext_getElem?
        intro j
        rw [List.getElem?_set]
        by_cases ej : n = j
        · subst ej
          rw [if_pos rfl, q1, if_pos (List.getElem?_eq_some_iff.mp q1).1]
        · rw [if_neg ej]
      have := d5 F (upd H b (.dK (putK (ks.zip ws') k v))) (.od (VL.putL ks l k t).1 (VL.putL ks l k t).2) (.ref b) (fun c => c = b ∨ g' c) (Same.refl F) (keepF nr) (by
        simp only [Rp]
        refine ⟨b, (VL.putL ks ws' k v).2, g', rfl, ?_, ⟨?_, putL_nd xnd⟩, p1, fun z => ?_, rfl⟩
        · rw [upd_same, putK_zip xl xnd, putL_ks (v := t) (vs := l)]
        · rw [putL_ks (w := v) (ws := ws')]
          exact putL_len xl
        · rcases p2 b z with z | z
          · exact x3 z
          · exact dj b (.inr (.inl (.inl rfl))) z) fun c p q => by
        rcases p with p | p
        · exact nr (p ▸ q)
        · rcases p2 c p with z | z
          · exact d3 c (.inr z) q
          · exact dj c (.inr (.inr q)) z
      rw [hset] at this
      exact this
    · rcases z with (z | z) | z
      · exact ne z.symm
      · rcases p2 a z with z | z
        · exact c3 (.inl (.inr z))
        · exact dj a (.inl rfl) z
      · exact c3 (.inr z)
end
/-- name[e][k] = v, name a list of dicts of ours -/
def wPut2 (i : Nat) (wi we wk : WE) : WS := fun m E => we m fun t m1 => (look m1 i).isSome = true ∧ wi m1 fun j m2 => match look m2 i, j with
  | some (.ol L), .fz (.int jj) => match ixN L.length jj with
    | some n => match L[n]? with
      | some (.od ks l) => wk (m2.set i none) fun k m3 => m3[i]? = some none ∧ match k with
        | .fz d => match keyD d with
          | some kk => ks.length < sizeLine ∧ E.nx (m3.set i (some (.ol (L.set n (.od (putL ks l kk t).1 (putL ks l kk t).2)))))
          | none => False
        | _ => False
      | _ => False
    | none => False
  | _, _ => False
section
variable {X : Cx} {lk : Lk} {kp : Nat → Prop} {W : WX} {we wk wi : WE} {x : Str} {p1 p2 pos : Pos} {e ek ei : Expr}
theorem set_set_same {m : Tau} {i : Nat} {a b : Option T} : (m.set i a).set i b = m.set i b := List.set_set _
theorem l_put2 {i : Nat} {D : Ends} {s : L2.St} {H : Hp} {K : PySem.W.Frag} (q : LS lk kp W (wPut2 i wi we wk) D s H) : tAsg (LE lk we) (gSub (tOp (rIxA K) (tVar i) (LE lk wi)) (LE lk wk) rSetA) D s H := by
  obtain ⟨B, F, m, vs, ts, E, st, hw, k⟩ := q
  refine ⟨B, F, m, vs, ts, _, st, hw, fun t m1 ht v F1 H1 g1 st1 => ?_⟩
  obtain ⟨e0, ht⟩ := ht
  obtain ⟨t0, e0⟩ := Option.isSome_iff_exists.mp e0
  obtain ⟨v0, f0, ev, r0⟩ := st1.lookV e0
  refine ⟨v0, ev, B, F1, m1, _, _, _, st1, ht, fun j m2 hj u F2 H2 g2 st2 => ?_⟩
  split at hj
  · rename_i L jj el
    split at hj
    · rename_i n en
      split at hj
      · rename_i ks l eL
        obtain ⟨rfl, st3⟩ := st2.tint
        obtain ⟨v', f', B', e1', r1, st4, back⟩ := st3.park (look_some el)
        rw [ev] at e1'
        cases e1'
        simp only [Rp] at r1
        obtain ⟨a, us, g0, rfl, i1, i2, i3, rfl⟩ := r1
        obtain ⟨v2, fj, rr, q1, q2, q3, rfl, q5⟩ := i2.item eL
        have q2' := q2
        simp only [Rp] at q2'
        obtain ⟨b, ws, gb, rfl, j1, ⟨jl, jnd⟩, j2, j3, rfl⟩ := q2'
        have lus : us.length = L.length := i2.length.symm
        refine .inl (.inl ⟨a, us, jj, .ref b, rfl, rfl, SqL.of i1, ?_, ?_⟩)
        · unfold atI
          rw [lus, en]
          exact q1
        · refine ⟨B', F2, m2.set i none, _, _, _, st4, hj, fun y m3 hy yv F3 H3 g3 st5 => ?_⟩
          obtain ⟨em, hy⟩ := hy
          obtain ⟨gr, keep, st6⟩ := back F3 H3 m3 _ _ g3 st5 em
          have hi3 : i < m3.length := (List.getElem?_eq_some_iff.mp em).1
          split at hy
          · rename_i d
            split at hy
            · rename_i kk ek'
              obtain ⟨hd, st7⟩ := st6.tfz
              obtain ⟨a', us', b', ws', x1, x2, x3, x4, ⟨x5, x6⟩, st8⟩ := st7.dput2 (k := kk) (i := i) (L := L) (by rw [List.getElem?_set_self hi3]) eL
              rw [ev] at x1
              cases x1
              have hH : H3 a = H2 a := keep a (.inl rfl)
              rw [hH, i1] at x2
              cases x2
              rw [q1] at x3
              cases x3
              rw [keyD_ok hd ek']
              refine .inr ⟨b, _, rfl, DPut.k x4 ?_, ?_⟩
              · rw [List.length_zip, ← x6, Nat.min_self]
                exact hy.1
              · rw [set_set_same] at st8
                exact k.nx _ hy.2 s F3 _ ((g1.trans g2).trans gr) Kp.refl st8
            · exact hy.elim
          · exact hy.elim
      · exact hj.elim
    · exact hj.elim
  · exact hj.elim
theorem s_put2 (i : Nat) {tpos : Pos} (hu : X.A.units + 1 < cLine) (hn : PE X (.Name x p1) (tVar i)) (hi : PE X ei (LE lk wi)) (hk : PE X ek (LE lk wk)) (he : PE X e (LE lk we)) (hp : PlainIx ei := by first | exact fun _ _ => rfl | (intro _ _; rfl))
    (ha : ∀ v, assign (.Subscript (.Subscript (.Name x p1) ei p2) ek tpos) X.env v = (do
      let ov ← holding [v] (eval (.Subscript (.Name x p1) ei p2) X.env)
      let iv ← holding [v, ov] (eval ek X.env)
      standAt tpos
      holding [v, ov, iv] (setItem ov iv v)
      release [v, ov, iv] []) := by intro _; rfl)
    (hs : swapsWithSole [.Subscript (.Subscript (.Name x p1) ei p2) ek tpos] e pos.line X.env = pure false := by rfl) (hw : swappedStores [.Subscript (.Subscript (.Name x p1) ei p2) ek tpos] e X.env = pure none := by rfl)
    (h1 : (assignEach [.Subscript (.Subscript (.Name x p1) ei p2) ek tpos] X.env).map (·.2) = [assign (.Subscript (.Subscript (.Name x p1) ei p2) ek tpos) X.env] := by rfl) :
    PS X (.Assign [.Subscript (.Subscript (.Name x p1) ei p2) ek tpos] e pos) (LS lk kp W (wPut2 i wi we wk)) := ps_mono (ps_asg he (pg_sub (pe_ix (ix_any hu) hn hi hp) hk (set_any hu) ha) hs hw h1) fun D s H q => l_put2 q
end
end VL
set_option Elab.async false
set_option linter.all false
set_option maxRecDepth 100000
set_option maxHeartbeats 4000000
/-! VL28: len of instances; lists unpacked; [x] * n. -/
namespace VL
open PySem PySem.Spec PyProof.Rows L2
section
variable {X : Cx} {CX : CXT} {k : Nat} {C : Addr} {ps : List Str} {o : OX} {lk : Lk} {e : Expr} {wa : WA} {p pos : Pos}
theorem u_lenO (c : CalM X.prog X.w X.K X.mg X.base CX C "__len__" k ps (spV anyL 1 o)) (hr : Room (k + 1) X.A) (hx : Passes CX X.nox E0) (hm : X.mg "len" = none) (ha : PA X [e] (LA lk wa)) (hg : Gl X "len" := by rfl) (he : starEach [e] X.env = (false, eval e X.env) :: starEach [] X.env := by rfl) (hpl : (backTo pos (starEach [] X.env)).any (·.1) = false := by rfl) :
    PE X (.Call (.Name "len" p) [e] [] pos) (LE lk (wA (oLenO C o) wa)) := let ⟨_, _, _, m, bb, d⟩ := c.ex; v_callB ((call_lenO d m hr bb hx).or call_lenA) s_lenO hm PySem.boot_len ha hg (by decide) (by decide) he hpl
end
/-- a, b = a list -/
def gTL (gs : List WG) : WG := fun d m Q => match d with
  | .lst ds => ds.length = gs.length ∧ gT.go gs ds m Q
  | _ => False
theorem sg_unl {K : PySem.W.Frag} {n : Nat} {kp : Nat → Prop} {u : TGs} {gs : List WG} (h : SGs u kp gs) (hn : gs.length = n := by rfl) : SG (gUnl K n u) kp (gTL gs) := by
  intro lk B F H s m vs ts d v P Q st hd hw k
  unfold gTL at hw
  split at hw
  · rename_i ds
    obtain ⟨a, ws, rfl, e1, e2, e3⟩ := st.lst hd
    exact ⟨a, ws, rfl, SqL.of e2, by rw [← e3.length, hw.1, hn], h lk B F H s m vs ts ds ws P Q st e3 hw.1 hw.2 k⟩
  · exact hw.elim
/-- a list times a number -/
def oRep : O2 := fun x y P => match x, y with
  | .ol l, .fz (.int k) => (-1000000 ≤ k ∧ k < 1000000 ∧ l.length * k.toNat ≤ sizeLine) ∧ P (.ol ((List.replicate k.toNat (l.map fun t => T.fz t.er)).flatten))
  | _, _ => False
theorem FzL.rep {F : Hp} {l : List D} {us : List V} (h : FzL F l us) : ∀ n : Nat, FzL F (List.replicate n l).flatten (List.replicate n us).flatten
  | 0 => by simp [FzL]
  | n + 1 => by
    rw [List.replicate_succ, List.replicate_succ, List.flatten_cons, List.flatten_cons]
    exact h.append (h.rep n)
theorem s_rep : S2 rRep oRep := by
  intro lk B F H s m vs ts v u x y P Q st ho k
  unfold oRep at ho
  split at ho
  · rename_i l n
    obtain ⟨⟨h1, h2, h3⟩, ho⟩ := ho
    obtain ⟨rfl, st1⟩ := st.tint
    obtain ⟨a, us, F1, rfl, e1, e2, g1, st2⟩ := st1.unpack
    obtain ⟨F2, g2, hz, st3⟩ := St.freezeL e2 st2
    have hH : H a = some (.lst us) := by
      obtain ⟨f, g, _, k2, _, _⟩ := st1.ex
      rw [RpL] at k2
      obtain ⟨_, _, f1, f2, q, j1, _⟩ := k2
      cases q
      simp only [Rp] at j1
      obtain ⟨a', us', g', q, j2, _⟩ := j1
      cases q
      rcases st2.fr a _ e1 with z | ⟨_, _, _, z, _⟩
      · exact z
      · cases z
    refine ⟨a, n, us, rfl, rfl, hH, by omega, by omega, by rw [e2]; exact h3, fun p hp => ?_⟩
    refine k _ ho (.ref p) F2 _ (g1.trans g2) (st3.own0 hp fun H' e' => ?_)
    simp only [Rp]
    refine ⟨p, _, fun _ => False, rfl, e', ?_, id, rfl⟩
    have := RpL.fz (F := F2) (H := H') (hz.rep n.toNat)
    rw [erL_map] at this
    simpa only [List.map_flatten, List.map_replicate, List.map_map, Function.comp_def] using this
  · exact ho.elim
section
variable {X : Cx} {lk : Lk} {a b : Expr} {wa wb : WE} {pos : Pos}
theorem v_rep (ha : PE X a (LE lk wa)) (hb : PE X b (LE lk wb)) : PE X (.BinOp a .Mult b pos) (LE lk (w2 oRep wa wb)) := v_bin op_rep s_rep ha hb
end
/-! ### a if c else b as a test -/
def wIfT (wt wa wb : WT) : WT := fun m Q => wt m fun b m1 => match b with
  | true => wa m1 Q
  | false => wb m1 Q
section
variable {X : Cx} {lk : Lk} {a b c : Expr} {wt wa wb : WT} {pos : Pos}
theorem t_ifExp (hc : PT X c (LT lk wt)) (ha : PT X a (LT lk wa)) (hb : PT X b (LT lk wb)) : PT X (.IfExp c a b pos) (LT lk (wIfT wt wa wb)) := by
  refine ⟨fun pins s σ H Q I q => ?_⟩
  obtain ⟨B, F, m, vs, ts, P, st, hw, k⟩ := q
  refine PyProof.Rows.isTrue_IfExp (thn (hc.run pins s σ H (fun z H1 => (if z = true then LT lk wa else LT lk wb) σ H1 Q) I ⟨B, F, m, vs, ts, _, st, hw, fun z m1 hz F1 H1 g1 st1 => ?_⟩) fun d s1 ⟨H1, I1, q1⟩ => ?_)
  · cases z with
    | true =>
      rw [if_pos rfl]
      exact ⟨B, F1, m1, vs, ts, _, st1, hz, fun y m2 hy F2 H2 g2 st2 => k y m2 hy F2 H2 (g1.trans g2) st2⟩
    | false =>
      rw [if_neg Bool.false_ne_true]
      exact ⟨B, F1, m1, vs, ts, _, st1, hz, fun y m2 hy F2 H2 g2 st2 => k y m2 hy F2 H2 (g1.trans g2) st2⟩
  · cases d with
    | true => exact ha.run pins s1 σ H1 Q I1 q1
    | false => exact hb.run pins s1 σ H1 Q I1 q1
end
end VL
set_option Elab.async false
set_option linter.all false
set_option maxRecDepth 100000
set_option maxHeartbeats 4000000
/-! VL29: a head's facts, with some of our own. -/
namespace VL
open PySem PySem.Spec PyProof.Rows L2
abbrev Exs := List (PySem.W.Frag → Bool)
def allX (exs : Exs) (K : PySem.W.Frag) : Bool := exs.all fun b => b K
def obsY (n : Nat) (fa : List He.Fa) (fn : List He.DefD) (exs : Exs) (g : Addr → Option Obj) : He.AlD × Bool := (He.obsDG n fa fn g, allX exs (He.frG g (He.asD g n)))
def hookY (n : Nat) (fa : List He.Fa) (fn : List He.DefD) (exs : Exs) : PySem.W.Hook where
  α := He.AlD × Bool
  obs := fun s => obsY n fa fn exs s.heap.get?
  val := fun _ => (He.valD fn, true)
  says := fun _ h => ∃ K : PySem.W.Frag, K.In h ∧ He.SaysD fa fn K ∧ allX exs K = true
  of := fun _ _ e => ⟨_, He.frG_in, congrArg (fun z : He.AlD × Bool => z.1) e, congrArg (fun z : He.AlD × Bool => z.2) e⟩
  keeps := fun _ _ _ ⟨K, hK, c⟩ k => ⟨K, PySem.W.Frag.In.keeps hK k, c⟩
theorem obsY_eq {n : Nat} {fa : List He.Fa} {fn : List He.DefD} {exs : Exs} {g : Addr → Option Obj} {s : Shared} (h : ∀ a, g a = s.heap.get? a) : obsY n fa fn exs g = (hookY n fa fn exs).obs s := by
  have e : g = s.heap.get? := funext h
  rw [e]
  rfl
theorem exs_at {K : PySem.W.Frag} {exs : Exs} (c : allX exs K = true) (i : Nat) {b : PySem.W.Frag → Bool} (h : exs[i]? = some b := by rfl) : b K = true := List.all_eq_true.mp c b (List.mem_of_getElem? h)
def insB (K : PySem.W.Frag) (C : Addr) : Bool := He.eqO (PySem.W.findIn K (.ref C) "__class__") (some (some (.builtin "object.__class__"))) &&
  (He.eqO (PySem.W.specialIn K (.builtin "object.__class__") "__get__") (some (some (.builtin "getset_descriptor.__get__"))) &&
  (decide (PySem.W.takesIn K (.builtin "object.__class__") = some true) && (decide (PySem.W.mroIn K C (.type "object") = some true) && decide (PySem.W.kitOne K (.ref C) (.ref C) = some true))))
theorem insB_ok {K : PySem.W.Frag} {C : Addr} (cl : Cls K C) (h : insB K C = true) : C8.InsC K C := by
  obtain ⟨h1, h⟩ := He.ba h
  obtain ⟨h2, h⟩ := He.ba h
  obtain ⟨h3, h⟩ := He.ba h
  obtain ⟨h4, h5⟩ := He.ba h
  exact ⟨cl, He.eqO_ok h1, He.eqO_ok h2, of_decide_eq_true h3, of_decide_eq_true h4, of_decide_eq_true h5⟩
end VL
set_option Elab.async false
set_option linter.all false
set_option maxRecDepth 100000
set_option maxHeartbeats 1000000
/-! S0: how specs are shown: loops, comprehensions; encodings. -/
namespace VL
open PySem PySem.Spec PyProof.Rows L2
@[simp ↓] theorem sx_wRet : type_of% @wRet.eq_def := @wRet.eq_def
@[simp ↓] theorem sx_wAndV : type_of% @wAndV.eq_def := @wAndV.eq_def
@[simp ↓] theorem sx_wChain : type_of% @wChain.eq_def := @wChain.eq_def
@[simp ↓] theorem sx_wA : type_of% @wA.eq_def := @wA.eq_def
@[simp ↓] theorem sx_wCons : type_of% @wCons.eq_def := @wCons.eq_def
@[simp ↓] theorem sx_wNil : type_of% @wNil.eq_def := @wNil.eq_def
@[simp ↓] theorem sx_wVar : type_of% @wVar.eq_def := @wVar.eq_def
@[simp ↓] theorem sx_wC : type_of% @wC.eq_def := @wC.eq_def
@[simp ↓] theorem sx_wLc : type_of% @wLc.eq_def := @wLc.eq_def
@[simp ↓] theorem sx_wLcK : type_of% @wLcK.eq_def := @wLcK.eq_def
@[simp ↓] theorem sx_wForK : type_of% @wForK.eq_def := @wForK.eq_def
@[simp ↓] theorem sx_iL : type_of% @iL.eq_def := @iL.eq_def
@[simp ↓] theorem sx_iT : type_of% @iT.eq_def := @iT.eq_def
@[simp ↓] theorem sx_iS : type_of% @iS.eq_def := @iS.eq_def
@[simp ↓] theorem sx_iR1 : type_of% @iR1.eq_def := @iR1.eq_def
@[simp ↓] theorem sx_iR2 : type_of% @iR2.eq_def := @iR2.eq_def
@[simp ↓] theorem sx_iE : type_of% @iE.eq_def := @iE.eq_def
@[simp ↓] theorem sx_iZ : type_of% @iZ.eq_def := @iZ.eq_def
@[simp ↓] theorem sx_gN : type_of% @gN.eq_def := @gN.eq_def
@[simp ↓] theorem sx_gT : type_of% @gT.eq_def := @gT.eq_def
@[simp] theorem sx_gT_go_1 : type_of% @gT.go.eq_1 := @gT.go.eq_1
@[simp] theorem sx_gT_go_2 : type_of% @gT.go.eq_2 := @gT.go.eq_2
@[simp ↓] theorem sx_wYes : type_of% @wYes.eq_def := @wYes.eq_def
@[simp ↓] theorem sx_w2 : type_of% @w2.eq_def := @w2.eq_def
@[simp ↓] theorem sx_oR1 : type_of% @oR1.eq_def := @oR1.eq_def
@[simp ↓] theorem sx_oR2 : type_of% @oR2.eq_def := @oR2.eq_def
@[simp ↓] theorem sx_oL1 : type_of% @oL1.eq_def := @oL1.eq_def
@[simp ↓] theorem sx_oA1 : type_of% @oA1.eq_def := @oA1.eq_def
@[simp ↓] theorem sx_oA2 : type_of% @oA2.eq_def := @oA2.eq_def
@[simp] theorem sx_T_er_1 : type_of% @T.er.eq_1 := @T.er.eq_1
@[simp] theorem sx_T_er_2 : type_of% @T.er.eq_2 := @T.er.eq_2
@[simp] theorem sx_T_er_3 : type_of% @T.er.eq_3 := @T.er.eq_3
@[simp] theorem sx_T_er_4 : type_of% @T.er.eq_4 := @T.er.eq_4
@[simp] theorem sx_T_er_5 : type_of% @T.er.eq_5 := @T.er.eq_5
@[simp ↓] theorem sx_oI : type_of% @oI.eq_def := @oI.eq_def
@[simp ↓] theorem sx_oIC : type_of% @oIC.eq_def := @oIC.eq_def
@[simp ↓] theorem sx_wSeq : type_of% @wSeq.eq_def := @wSeq.eq_def
@[simp ↓] theorem sx_wSet : type_of% @wSet.eq_def := @wSet.eq_def
@[simp ↓] theorem sx_wSetF : type_of% @wSetF.eq_def := @wSetF.eq_def
@[simp ↓] theorem sx_wIfS : type_of% @wIfS.eq_def := @wIfS.eq_def
@[simp ↓] theorem sx_wFor : type_of% @wFor.eq_def := @wFor.eq_def
@[simp ↓] theorem sx_wNext : type_of% @wNext.eq_def := @wNext.eq_def
@[simp ↓] theorem sx_wNever : type_of% @wNever.eq_def := @wNever.eq_def
@[simp ↓] theorem sx_wDrop : type_of% @wDrop.eq_def := @wDrop.eq_def
@[simp ↓] theorem sx_wB : type_of% @wB.eq_def := @wB.eq_def
@[simp ↓] theorem sx_wNot : type_of% @wNot.eq_def := @wNot.eq_def
@[simp ↓] theorem sx_wAnd : type_of% @wAnd.eq_def := @wAnd.eq_def
@[simp ↓] theorem sx_wOr : type_of% @wOr.eq_def := @wOr.eq_def
@[simp ↓] theorem sx_wNotV : type_of% @wNotV.eq_def := @wNotV.eq_def
@[simp ↓] theorem sx_wOrV : type_of% @wOrV.eq_def := @wOrV.eq_def
@[simp ↓] theorem sx_wIf : type_of% @wIf.eq_def := @wIf.eq_def
@[simp ↓] theorem sx_wTup : type_of% @wTup.eq_def := @wTup.eq_def
@[simp ↓] theorem sx_wLst : type_of% @wLst.eq_def := @wLst.eq_def
@[simp ↓] theorem sx_wNewD : type_of% @wNewD.eq_def := @wNewD.eq_def
@[simp ↓] theorem sx_wIxS : type_of% @wIxS.eq_def := @wIxS.eq_def
@[simp ↓] theorem sx_wBrk : type_of% @wBrk.eq_def := @wBrk.eq_def
@[simp ↓] theorem sx_wCnt : type_of% @wCnt.eq_def := @wCnt.eq_def
@[simp ↓] theorem sx_wRetN : type_of% @wRetN.eq_def := @wRetN.eq_def
@[simp ↓] theorem sx_wAsg : type_of% @wAsg.eq_def := @wAsg.eq_def
@[simp ↓] theorem sx_wPar : type_of% @wPar.eq_def := @wPar.eq_def
@[simp ↓] theorem sx_wParL : type_of% @wParL.eq_def := @wParL.eq_def
@[simp] theorem sx_setAll_1 : type_of% @setAll.eq_1 := @setAll.eq_1
@[simp] theorem sx_setAll_2 : type_of% @setAll.eq_2 := @setAll.eq_2
@[simp ↓] theorem sx_wApp : type_of% @wApp.eq_def := @wApp.eq_def
@[simp ↓] theorem sx_wPut : type_of% @wPut.eq_def := @wPut.eq_def
@[simp ↓] theorem sx_look : type_of% @look.eq_def := @look.eq_def
@[simp ↓] theorem sx_w1 : type_of% @w1.eq_def := @w1.eq_def
@[simp ↓] theorem sx_oNeg : type_of% @oNeg.eq_def := @oNeg.eq_def
@[simp ↓] theorem sx_wTake : type_of% @wTake.eq_def := @wTake.eq_def
@[simp ↓] theorem sx_wFrz : type_of% @wFrz.eq_def := @wFrz.eq_def
@[simp ↓] theorem sx_wFz : type_of% @wFz.eq_def := @wFz.eq_def
@[simp] theorem sx_wipeT_1 : type_of% @wipeT.eq_1 := @wipeT.eq_1
@[simp] theorem sx_wipeT_2 : type_of% @wipeT.eq_2 := @wipeT.eq_2
@[simp] theorem sx_backT_1 : type_of% @backT.eq_1 := @backT.eq_1
@[simp] theorem sx_backT_2 : type_of% @backT.eq_2 := @backT.eq_2
@[simp ↓] theorem sx_wView : type_of% @wView.eq_def := @wView.eq_def
@[simp ↓] theorem sx_wViewT : type_of% @wViewT.eq_def := @wViewT.eq_def
@[simp ↓] theorem sx_wConsL : type_of% @wConsL.eq_def := @wConsL.eq_def
@[simp ↓] theorem sx_wIO : type_of% @wIO.eq_def := @wIO.eq_def
@[simp ↓] theorem sx_oFn : type_of% @oFn.eq_def := @oFn.eq_def
@[simp ↓] theorem sx_oMk : type_of% @oMk.eq_def := @oMk.eq_def
@[simp ↓] theorem sx_startT : type_of% @VL.startT.eq_def := @VL.startT.eq_def
@[simp ↓] theorem sx_frzM : type_of% @frzM.eq_def := @frzM.eq_def
@[simp ↓] theorem sx_oIxH : type_of% @oIxH.eq_def := @oIxH.eq_def
@[simp ↓] theorem sx_tIx : type_of% @tIx.eq_def := @tIx.eq_def
@[simp ↓] theorem sx_oFld : type_of% @oFld.eq_def := @oFld.eq_def
@[simp ↓] theorem sx_pVar : type_of% @pVar.eq_def := @pVar.eq_def
@[simp ↓] theorem sx_selK : type_of% @selK.eq_def := @selK.eq_def
@[simp ↓] theorem sx_selV : type_of% @selV.eq_def := @selV.eq_def
@[simp ↓] theorem sx_wForOwn : type_of% @wForOwn.eq_def := @wForOwn.eq_def
@[simp ↓] theorem sx_wNewN : type_of% @wNewN.eq_def := @wNewN.eq_def
@[simp ↓] theorem sx_wInN : type_of% @wInN.eq_def := @wInN.eq_def
@[simp ↓] theorem sx_wIxN : type_of% @wIxN.eq_def := @wIxN.eq_def
@[simp ↓] theorem sx_wLenN : type_of% @wLenN.eq_def := @wLenN.eq_def
@[simp ↓] theorem sx_wPutN : type_of% @wPutN.eq_def := @wPutN.eq_def
@[simp ↓] theorem sx_wScrLen : type_of% @wScrLen.eq_def := @wScrLen.eq_def
@[simp ↓] theorem sx_wScrIx : type_of% @wScrIx.eq_def := @wScrIx.eq_def
@[simp ↓] theorem sx_wFPut : type_of% @wFPut.eq_def := @wFPut.eq_def
@[simp ↓] theorem sx_wMeth : type_of% @wMeth.eq_def := @wMeth.eq_def
@[simp ↓] theorem sx_wGet : type_of% @wGet.eq_def := @wGet.eq_def
@[simp ↓] theorem sx_wCut : type_of% @wCut.eq_def := @wCut.eq_def
@[simp ↓] theorem sx_oCut : type_of% @oCut.eq_def := @oCut.eq_def
@[simp ↓] theorem sx_wPart : type_of% @wPart.eq_def := @wPart.eq_def
@[simp ↓] theorem sx_wNo : type_of% @wNo.eq_def := @wNo.eq_def
@[simp ↓] theorem sx_wDisp1 : type_of% @wDisp1.eq_def := @wDisp1.eq_def
@[simp ↓] theorem sx_noX : type_of% @noX.eq_def := @noX.eq_def
@[simp ↓] theorem sx_oAdd : type_of% @oAdd.eq_def := @oAdd.eq_def
@[simp ↓] theorem sx_items : type_of% @items.eq_def := @items.eq_def
@[simp ↓] theorem sx_wDisp1N : type_of% @wDisp1N.eq_def := @wDisp1N.eq_def
@[simp ↓] theorem sx_wSSet : type_of% @wSSet.eq_def := @wSSet.eq_def
@[simp ↓] theorem sx_wLc2 : type_of% @wLc2.eq_def := @wLc2.eq_def
@[simp ↓] theorem sx_wStar : type_of% @wStar.eq_def := @wStar.eq_def
@[simp ↓] theorem sx_wIfT : type_of% @wIfT.eq_def := @wIfT.eq_def
@[simp ↓] theorem sx_wPut2 : type_of% @wPut2.eq_def := @wPut2.eq_def
@[simp ↓] theorem sx_wPar3 : type_of% @wPar3.eq_def := @wPar3.eq_def
@[simp ↓] theorem sx_oOwn2 : type_of% @oOwn2.eq_def := @oOwn2.eq_def
@[simp ↓] theorem sx_oOwn1 : type_of% @oOwn1.eq_def := @oOwn1.eq_def
@[simp ↓] theorem sx_oEqO : type_of% @oEqO.eq_def := @oEqO.eq_def
@[simp ↓] theorem sx_oIsI : type_of% @oIsI.eq_def := @oIsI.eq_def
@[simp ↓] theorem sx_oLenO : type_of% @oLenO.eq_def := @oLenO.eq_def
@[simp ↓] theorem sx_gTL : type_of% @gTL.eq_def := @gTL.eq_def
@[simp ↓] theorem sx_oRep : type_of% @oRep.eq_def := @oRep.eq_def
@[simp] theorem sx_erL_map (l : List T) : erL l = l.map T.er := erL_map l
@[simp] theorem sc_non : scT (.fz .non) = true := by simp only [scT]
@[simp] theorem sc_bl {b : Bool} : scT (.fz (.bl b)) = true := by simp only [scT]
@[simp] theorem sc_int {i : Int} : scT (.fz (.int i)) = true := by simp only [scT]
@[simp] theorem sc_str {z : Str} : scT (.fz (.str z)) = true := by simp only [scT]
@[simp] theorem sc_ol {l : List T} : scT (.ol l) = scL l := by simp only [scT]
@[simp] theorem sc_od {ks : List Key} {l : List T} : scT (.od ks l) = scL l := by simp only [scT]
@[simp] theorem sc_nil : scL [] = true := by simp only [scL]
@[simp] theorem sc_cons {t : T} {l : List T} : scL (t :: l) = (scT t && scL l) := by simp only [scL]
/-- a list that a comprehension makes; f: an item's value, if it is taken -/
theorem lcL_run {g : WG} {wt : WT} {we : WE} {own : List Nat} {m : Tau} {f : D → Option T} {ms : D → Tau} (hm : ∀ d, wipeT (ms d) own = m) :
    ∀ {ds : List D} {acc : List T} {Q : List T → Tau → Prop}, (∀ d ∈ ds, ∀ (K1 : T → Tau → Prop) (K2 : Tau → Prop), (match f d with | some t => K1 t (ms d) | none => K2 (ms d)) → g d m fun m1 => wt m1 fun b m2 => match b with | true => we m2 K1 | false => K2 m2) →
    acc.length + ds.length ≤ sizeLine → Q (acc ++ ds.filterMap f) m → wLcL g wt we own ds acc m Q
  | [], acc, Q, hs, hl, q => by
    unfold wLcL
    simpa using q
  | d :: ds, acc, Q, hs, hl, q => by
    unfold wLcL
    refine hs d List.mem_cons_self _ _ ?_
    have hs' := fun e he => hs e (List.mem_cons_of_mem _ he)
    simp only [List.length_cons] at hl
    cases e : f d with
    | some t =>
      simp only
      refine ⟨by omega, ?_⟩
      rw [hm d]
      refine lcL_run hm hs' (by simp; omega) ?_
      simpa [List.filterMap_cons, e] using q
    | none =>
      simp only
      rw [hm d]
      refine lcL_run hm hs' (by omega) ?_
      simpa [List.filterMap_cons, e] using q
/-- .. over items x, told as e x -/
theorem lcL_map {α : Type} {g : WG} {wt : WT} {we : WE} {own : List Nat} {m : Tau} {e : α → D} {f : α → Option T} {ms : α → Tau} (hm : ∀ x, wipeT (ms x) own = m) :
    ∀ {l : List α} {acc : List T} {Q : List T → Tau → Prop}, (∀ x ∈ l, ∀ (K1 : T → Tau → Prop) (K2 : Tau → Prop), (match f x with | some t => K1 t (ms x) | none => K2 (ms x)) → g (e x) m fun m1 => wt m1 fun b m2 => match b with | true => we m2 K1 | false => K2 m2) →
    acc.length + l.length ≤ sizeLine → Q (acc ++ l.filterMap f) m → wLcL g wt we own (l.map e) acc m Q
  | [], acc, Q, hs, hl, q => by
    simp only [List.map_nil]
    unfold wLcL
    simpa using q
  | d :: ds, acc, Q, hs, hl, q => by
    simp only [List.map_cons]
    unfold wLcL
    refine hs d List.mem_cons_self _ _ ?_
    have hs' := fun e he => hs e (List.mem_cons_of_mem _ he)
    simp only [List.length_cons] at hl
    cases e : f d with
    | some t =>
      simp only
      refine ⟨by omega, ?_⟩
      rw [hm d]
      refine lcL_map hm hs' (by simp; omega) ?_
      simpa [List.filterMap_cons, e] using q
    | none =>
      simp only
      rw [hm d]
      refine lcL_map hm hs' (by omega) ?_
      simpa [List.filterMap_cons, e] using q
/-- a loop with an invariant I (what is left) -/
theorem forL_inv {g : WG} {wb : WS} {E : WEnds} (I : List D → Tau → Prop)
    (step : ∀ d ds m, I (d :: ds) m → ∀ E' : WEnds, (∀ m2, I ds m2 → E'.nx m2) → (∀ m2, I ds m2 → E'.ct m2) → (∀ m2, E.nx m2 → E'.bk m2) → (∀ t m2, E.rt t m2 → E'.rt t m2) → (∀ x m2, E.xe x m2 → E'.xe x m2) → g d m fun m1 => wb m1 E')
    (fin : ∀ m, I [] m → E.nx m) : ∀ {ds : List D} {m : Tau}, I ds m → wForL g wb ds m E
  | [], m, h => by
    unfold wForL
    exact fin m h
  | d :: ds, m, h => by
    unfold wForL
    exact step d ds m h _ (fun m2 h2 => forL_inv I step fin h2) (fun m2 h2 => forL_inv I step fin h2) (fun _ z => z) (fun _ _ z => z) fun _ _ z => z
/-- .. by the number of the turn -/
theorem forL_at {g : WG} {wb : WS} {E : WEnds} {ds : List D} (I : Nat → Tau → Prop)
    (step : ∀ k (hk : k < ds.length) m, I k m → ∀ E' : WEnds, (∀ m2, I (k + 1) m2 → E'.nx m2) → (∀ m2, I (k + 1) m2 → E'.ct m2) → (∀ m2, E.nx m2 → E'.bk m2) → (∀ t m2, E.rt t m2 → E'.rt t m2) → (∀ x m2, E.xe x m2 → E'.xe x m2) → g ds[k] m fun m1 => wb m1 E')
    (fin : ∀ m, I ds.length m → E.nx m) {m : Tau} (h : I 0 m) : wForL g wb ds m E := by
  refine forL_inv (fun r m => ∃ k, k ≤ ds.length ∧ r = ds.drop k ∧ I k m) ?_ ?_ ⟨0, Nat.zero_le _, by simp, h⟩
  · rintro d r m ⟨k, hk, e, hi⟩ E' h1 h2 h3 h4 h5
    have hlt : k < ds.length := by
      by_cases z : k < ds.length
      · exact z
      · rw [List.drop_eq_nil_of_le (by omega)] at e
        cases e
    rw [List.drop_eq_getElem_cons hlt] at e
    injection e with e1 e2
    subst e1 e2
    exact step k hlt m hi E' (fun m2 z => h1 m2 ⟨k + 1, hlt, rfl, z⟩) (fun m2 z => h2 m2 ⟨k + 1, hlt, rfl, z⟩) h3 h4 h5
  · rintro m ⟨k, hk, e, hi⟩
    have : k = ds.length := by
      have := congrArg List.length e
      simp at this
      omega
    subst this
    exact fin m hi

@[simp] theorem er_const {α : Type} {d : D} : (T.er ∘ fun (_ : α) => T.fz d) = fun _ => d := rfl
@[simp] theorem er_fz {α : Type} {f : α → D} : (T.er ∘ fun (x : α) => T.fz (f x)) = f := rfl
@[simp] theorem er_fz0 : (T.er ∘ T.fz) = id := rfl
/-! ### encodings -/
def eInts (l : List Nat) : List D := l.map fun (e : Nat) => .int (e : Int)
def eStrs (l : List Str) : List D := l.map .str
@[simp] theorem eInts_len {l : List Nat} : (eInts l).length = l.length := by simp [eInts]
@[simp] theorem eStrs_len {l : List Str} : (eStrs l).length = l.length := by simp [eStrs]
theorem atI_nat {α : Type} {l : List α} {i : Nat} (h : i < l.length) : atI l ((i : Nat) : Int) = some l[i] := by
  unfold atI ixN
  rw [if_pos (by omega), if_pos (by omega)]
  simp [h]
theorem ixN_nat {n i : Nat} (h : i < n) : ixN n ((i : Nat) : Int) = some i := by
  unfold ixN
  rw [if_pos (by omega), if_pos (by omega)]
  simp
theorem inD_int {i : Int} : ∀ {l : List Int}, inD (.int i) (l.map D.int) = decide (i ∈ l)
  | [] => by simp [inD]
  | j :: l => by
    have ih := inD_int (i := i) (l := l)
    simp only [inD, List.map_cons, List.any_cons] at ih ⊢
    rw [ih]
    by_cases e : j = i
    · subst e
      simp [eqD]
    · have : eqD (.int j) (.int i) = false := by simpa [eqD] using e
      rw [this]
      have : ¬ i = j := fun z => e z.symm
      simp [this]
theorem flat_ints {l : List Int} : (l.map D.int).all flatD = true := by
  rw [List.all_eq_true]
  intro x hx
  obtain ⟨i, _, rfl⟩ := List.mem_map.mp hx
  simp [flatD]
theorem eInts_eq (l : List Nat) : eInts l = (l.map fun (n : Nat) => (n : Int)).map D.int := by simp [eInts]
theorem dIn_nat {neg : Bool} {i : Nat} {l : List Nat} : dIn neg (.int (i : Int)) (.lst (eInts l)) = some (.bl (if neg then !decide (i ∈ l) else decide (i ∈ l))) := by
  have e : decide ((i : Int) ∈ l.map fun (n : Nat) => (n : Int)) = decide (i ∈ l) := by
    apply decide_eq_decide.mpr
    rw [List.mem_map]
    exact ⟨fun ⟨a, h, e⟩ => by
      have : a = i := by omega
      exact this ▸ h, fun h => ⟨i, h, rfl⟩⟩
  unfold dIn
  simp only
  rw [eInts_eq, inD_int, flat_ints, e]
  simp [flatD]
theorem dIn_natT {neg : Bool} {i : Nat} {l : List Nat} : dIn neg (.int (i : Int)) (.tup (eInts l)) = some (.bl (if neg then !decide (i ∈ l) else decide (i ∈ l))) := by
  have e : decide ((i : Int) ∈ l.map fun (n : Nat) => (n : Int)) = decide (i ∈ l) := by
    apply decide_eq_decide.mpr
    rw [List.mem_map]
    exact ⟨fun ⟨a, h, e⟩ => by
      have : a = i := by omega
      exact this ▸ h, fun h => ⟨i, h, rfl⟩⟩
  unfold dIn
  simp only
  rw [eInts_eq, inD_int, flat_ints, e]
  simp [flatD]
theorem rngD_len {lo : Int} {n : Nat} : (rngD lo n).length = n := by simp [rngD]
theorem rngD_at {n i : Nat} (h : i < (rngD 0 n).length) : (rngD 0 n)[i] = .int (i : Int) := by simp [rngD]
end VL
set_option Elab.async false
set_option linter.all false
set_option maxRecDepth 100000
set_option maxHeartbeats 1000000
/-! S1: rules as data; what the program's defs promise; their meanings as the generator prints them. -/
namespace Pg
open PySem PySem.Spec PyProof.Rows L2 VL

/-! ### rooms -/
abbrev Room1 := List (Str × Nat)
abbrev RM := List Room1
def eRoom (r : Room1) : D := .dct (r.map fun p => .inr p.1) (r.map fun p => .int (p.2 : Nat))
def eRooms (rs : RM) : D := .lst (rs.map eRoom)
/-- the step from a room -/
def stepR (rs : RM) (i : Nat) (d : Str) : Option Nat := match rs[i]? with
  | some r => r.lookup d
  | none => none
/-- whether a day leads from a room to an end -/
def acc (rs : RM) (es : List Nat) : Nat → List Str → Bool
  | i, [] => decide (i ∈ es)
  | i, d :: w => match stepR rs i d with
    | some j => acc rs es j w
    | none => false
def live (rs : RM) (es : List Nat) (i : Nat) : Prop := ∃ w, acc rs es i w = true
def letters : Str := "abcdefghijklmnopqrstuvwxyz"
def isName (z : Str) : Bool := decide (1 ≤ z.length) && (decide (z.length ≤ 8) && z.cps.toList.all fun c => decide (c ∈ letters.cps.toList))
/-- rooms and ends as they should be -/
structure Good (rs : RM) (es : List Nat) : Prop where
  pos : 0 < rs.length
  small : rs.length ≤ 100000
  room : ∀ r ∈ rs, r.length < 64 ∧ (r.map (·.1)).Nodup ∧ ∀ p ∈ r, isName p.1 = true ∧ p.2 < rs.length
  ends : ∀ e ∈ es, e < rs.length
  few : es.length ≤ 100000
/-- least rooms as tuples -/
def eLeast (lr : RM) : D := .tup (lr.map fun r => .tup (r.map fun p => .tup [.str p.1, .int (p.2 : Nat)]))
def eEnds (le : List Nat) : D := .tup (eInts le)
def eRule (C : Addr) (lr : RM) (le : List Nat) : D := .ins C ["kept_rooms", "kept_ends"] [eLeast lr, eEnds le]
structure WfL (lr : RM) : Prop where
  pos : 0 < lr.length
  small : lr.length ≤ 100000
  steps : ∀ r ∈ lr, ∀ p ∈ r, p.2 < lr.length
  names : ∀ r ∈ lr, ∀ p ∈ r, PyData.strOk p.1 = true
/-! ### least rooms, and that they are one -/
/-- the numbers of rooms that are met, n of them known ahead -/
def tgt : List Nat → Nat → Option Nat
  | [], n => some n
  | j :: r, n => if j < n then tgt r n else if j = n then tgt r (n + 1) else none
def bfs : RM → Nat → Nat → Option Nat
  | [], _, n => some n
  | r :: rs, k, n => if k < n then match tgt (r.map (·.2)) n with
    | some n' => bfs rs (k + 1) n'
    | none => none
    else none
/-- rooms that are the least ones, numbered as they are reached -/
structure Canon (lr : RM) (le : List Nat) : Prop where
  num : bfs lr 0 1 = some lr.length
  asc : ∀ r ∈ lr, (r.map (·.1)).Pairwise fun a b => leS a b = true
  nd : ∀ r ∈ lr, (r.map (·.1)).Nodup
  live : ∀ r ∈ lr, ∀ p ∈ r, live lr le p.2
  apart : ∀ i j, i < lr.length → j < lr.length → (∀ w, acc lr le i w = acc lr le j w) → i = j
  ends : ∀ e ∈ le, e < lr.length
  up : le.Pairwise (· < ·)
/-- what least rooms are of rooms and ends -/
structure Least (rs : RM) (es : List Nat) (lr : RM) (le : List Nat) : Prop where
  wf : WfL lr
  lang : ∀ w, acc lr le 0 w = acc rs es 0 w
  canon : Canon lr le
  len : lr.length ≤ rs.length
  deeds : ∀ l : List Str, (∀ r ∈ rs, ∀ p ∈ r, p.1 ∈ l) → ∀ r ∈ lr, ∀ p ∈ r, p.1 ∈ l
/-- the keys that are indexes -/
def kI (ks : List Nat) : List Key := ks.map fun (k : Nat) => Sum.inl (k : Int)
/-! ### promises -/
def o_is_name : OX := fun xs P _ => ∃ z : Str, xs = [.fz (.str z)] ∧ z.length ≤ 1000000 ∧ P (.fz (.bl (isName z)))
def o_check_rooms : OX := fun xs P _ => ∃ rs es, xs = [.fz (eRooms rs), .fz (.lst (eInts es))] ∧ Good rs es ∧ P (.fz .non)
def o_live_rooms : OX := fun xs P _ => ∃ rs es, xs = [.fz (eRooms rs), .fz (.lst (eInts es))] ∧ Good rs es ∧
  ∀ ks : List Nat, ks.Nodup → (∀ k, k ∈ ks ↔ live rs es k) → P (.od (kI ks) (ks.map fun _ => .fz (.bl true)))
def o_room_kinds : OX := fun xs P _ => ∃ (rs : RM) (es ks : List Nat) (l : List D), xs = [.fz (eRooms rs), .fz (.lst (eInts es)), .fz (.dct (kI ks) l)] ∧ Good rs es ∧ (∀ k, k ∈ ks ↔ live rs es k) ∧
  ∀ cs : List Nat, cs.length = rs.length → (∀ i j, i < rs.length → j < rs.length → (cs[i]? = cs[j]? ↔ ∀ w, acc rs es i w = acc rs es j w)) → P (.fz (.lst (eInts cs)))
def o_least_rooms : OX := fun xs P _ => ∃ rs es, xs = [.fz (eRooms rs), .fz (.lst (eInts es))] ∧ Good rs es ∧
  ∀ lr le, Least rs es lr le → P (.fz (.tup [eLeast lr, eEnds le]))
def oInt : Option Nat → D
  | some i => .int (i : Int)
  | none => .non
def o_room_behind : OX := fun xs P _ => ∃ lr i d, xs = [.fz (eLeast lr), .fz (oInt i), .fz (.str d)] ∧ (∀ k, i = some k → k < lr.length) ∧ (∀ r ∈ lr, ∀ p ∈ r, PyData.strOk p.1 = true) ∧ PyData.strOk d = true ∧ P (.fz (oInt (i.bind fun k => stepR lr k d)))
def o_init (C : Addr) : OIO := fun xs P _ => ∃ rs es, xs = [.oi C [] [], .fz (eRooms rs), .fz (.lst (eInts es))] ∧ Good rs es ∧
  ∀ lr le, Least rs es lr le → P (.fz .non) (.oi C ["kept_rooms", "kept_ends"] [.fz (eLeast lr), .fz (eEnds le)])
def o_has (C : Addr) : OX := fun xs P _ => ∃ lr le w, xs = [.fz (eRule C lr le), .fz (.lst (eStrs w))] ∧ WfL lr ∧ (∀ d ∈ w, PyData.strOk d = true) ∧ P (.fz (.bl (acc lr le 0 w)))
/-! ### meanings -/
-- is_name: 0 name, 1 letter
def w_is_name : WS := (wRet (wAndV (wChain oLe oLe (wC (.int 1)) (wA (oA1 (oR1 dLen)) (wCons (wVar 0) wNil)) (wC (.int 8))) (wA (oA1 (oR1 dAll)) (wCons (wLc (iS (wVar 0)) (gN 1) wYes (w2 (oR2 (dIn false)) (wVar 1) (wC (.str "abcdefghijklmnopqrstuvwxyz"))) [1]) wNil))))
-- check_rooms: 0 rooms, 1 ends, 2 index, 3 deed
def w_check_rooms : WS := (wSeq (wFor (iR1 (wA (oA1 (oR1 dLen)) (wCons (wVar 0) wNil))) (gN 2) (wFor (iL (wA (oA1 (oL1 dSort)) (wCons (w2 oIxH (wVar 0) (wVar 2)) wNil))) (gN 3) (wSeq (wIfS (wNot (wB (wA (oFn 1 o_is_name) (wCons (wVar 3) wNil)))) wNever wNext)
  (wIfS (wNot (wB (wChain oLe oLt (wC (.int 0)) (w2 oIxH (w2 oIxH (wVar 0) (wVar 2)) (wVar 3)) (wA (oA1 (oR1 dLen)) (wCons (wVar 0) wNil))))) wNever wNext))))
  (wFor (iL (wVar 1)) (gN 2) (wIfS (wNot (wB (wChain oLe oLt (wC (.int 0)) (wVar 2) (wA (oA1 (oR1 dLen)) (wCons (wVar 0) wNil))))) wNever wNext)))
-- live_rooms: 0 rooms, 1 ends, 2 found, 3 index, 4 many, 5 deed
def w_live_rooms : WS := (wSeq (wSet 2 wNewD)
  (wSeq (wFor (iL (wVar 1)) (gN 3) (wPut 2 (wC (.bl true)) (wVar 3)))
  (wSeq (wSetF 4 (wC (.int 0)))
  (wSeq (wWhile (wViewT (wB (w2 oGt (wA (oA1 (oR1 dLen)) (wCons (wVar 2) wNil)) (wVar 4)))) (wSeq (wSetF 4 (wView (wA (oA1 (oR1 dLen)) (wCons (wVar 2) wNil))))
  (wFor (iR1 (wA (oA1 (oR1 dLen)) (wCons (wVar 0) wNil))) (gN 3) (wIfS (wViewT (wB (wA (oA1 (oR1 dAny)) (wCons (wLcK (pIx (pVar 0) (pVar 3)) selK (gN 5) wYes (w2 (oR2 (dIn false)) (w2 oIxH (w2 oIxH (wVar 0) (wVar 3)) (wVar 5)) (wVar 2)) [5]) wNil)))) (wPut 2 (wC (.bl true)) (wVar 3)) wNext))))
  (wRet (wTake 2))))))
-- room_kinds: 0 rooms, 1 ends, 2 live, 3 kinds, 4 many, 5 found, 6 places, 7 later, 8 index, 9 told, 10 key, 11 deed
def w_room_kinds (P : Program) (w : World) : WS := (wSeq (wSetF 3 (wLc (iR1 (wA (oA1 (oR1 dLen)) (wCons (wVar 0) wNil))) (gN 8) wYes (wA (oA1 (oR1 dInt)) (wCons (w2 (oR2 (dIn false)) (wVar 8) (wVar 1)) wNil)) [8]))
  (wSeq (wSetF 4 (wC (.int 0)))
  (wSeq (wSetF 5 (wC (.int 1)))
  (wSeq (wWhile (wB (w2 (oR2 (dEq true)) (wVar 4) (wVar 5))) (wSeq (wSet 6 (wNewN P w))
  (wSeq (wSet 7 (wLst wNil))
  (wSeq (wFor (iR1 (wA (oA1 (oR1 dLen)) (wCons (wVar 0) wNil))) (gN 8) (wSeq (wSetF 9 (wLc (iL (wA (oA1 (oL1 dSort)) (wCons (w2 oIxH (wVar 0) (wVar 8)) wNil))) (gN 11) (wB (w2 (oR2 (dIn false)) (w2 oIxH (w2 oIxH (wVar 0) (wVar 8)) (wVar 11)) (wVar 2))) (wTup (wCons (wVar 11) (wCons (w2 oIxH (wVar 3) (w2 oIxH (w2 oIxH (wVar 0) (wVar 8)) (wVar 11))) wNil))) [11]))
  (wSeq (wSetF 10 (wTup (wCons (w2 oIxH (wVar 3) (wVar 8)) (wCons (wA (oA1 (oR1 dTup)) (wCons (wVar 9) wNil)) wNil))))
  (wSeq (wIfS (wB (wInN P w true (wVar 10) 6)) (wPutN P w 6 (wLenN P w 6) (wVar 10)) wNext)
  (wApp 7 (wIxN P w 6 (wVar 10)))))))
  (wSeq (wSetF 4 (wVar 5))
  (wSeq (wSetF 5 (wLenN P w 6))
  (wSetF 3 (wTake 7))))))))
  (wRet (wVar 3))))))
-- least_rooms: 0 rooms, 1 ends, 2 live, 3 kinds, 4 places, 5 order, 6 found, 7 steps, 8 index, 9 deed, 10 behind, 11 at
def w_least_rooms : WS := (wSeq (wSetF 2 (wA (oFn 2 o_live_rooms) (wCons (wVar 0) (wCons (wVar 1) wNil))))
  (wSeq (wSetF 3 (wA (oFn 3 o_room_kinds) (wCons (wVar 0) (wCons (wVar 1) (wCons (wVar 2) wNil)))))
  (wSeq (wSet 4 (wDisp1 (w2 oIxH (wVar 3) (wC (.int 0))) (wC (.int 0))))
  (wSeq (wSet 5 (wLst (wCons (wC (.int 0)) wNil)))
  (wSeq (wSet 6 (wLst wNil))
  (wSeq (wWhile (wViewT (wB (w2 oLt (wA (oA1 (oR1 dLen)) (wCons (wVar 6) wNil)) (wA (oA1 (oR1 dLen)) (wCons (wVar 5) wNil))))) (wSeq (wSet 7 (wLst wNil))
  (wSeq (wSetF 8 (wView (w2 oIxH (wVar 5) (wA (oA1 (oR1 dLen)) (wCons (wVar 6) wNil)))))
  (wSeq (wFor (iL (wA (oA1 (oL1 dSort)) (wCons (w2 oIxH (wVar 0) (wVar 8)) wNil))) (gN 9) (wSeq (wSetF 10 (w2 oIxH (w2 oIxH (wVar 0) (wVar 8)) (wVar 9)))
  (wIfS (wB (w2 (oR2 (dIn false)) (wVar 10) (wVar 2))) (wSeq (wIfS (wViewT (wB (w2 (oR2 (dIn true)) (w2 oIxH (wVar 3) (wVar 10)) (wVar 4)))) (wSeq (wPut 4 (wView (wA (oA1 (oR1 dLen)) (wCons (wVar 5) wNil))) (w2 oIxH (wVar 3) (wVar 10)))
  (wApp 5 (wVar 10))) wNext)
  (wApp 7 (wTup (wCons (wVar 9) (wCons (wView (w2 oIxH (wVar 4) (w2 oIxH (wVar 3) (wVar 10)))) wNil))))) wNext)))
  (wApp 6 (wA (oA1 (oR1 dTup)) (wCons (wTake 7) wNil)))))))
  (wRet (wTup (wCons (wA (oA1 (oR1 dTup)) (wCons (wTake 6) wNil)) (wCons (wA (oA1 (oR1 dTup)) (wCons (wLc (iR1 (wView (wA (oA1 (oR1 dLen)) (wCons (wVar 5) wNil)))) (gN 11) (wViewT (wB (w2 (oR2 (dIn false)) (w2 oIxH (wVar 5) (wVar 11)) (wVar 1)))) (wVar 11) [11]) wNil)) wNil))))))))))
-- room_behind: 0 rooms, 1 index, 2 deed, 3 known, 4 behind
def w_room_behind : WS := (wSeq (wIfS (wB (w2 (oR2 (dIsN false)) (wVar 1) (wC .non))) (wRet (wC .non)) wNext)
  (wSeq (wFor (iT (w2 oIxH (wVar 0) (wVar 1))) (gT [(gN 3), (gN 4)]) (wIfS (wB (w2 (oR2 (dEq false)) (wVar 3) (wVar 2))) (wRet (wVar 4)) wNext))
  (wRet (wC .non))))
-- Rule.__init__: 0 self, 1 rooms, 2 ends, 3 least, 4 least_ends
def w_init (C_Rule : Addr) : WS := (wSeq (wDrop (wA (oFn 2 o_check_rooms) (wCons (wVar 1) (wCons (wVar 2) wNil))))
  (wSeq (wAsg (wA (oFn 2 o_least_rooms) (wCons (wVar 1) (wCons (wVar 2) wNil))) (gT [(gN 3), (gN 4)]))
  (wSeq (wFPut 0 C_Rule "kept_rooms" (wVar 3))
  (wFPut 0 C_Rule "kept_ends" (wVar 4)))))
-- Rule.has: 0 self, 1 day, 2 index, 3 deed
def w_has (C_Rule : Addr) : WS := (wSeq (wSetF 2 (wC (.int 0)))
  (wSeq (wFor (iL (wVar 1)) (gN 3) (wSetF 2 (wA (oFn 3 o_room_behind) (wCons (wFz (w1 (oFld C_Rule "kept_rooms") (wVar 0))) (wCons (wVar 2) (wCons (wVar 3) wNil))))))
  (wRet (w2 (oR2 (dIn false)) (wVar 2) (w1 (oFld C_Rule "kept_ends") (wVar 0))))))
end Pg
set_option Elab.async false
set_option linter.all false
set_option maxRecDepth 100000
set_option maxHeartbeats 1000000
/-! S2: the smaller defs keep their promises. -/
namespace Pg
open PySem PySem.Spec PyProof.Rows L2 VL
/-- the ends of a def's body -/
abbrev EV (P : T → Prop) (R : Exn → Prop) : WEnds := ⟨fun _ => P (.fz .non), fun t _ => P t, fun _ => False, fun _ => False, fun e _ => R e⟩
abbrev EI (P : T → T → Prop) (R : Exn → T → Prop) : WEnds := ⟨fun m => ∃ t0, look m 0 = some t0 ∧ P (.fz .non) t0, fun t m => ∃ t0, look m 0 = some t0 ∧ P t t0, fun _ => False, fun _ => False, fun e m => ∃ t0, look m 0 = some t0 ∧ R e t0⟩
theorem big_le {n : Nat} (h : n ≤ 1000000) : n ≤ sizeLine := by rw [sizeLine_eq]; omega
theorem big_lt {n : Nat} (h : n ≤ 1000000) : n < sizeLine := by rw [sizeLine_eq]; omega
theorem blsOf_map {α : Type} (f : α → Bool) : ∀ l : List α, blsOf (l.map fun c => .bl (f c)) = some (l.map f)
  | [] => rfl
  | a :: l => by simp [blsOf, blsOf_map f l]
theorem filterMap_some {α β : Type} {l : List α} {f : α → β} : l.filterMap (fun x => some (f x)) = l.map f := by
  induction l with
  | nil => rfl
  | cons a l ih => simp [List.filterMap_cons, ih]
theorem sp_is_name (xs : List T) (P : T → Prop) (R : Exn → Prop) (hn : xs.length = 1) (h : o_is_name xs P R) : w_is_name (VL.startT 2 xs) (EV P R) := by
  obtain ⟨z, rfl, hz, h⟩ := h
  have hz' := big_le hz
  simp [w_is_name, dLen, hz']
  unfold isName at h
  cases e1 : decide (1 ≤ (z.length : Int)) with
  | false =>
    have : ¬ 1 ≤ z.length := by simp at e1; omega
    simpa [this] using h
  | true =>
    have h1 : 1 ≤ z.length := by simp at e1; omega
    cases e2 : decide ((z.length : Int) ≤ 8) with
    | false =>
      have : ¬ z.length ≤ 8 := by simp at e2; omega
      simpa [h1, this] using h
    | true =>
      have h2 : z.length ≤ 8 := by simp at e2; omega
      simp
      unfold chD
      refine lcL_map (ms := fun c => [some (.fz (.str z)), some (.fz (.str ⟨#[c]⟩))]) (f := fun c => some (.fz (.bl (decide (c ∈ letters.cps.toList))))) (fun d => rfl) (fun c hc K1 K2 h => ?_) ?_ ?_
      · simpa [dIn, letters] using h
      · have : z.cps.toList.length = z.length := by simp [Str.length]
        simp only [List.length_nil]
        omega
      · simp only [List.nil_append, filterMap_some, List.map_map, Function.comp_def, T.er]
        simp only [dAll, blsOf_map]
        have : (List.map (fun c => decide (c ∈ letters.cps.toList)) z.cps.toList).all id = z.cps.toList.all fun c => decide (c ∈ letters.cps.toList) := by
          rw [List.all_map]
          rfl
        rw [this]
        simpa [h1, h2] using h
theorem eq_str {neg : Bool} {a b : Str} (ha : PyData.strOk a = true) (hb : PyData.strOk b = true) : dEq neg (.str a) (.str b) = some (.bl (if neg then !decide (a = b) else decide (a = b))) := by
  have e : (a == b) = decide (a = b) := by
    by_cases q : a = b <;> simp [q]
  unfold dEq
  simp only [pyD]
  have s1 : ∀ z : Str, PyData.strOk z = true → SeqAt.shaped (PyData.str z) = true := fun z h => by simp [SeqAt.shaped, PyData.canLay0, PyData.depth, h]
  simp [s1 _ ha, s1 _ hb, PyData.eqv, e]
theorem eq_int {neg : Bool} {a b : Int} : dEq neg (.int a) (.int b) = some (.bl (if neg then !decide (a = b) else decide (a = b))) := by
  have e : (a == b) = decide (a = b) := by
    by_cases q : a = b <;> simp [q]
  unfold dEq
  simp only [pyD]
  have s1 : ∀ z : Int, SeqAt.shaped (PyData.int z) = true := fun z => by simp [SeqAt.shaped, PyData.canLay0, PyData.depth]
  simp [s1, PyData.eqv, e]
@[simp] theorem isN_int {neg : Bool} {i : Int} : dIsN neg (.int i) .non = some (.bl neg) := by cases neg <;> rfl
@[simp] theorem isN_non {neg : Bool} : dIsN neg .non .non = some (.bl (!neg)) := by cases neg <;> rfl
/-! ### rooms as data -/
theorem strsOf_map : ∀ l : List Str, strsOf (l.map D.str) = some l
  | [] => rfl
  | a :: l => by simp [strsOf, strsOf_map l]
theorem kstrs_map : ∀ r : Room1, kstrs (r.map fun p => .inr p.1) = some (r.map (·.1))
  | [] => rfl
  | a :: l => by simp [kstrs, kstrs_map l]
theorem look_room {d : Str} : ∀ {r : Room1}, lookK (r.map fun p => .inr p.1) (r.map fun p => D.int (p.2 : Nat)) (.inr d) = (r.lookup d).map fun j => D.int (j : Nat)
  | [] => rfl
  | p :: r => by
    obtain ⟨a, b⟩ := p
    simp only [List.map_cons, lookK, List.lookup_cons]
    by_cases e : a = d
    · subst e
      simp
    · have e2 : ¬ (Sum.inr a : Key) = .inr d := fun z => e (by injection z)
      have e3 : (d == a) = false := by simpa using fun z : d = a => e z.symm
      rw [if_neg e2, e3]
      exact look_room
theorem lookup_mem {d : Str} {j : Nat} : ∀ {r : Room1}, r.lookup d = some j → (d, j) ∈ r
  | [], h => by cases h
  | (a, b) :: r, h => by
    rw [List.lookup_cons] at h
    by_cases e : d = a
    · subst e
      simp at h
      subst h
      exact List.mem_cons_self
    · have e3 : (d == a) = false := by simpa using e
      rw [e3] at h
      exact List.mem_cons_of_mem _ (lookup_mem h)
theorem lookup_some {d : Str} : ∀ {r : Room1}, d ∈ r.map (·.1) → ∃ j, r.lookup d = some j
  | [], h => by cases h
  | (a, b) :: r, h => by
    rw [List.lookup_cons]
    by_cases e : d = a
    · subst e
      exact ⟨b, by simp⟩
    · have e3 : (d == a) = false := by simpa using e
      rw [e3]
      refine lookup_some ?_
      simp only [List.map_cons, List.mem_cons] at h
      exact h.resolve_left e
@[simp] theorem ix_rooms {rs : RM} {i : Nat} (h : i < rs.length) : dIx (eRooms rs) (.int (i : Nat)) = some (eRoom rs[i]) := by
  unfold eRooms dIx
  simp only
  rw [atI_nat (by simpa using h)]
  simp
@[simp] theorem ix_room {r : Room1} {d : Str} : dIx (eRoom r) (.str d) = (r.lookup d).map fun j => D.int (j : Nat) := by
  unfold eRoom dIx
  simp only [keyD]
  exact look_room
@[simp] theorem len_rooms {rs : RM} : dLen (eRooms rs) = some (.int (rs.length : Nat)) := by simp [dLen, eRooms]
theorem sort_room {r : Room1} (h : r.length < 64) : dSort (eRoom r) = some (eStrs (sS (r.map (·.1)))) := by
  unfold eRoom dSort
  simp only [kstrs_map]
  rw [if_pos (by simpa using h)]
  rfl
theorem mem_sS {x : Str} {l : List Str} : x ∈ sS l ↔ x ∈ l := by
  unfold sS
  exact List.mem_mergeSort
theorem len_sS {l : List Str} : (sS l).length = l.length := by
  unfold sS
  exact List.length_mergeSort l
theorem isName_len {z : Str} (h : isName z = true) : z.length ≤ 8 := by
  unfold isName at h
  simp at h
  exact h.2.1
theorem sp_check_rooms (xs : List T) (P : T → Prop) (R : Exn → Prop) (hn : xs.length = 2) (h : o_check_rooms xs P R) : w_check_rooms (VL.startT 4 xs) (EV P R) := by
  obtain ⟨rs, es, rfl, gd, h⟩ := h
  have sm := gd.small
  simp [w_check_rooms]
  refine ⟨by omega, ?_⟩
  refine forL_at (fun k m => ∃ o1 o2, m = [some (.fz (eRooms rs)), some (.fz (.lst (eInts es))), o1, o2]) ?_ ?_ ⟨_, _, rfl⟩
  · rintro k hk m ⟨o1, o2, rfl⟩ E' h1 h2 h3 h4 h5
    rw [rngD_at hk]
    rw [rngD_len] at hk
    have hm := List.getElem_mem hk
    obtain ⟨g1, g2, g3⟩ := gd.room _ hm
    simp [ix_rooms hk, sort_room g1]
    refine forL_at (fun k' m => ∃ o2, m = [some (.fz (eRooms rs)), some (.fz (.lst (eInts es))), some (.fz (.int (k : Nat))), o2]) ?_ ?_ ⟨_, rfl⟩
    · rintro k' hk' m ⟨o2, rfl⟩ E2 h1' _ _ _ _
      simp only [List.getElem_map, eStrs]
      have hk2 : k' < (sS (rs[k].map (·.1))).length := by simpa [eStrs] using hk'
      have hd := mem_sS.mp (List.getElem_mem hk2)
      generalize (sS (rs[k].map (·.1)))[k'] = d at hd ⊢
      obtain ⟨j, ej⟩ := lookup_some hd
      obtain ⟨n1, n2⟩ := g3 _ (lookup_mem ej)
      have dl : d.length ≤ 8 := isName_len n1
      simp [ix_rooms hk]
      refine ⟨d, rfl, by omega, ?_⟩
      rw [n1]
      simp [ix_rooms hk, ej]
      have : decide ((j : Int) < rs.length) = true := by simpa using n2
      simp [n2]
      exact h1' _ ⟨_, rfl⟩
    · rintro m ⟨o2, rfl⟩
      exact h1 _ ⟨_, _, rfl⟩
  · rintro m ⟨o1, o2, rfl⟩
    simp
    refine forL_at (fun k m => ∃ o1, m = [some (.fz (eRooms rs)), some (.fz (.lst (eInts es))), o1, o2]) ?_ ?_ ⟨_, rfl⟩
    · rintro k hk m ⟨o1, rfl⟩ E' h1 h2 h3 h4 h5
      have hk' : k < es.length := by simpa using hk
      have he := gd.ends _ (List.getElem_mem hk')
      simp [eInts, he]
      exact h1 _ ⟨_, rfl⟩
    · rintro m ⟨o1, rfl⟩
      exact h
theorem stepR_at {rs : RM} {i : Nat} {d : Str} (h : i < rs.length) : stepR rs i d = rs[i].lookup d := by
  unfold stepR
  rw [List.getElem?_eq_getElem h]
theorem sp_room_behind (xs : List T) (P : T → Prop) (R : Exn → Prop) (hn : xs.length = 3) (h : o_room_behind xs P R) : w_room_behind (VL.startT 5 xs) (EV P R) := by
  obtain ⟨lr, i, d, rfl, hi, hs, hd, h⟩ := h
  cases i with
  | none =>
    simp [w_room_behind, oInt]
    exact h
  | some i =>
    have hi := hi i rfl
    simp [w_room_behind, oInt, eLeast, dIx]
    rw [atI_nat (by simpa using hi)]
    simp
    simp only [Option.bind_some, stepR_at hi] at h
    refine forL_inv (fun rest m => ∃ (r : Room1) (o1 o2 : Option T), rest = r.map (fun p => .tup [.str p.1, .int (p.2 : Nat)]) ∧ (∀ p ∈ r, PyData.strOk p.1 = true) ∧ P (.fz (oInt (r.lookup d))) ∧ m = [some (.fz (eLeast lr)), some (.fz (.int (i : Nat))), some (.fz (.str d)), o1, o2]) ?_ ?_ ⟨lr[i], _, _, rfl, hs _ (List.getElem_mem hi), h, rfl⟩
    · rintro x rest m ⟨r, o1, o2, e, hr, hp, rfl⟩ E' h1 h2 h3 h4 h5
      cases r with
      | nil => cases e
      | cons p r =>
        simp only [List.map_cons] at e
        injection e with e1 e2
        subst e1 e2
        rw [List.lookup_cons] at hp
        simp [eq_str (hr p List.mem_cons_self) hd]
        by_cases q : p.1 = d
        · rw [q] at hp
          simp at hp
          simp [q]
          exact h4 _ _ hp
        · have q2 : (d == p.1) = false := by simpa using fun z : d = p.1 => q z.symm
          rw [q2] at hp
          simp [q]
          exact h1 _ ⟨r, _, _, rfl, fun q hq => hr q (List.mem_cons_of_mem _ hq), hp, rfl⟩
    · rintro m ⟨r, o1, o2, e, hr, hp, rfl⟩
      cases r with
      | nil => exact hp
      | cons p r => cases e
@[simp] theorem fld_rooms {α : Type} {a b : α} : lookF ["kept_rooms", "kept_ends"] [a, b] "kept_rooms" = some a := rfl
@[simp] theorem fld_ends {α : Type} {a b : α} : lookF ["kept_rooms", "kept_ends"] [a, b] "kept_ends" = some b := rfl
theorem sp_has (C : Addr) (xs : List T) (P : T → Prop) (R : Exn → Prop) (hn : xs.length = 2) (h : o_has C xs P R) : w_has C (VL.startT 4 xs) (EV P R) := by
  obtain ⟨lr, le, w, rfl, wf, hw, h⟩ := h
  simp [w_has, eStrs]
  refine forL_inv (fun rest m => ∃ (v : List Str) (i : Option Nat) (o1 : Option T), rest = v.map D.str ∧ (∀ d ∈ v, PyData.strOk d = true) ∧ P (.fz (.bl (match i with | some i => acc lr le i v | none => false))) ∧ (∀ k, i = some k → k < lr.length) ∧ m = [some (.fz (eRule C lr le)), some (.fz (.lst (eStrs w))), some (.fz (oInt i)), o1]) ?_ ?_ ?_
  · rintro x rest m ⟨v, i, o1, e, hv, hp, hi, rfl⟩ E' h1 h2 h3 h4 h5
    cases v with
    | nil => cases e
    | cons d v =>
      simp only [List.map_cons] at e
      injection e with e1 e2
      subst e1 e2
      simp [eRule]
      refine ⟨lr, i, d, rfl, hi, wf.names, hv d List.mem_cons_self, ?_⟩
      have hv' : ∀ d ∈ v, PyData.strOk d = true := fun q hq => hv q (List.mem_cons_of_mem _ hq)
      cases i with
      | none =>
        exact h1 _ ⟨v, none, _, rfl, hv', hp, fun k z => by simp at z, rfl⟩
      | some i =>
        have hi := hi i rfl
        simp only [Option.bind_some] at hp ⊢
        simp only [acc] at hp
        refine h1 _ ⟨v, stepR lr i d, _, rfl, hv', ?_, fun k z => ?_, rfl⟩
        · cases q : stepR lr i d with
          | none => simpa [q] using hp
          | some j => simpa [q] using hp
        · rw [stepR_at hi] at z
          exact wf.steps _ (List.getElem_mem hi) _ (lookup_mem z)
  · rintro m ⟨v, i, o1, e, hv, hp, hi, rfl⟩
    cases v with
    | cons d v => cases e
    | nil =>
      cases i with
      | none =>
        simp [eRule, eEnds, oInt]
        have : dIn false .non (.tup (eInts le)) = some (.bl false) := by
          unfold dIn
          simp only
          rw [eInts_eq, flat_ints]
          have : inD .non (List.map (D.int ∘ fun (n : Nat) => (n : Int)) le) = false := by
            unfold inD
            rw [List.any_eq_false]
            intro x hx
            obtain ⟨z, _, rfl⟩ := List.mem_map.mp hx
            simp [eqD]
          simp [flatD, this]
        rw [this]
        exact hp
      | some i =>
        simp [eRule, eEnds, oInt, dIn_natT]
        simpa [acc] using hp
  · exact ⟨w, some 0, _, rfl, hw, h, fun k z => by injection z with z; subst z; exact wf.pos, rfl⟩
theorem sp_init (C : Addr) (xs : List T) (P : T → T → Prop) (R : Exn → T → Prop) (hn : xs.length = 3) (h : o_init C xs P R) : w_init C (VL.startT 5 xs) (EI P R) := by
  obtain ⟨rs, es, rfl, gd, h⟩ := h
  simp [w_init]
  refine ⟨rs, es, rfl, gd, rs, es, rfl, gd, fun lr le hl => ?_⟩
  simp [putLF]
  exact h lr le hl
end Pg
set_option Elab.async false
set_option linter.all false
set_option maxRecDepth 100000
set_option maxHeartbeats 1000000
/-! S3: live_rooms. -/
namespace Pg
open PySem PySem.Spec PyProof.Rows L2 VL
theorem lookup_nodup : ∀ {r : Room1} {p : Str × Nat}, (r.map (·.1)).Nodup → p ∈ r → r.lookup p.1 = some p.2
  | [], p, h, hp => by cases hp
  | (a, b) :: r, p, h, hp => by
    simp only [List.map_cons, List.nodup_cons] at h
    rw [List.lookup_cons]
    rcases List.mem_cons.mp hp with e | hp
    · subst e
      simp
    · have : ¬ p.1 = a := fun e => h.1 (e ▸ List.mem_map_of_mem hp)
      have e3 : (p.1 == a) = false := by simpa using this
      rw [e3]
      exact lookup_nodup h.2 hp
theorem memK_kI {S : List Nat} {i : Nat} : memK (kI S) (.inl (i : Int)) = decide (i ∈ S) := by
  have : ∀ b : Bool, (b = true ↔ i ∈ S) → b = decide (i ∈ S) := fun b h => by
    cases b with
    | true => exact (decide_eq_true (h.mp rfl)).symm
    | false => exact (decide_eq_false fun z => Bool.false_ne_true (h.mpr z)).symm
  apply this
  rw [memK_iff]
  unfold kI
  rw [List.mem_map]
  refine ⟨fun ⟨a, h, e⟩ => ?_, fun h => ⟨i, h, rfl⟩⟩
  have : (a : Int) = i := by injection e
  have : a = i := by omega
  exact this ▸ h
def insN (S : List Nat) (i : Nat) : List Nat := if i ∈ S then S else S ++ [i]
theorem set_const {α β : Type} {t : β} : ∀ {l : List α} {k : Nat}, (l.map fun _ => t).set k t = l.map fun _ => t
  | [], k => by simp
  | a :: l, 0 => by simp
  | a :: l, k + 1 => by simp [set_const]
theorem putL_kI {β : Type} {S : List Nat} {i : Nat} {t : β} : putL (kI S) (S.map fun _ => t) (.inl (i : Int)) t = (kI (insN S i), (insN S i).map fun _ => t) := by
  unfold putL insN
  rw [memK_kI]
  by_cases h : i ∈ S
  · rw [if_pos (by simpa using h), if_pos h, set_const]
  · rw [if_neg (by simpa using h), if_neg h]
    simp [kI]
theorem kI_len {S : List Nat} : (kI S).length = S.length := by simp [kI]
theorem acc_lt {rs : RM} {es : List Nat} (g : Good rs es) {i : Nat} {w : List Str} (h : acc rs es i w = true) : i < rs.length := by
  cases w with
  | nil =>
    simp [acc] at h
    exact g.ends i h
  | cons d w =>
    simp only [acc] at h
    unfold stepR at h
    by_cases q : i < rs.length
    · exact q
    · rw [List.getElem?_eq_none (by omega)] at h
      simp at h
/-- a step into S -/
def predS (r : Room1) (S : List Nat) : Bool := r.any fun p => decide (p.2 ∈ S)
theorem pred_live {rs : RM} {es S : List Nat} (g : Good rs es) {k : Nat} (hk : k < rs.length) (hS : ∀ i ∈ S, live rs es i) (h : predS rs[k] S = true) : live rs es k := by
  unfold predS at h
  rw [List.any_eq_true] at h
  obtain ⟨p, hp, e⟩ := h
  obtain ⟨w, hw⟩ := hS p.2 (by simpa using e)
  refine ⟨p.1 :: w, ?_⟩
  simp only [acc, stepR_at hk, lookup_nodup (g.room _ (List.getElem_mem hk)).2.1 hp]
  exact hw
def closedS (rs : RM) (S : List Nat) : Prop := ∀ i (h : i < rs.length), predS rs[i] S = true → i ∈ S
theorem live_closed {rs : RM} {es S : List Nat} (he : ∀ e ∈ es, e ∈ S) (hc : closedS rs S) : ∀ {w : List Str} {i : Nat}, acc rs es i w = true → i ∈ S
  | [], i, h => by
    simp [acc] at h
    exact he i h
  | d :: w, i, h => by
    simp only [acc] at h
    cases q : stepR rs i d with
    | none => rw [q] at h; cases h
    | some j =>
      rw [q] at h
      have hj := live_closed he hc h
      unfold stepR at q
      by_cases hi : i < rs.length
      · rw [List.getElem?_eq_getElem hi] at q
        refine hc i hi ?_
        unfold predS
        rw [List.any_eq_true]
        exact ⟨(d, j), lookup_mem q, by simpa using hj⟩
      · rw [List.getElem?_eq_none (by omega)] at q
        cases q
theorem nodup_le {S : List Nat} {n : Nat} (h : S.Nodup) (b : ∀ i ∈ S, i < n) : S.length ≤ n := by
  have := List.Nodup.length_le_of_subset h (l₂ := List.range n) fun i hi => List.mem_range.mpr (b i hi)
  simpa using this
theorem insN_nodup {S : List Nat} {i : Nat} (h : S.Nodup) : (insN S i).Nodup := by
  unfold insN
  split
  · exact h
  · rename_i q
    rw [List.nodup_append]
    exact ⟨h, by simp, fun a ha b hb => by
      simp at hb
      subst hb
      exact fun e => q (e ▸ ha)⟩
theorem mem_insN {S : List Nat} {i j : Nat} : j ∈ insN S i ↔ j ∈ S ∨ j = i := by
  unfold insN
  split
  · rename_i q
    exact ⟨.inl, fun h => h.elim id fun e => e ▸ q⟩
  · simp
abbrev eFound (S : List Nat) : T := .od (kI S) (S.map fun _ => .fz (.bl true))
theorem in_found {S : List Nat} {l : List D} {i : Nat} : dIn false (.int (i : Nat)) (.dct (kI S) l) = some (.bl (decide (i ∈ S))) := by
  unfold dIn
  simp [keyD, memK_kI]
@[simp] theorem len_found {S : List Nat} {l : List D} : dLen (.dct (kI S) l) = some (.int (S.length : Nat)) := by simp [dLen, kI_len]
theorem pIx_rooms {pa pb : Tau → Option D} {m : Tau} {rs : RM} {k : Nat} (ha : pa m = some (eRooms rs)) (hb : pb m = some (.int (k : Nat))) (hk : k < rs.length) : pIx pa pb m = some (eRoom rs[k]) := by
  unfold pIx
  rw [ha, hb]
  unfold eRooms
  simp only
  rw [atI_nat (by simpa using hk)]
  simp
/-- what holds ahead of each turn of the outer loop -/
def liveW (rs : RM) (es : List Nat) (n : Nat) (m : Tau) : Prop := ∃ (S : List Nat) (many : Nat) (o3 o5 : Option T), m = [some (.fz (eRooms rs)), some (.fz (.lst (eInts es))), some (eFound S), o3, some (.fz (.int (many : Nat))), o5] ∧ n = rs.length - many ∧
  S.Nodup ∧ (∀ i ∈ S, live rs es i) ∧ (∀ e ∈ es, e ∈ S) ∧ many ≤ S.length ∧ (many = S.length → closedS rs S)
def liveI (rs : RM) (es S : List Nat) (k : Nat) (m : Tau) : Prop := ∃ (S' : List Nat) (o3 o5 : Option T), m = [some (.fz (eRooms rs)), some (.fz (.lst (eInts es))), some (eFound S'), o3, some (.fz (.int (S.length : Nat))), o5] ∧ S'.Nodup ∧ (∀ i ∈ S', live rs es i) ∧ (∀ e ∈ es, e ∈ S') ∧
  S.length ≤ S'.length ∧ (S'.length = S.length → S' = S ∧ ∀ i (h : i < rs.length), i < k → predS rs[i] S = true → i ∈ S)
theorem any_look {r : Room1} {S : List Nat} (h : (r.map (·.1)).Nodup) : (r.any fun p => decide ((r.lookup p.1).getD 0 ∈ S)) = predS r S := by
  unfold predS
  have : ∀ l : Room1, (∀ p ∈ l, p ∈ r) → (l.any fun p => decide ((r.lookup p.1).getD 0 ∈ S)) = l.any fun p => decide (p.2 ∈ S) := by
    intro l
    induction l with
    | nil => intro _; rfl
    | cons a l ih =>
      intro hl
      simp only [List.any_cons]
      rw [ih fun p hp => hl p (List.mem_cons_of_mem _ hp), lookup_nodup h (hl a List.mem_cons_self)]
      rfl
  exact this r fun p hp => hp
theorem sp_live_rooms (xs : List T) (P : T → Prop) (R : Exn → Prop) (hn : xs.length = 2) (h : o_live_rooms xs P R) : w_live_rooms (VL.startT 6 xs) (EV P R) := by
  obtain ⟨rs, es, rfl, gd, h⟩ := h
  have sm := gd.small
  have fit : ∀ {S : List Nat}, S.Nodup → (∀ i ∈ S, live rs es i) → S.length ≤ rs.length := fun hn hl => nodup_le hn fun i hi => (hl i hi).elim fun w hw => acc_lt gd hw
  simp [w_live_rooms]
  refine forL_at (fun k m => ∃ S o3, m = [some (.fz (eRooms rs)), some (.fz (.lst (eInts es))), some (eFound S), o3, none, none] ∧ S.Nodup ∧ (∀ i ∈ S, i ∈ es) ∧ ∀ e, e ∈ es.take k → e ∈ S) ?_ ?_ ⟨[], _, rfl, List.nodup_nil, fun i hi => (List.not_mem_nil hi).elim, fun e he => by simp at he⟩
  · rintro k hk m ⟨S, o3, rfl, s1, s2, s3⟩ E' h1 h2 h3 h4 h5
    have hk' : k < es.length := by simpa using hk
    have hlen : S.length ≤ rs.length := fit s1 fun i hi => ⟨[], by simpa [acc] using s2 i hi⟩
    simp [eInts, keyD]
    refine ⟨by rw [kI_len]; exact big_lt (by omega), ?_⟩
    rw [putL_kI]
    refine h1 _ ⟨insN S es[k], _, rfl, insN_nodup s1, fun i hi => ?_, fun e he => ?_⟩
    · rcases mem_insN.mp hi with hi | rfl
      · exact s2 i hi
      · exact List.getElem_mem hk'
    · rw [List.take_succ_eq_append_getElem hk', List.mem_append] at he
      rcases he with he | he
      · exact mem_insN.mpr (.inl (s3 e he))
      · simp at he
        exact mem_insN.mpr (.inr he)
  · rintro m ⟨S, o3, rfl, s1, s2, s3⟩
    simp
    refine ⟨liveW rs es, ⟨_, S, 0, _, _, rfl, rfl, s1, fun i hi => ⟨[], by simpa [acc] using s2 i hi⟩, fun e he => s3 e (by simpa using he), Nat.zero_le _, fun e i hi hp => ?_⟩, ?_⟩
    · have : S = [] := List.eq_nil_of_length_eq_zero e.symm
      subst this
      simp [predS] at hp
    · rintro n m ⟨S, many, o3, o5, rfl, rfl, s1, s2, s3, s4, s5⟩
      have hlen := fit s1 s2
      simp
      by_cases q : many < S.length
      · have q' : (many : Int) < S.length := by omega
        simp [q]
        refine ⟨by omega, ?_⟩
        refine forL_at (liveI rs es S) ?_ ?_ ⟨S, _, _, rfl, s1, s2, s3, Nat.le_refl _, fun _ => ⟨rfl, fun i h z => absurd z (Nat.not_lt_zero _)⟩⟩
        · rintro k hk m ⟨S', o3, o5, rfl, t1, t2, t3, t4, t5⟩ E' h1 h2 h3 h4 h5
          rw [rngD_at hk]
          rw [rngD_len] at hk
          have hlen' := fit t1 t2
          obtain ⟨g1, g2, g3⟩ := gd.room _ (List.getElem_mem hk)
          simp
          rw [pIx_rooms (rs := rs) (k := k) rfl rfl hk]
          unfold eRoom
          simp only [List.map_map]
          refine lcL_map (e := (kD ∘ fun p : Str × Nat => Sum.inr p.1)) (ms := fun p => [some (.fz (eRooms rs)), some (.fz (.lst (eInts es))), some (.fz (.dct (kI S') (S'.map fun _ => .bl true))), some (.fz (.int (k : Nat))), some (.fz (.int (S.length : Nat))), some (.fz (.str p.1))])
            (f := fun p => some (.fz (.bl (decide ((rs[k].lookup p.1).getD 0 ∈ S'))))) (fun p => rfl) (fun p hp K1 K2 h => ?_) ?_ ?_
          · simp [kD, ix_rooms hk, lookup_nodup g2 hp, in_found]
            simpa [lookup_nodup g2 hp] using h
          · simp only [List.length_nil]
            exact big_le (by omega)
          · simp only [List.nil_append, filterMap_some, List.map_map, Function.comp_def, T.er]
            simp only [dAny, blsOf_map]
            have e : (List.map (fun p => decide ((rs[k].lookup p.1).getD 0 ∈ S')) rs[k]).any id = predS rs[k] S' := by
              rw [List.any_map]
              exact any_look g2
            rw [e]
            cases pq : predS rs[k] S' with
            | true =>
              simp [keyD]
              refine ⟨by rw [kI_len]; exact big_lt (by omega), ?_⟩
              rw [putL_kI]
              refine h1 _ ⟨insN S' k, _, _, rfl, insN_nodup t1, fun i hi => ?_, fun e he => mem_insN.mpr (.inl (t3 e he)), ?_, fun el => ?_⟩
              · rcases mem_insN.mp hi with hi | rfl
                · exact t2 i hi
                · exact pred_live gd hk t2 pq
              · unfold insN
                split
                · exact t4
                · simp; omega
              · unfold insN at el ⊢
                by_cases z : k ∈ S'
                · rw [if_pos z] at el ⊢
                  obtain ⟨e1, e2⟩ := t5 el
                  refine ⟨e1, fun i hi hik hp => ?_⟩
                  by_cases zz : i = k
                  · subst zz
                    exact e1 ▸ z
                  · exact e2 i hi (by omega) hp
                · rw [if_neg z] at el
                  simp at el
                  omega
            | false =>
              simp
              refine h1 _ ⟨S', _, _, rfl, t1, t2, t3, t4, fun el => ?_⟩
              obtain ⟨e1, e2⟩ := t5 el
              refine ⟨e1, fun i hi hik hp => ?_⟩
              by_cases zz : i = k
              · subst zz
                rw [e1] at pq
                rw [pq] at hp
                cases hp
              · exact e2 i hi (by omega) hp
        · rintro m ⟨S', o3, o5, rfl, t1, t2, t3, t4, t5⟩
          refine ⟨rs.length - S.length, by omega, S', S.length, _, _, rfl, rfl, t1, t2, t3, t4, fun e i hi hp => ?_⟩
          obtain ⟨e1, e2⟩ := t5 e.symm
          subst e1
          exact e2 i hi (by rw [rngD_len]; exact hi) hp
      · have q' : ¬ (many : Int) < S.length := by omega
        simp [q]
        refine h S s1 fun k => ⟨fun hk => s2 k hk, fun ⟨w, hw⟩ => live_closed s3 (s5 (by omega)) hw⟩
end Pg
set_option Elab.async false
set_option linter.all false
set_option maxRecDepth 100000
set_option maxHeartbeats 1000000
/-! S3c: rules with the same days have the same least rooms. -/
namespace Pg
open PySem PySem.Spec PyProof.Rows L2 VL
theorem tgt_le : ∀ {r : List Nat} {n m : Nat}, tgt r n = some m → n ≤ m ∧ ∀ j ∈ r, j < m
  | [], n, m, h => by
    simp only [tgt, Option.some.injEq] at h
    exact ⟨by omega, fun j hj => (List.not_mem_nil hj).elim⟩
  | j :: r, n, m, h => by
    simp only [tgt] at h
    split at h
    · obtain ⟨a, b⟩ := tgt_le h
      exact ⟨a, fun i hi => by
        rcases List.mem_cons.mp hi with e | hi
        · omega
        · exact b i hi⟩
    · split at h
      · obtain ⟨a, b⟩ := tgt_le h
        exact ⟨by omega, fun i hi => by
          rcases List.mem_cons.mp hi with e | hi
          · omega
          · exact b i hi⟩
      · cases h
theorem tgt_app : ∀ {r s : List Nat} {n m : Nat}, tgt r n = some m → tgt (r ++ s) n = tgt s m
  | [], s, n, m, h => by
    simp only [tgt, Option.some.injEq] at h
    subst h
    rfl
  | j :: r, s, n, m, h => by
    simp only [tgt, List.cons_append] at h ⊢
    split at h
    · rename_i q
      rw [if_pos q]
      exact tgt_app h
    · rename_i q
      rw [if_neg q]
      split at h
      · rename_i q2
        rw [if_pos q2]
        exact tgt_app h
      · cases h
theorem bfs_le : ∀ {rs : RM} {k n m : Nat}, bfs rs k n = some m → n ≤ m ∧ ∀ r ∈ rs, ∀ p ∈ r, p.2 < m
  | [], k, n, m, h => by
    simp only [bfs, Option.some.injEq] at h
    exact ⟨by omega, fun j hj => (List.not_mem_nil hj).elim⟩
  | r :: rs, k, n, m, h => by
    simp only [bfs] at h
    split at h
    · split at h
      · rename_i n' e
        obtain ⟨a, b⟩ := bfs_le h
        obtain ⟨c, d⟩ := tgt_le e
        exact ⟨by omega, fun x hx p hp => by
          rcases List.mem_cons.mp hx with z | hx
          · subst z
            have := d p.2 (List.mem_map_of_mem hp)
            omega
          · exact b x hx p hp⟩
      · cases h
    · cases h
theorem bfs_app : ∀ {rs : RM} {k n m : Nat} {r : Room1}, bfs rs k n = some m → k + rs.length < m → bfs (rs ++ [r]) k n = tgt (r.map (·.2)) m
  | [], k, n, m, r, h, l => by
    simp only [bfs, Option.some.injEq] at h
    subst h
    simp only [List.nil_append, bfs, List.length_nil, Nat.add_zero] at l ⊢
    rw [if_pos l]
    split
    · rename_i e
      exact e.symm
    · rename_i e
      exact e.symm
  | a :: rs, k, n, m, r, h, l => by
    simp only [bfs, List.cons_append] at h ⊢
    split at h
    · rename_i q
      rw [if_pos q]
      split at h
      · rename_i n' e
        simp only [List.length_cons] at l
        exact bfs_app h (by omega)
      · cases h
    · cases h
theorem Canon.pos {lr : RM} {le : List Nat} (h : Canon lr le) : 0 < lr.length := (bfs_le h.num).1
theorem Canon.step {lr : RM} {le : List Nat} (h : Canon lr le) : ∀ r ∈ lr, ∀ p ∈ r, p.2 < lr.length := (bfs_le h.num).2
theorem sorted_one {α : Type} {le : α → α → Prop} (anti : ∀ a b, le a b → le b a → a = b) : ∀ {l l' : List α}, l.Pairwise le → l'.Pairwise le → l.Nodup → l'.Nodup → (∀ x, x ∈ l ↔ x ∈ l') → l = l'
  | [], [], _, _, _, _, _ => rfl
  | [], b :: l', _, _, _, _, h => absurd ((h b).mpr List.mem_cons_self) List.not_mem_nil
  | a :: l, [], _, _, _, _, h => absurd ((h a).mp List.mem_cons_self) List.not_mem_nil
  | a :: l, b :: l', p, p', n, n', h => by
    rw [List.pairwise_cons] at p p'
    rw [List.nodup_cons] at n n'
    have e : a = b := by
      rcases List.mem_cons.mp ((h a).mp List.mem_cons_self) with e | m
      · exact e
      · rcases List.mem_cons.mp ((h b).mpr List.mem_cons_self) with e | m'
        · exact e.symm
        · exact anti a b (p.1 b m') (p'.1 a m)
    subst e
    rw [sorted_one anti p.2 p'.2 n.2 n'.2 fun x => ⟨fun hx => ?_, fun hx => ?_⟩]
    · rcases List.mem_cons.mp ((h x).mp (List.mem_cons_of_mem _ hx)) with e | m
      · subst e
        exact absurd hx n.1
      · exact m
    · rcases List.mem_cons.mp ((h x).mpr (List.mem_cons_of_mem _ hx)) with e | m
      · subst e
        exact absurd hx n'.1
      · exact m
section
variable {lr lr' : RM} {le le' : List Nat}
/-- a room of a least rule: what a step leads to -/
theorem acc_step {i : Nat} (hi : i < lr.length) (hn : (lr[i].map (·.1)).Nodup) {p : Str × Nat} (hp : p ∈ lr[i]) (w : List Str) : acc lr le i (p.1 :: w) = acc lr le p.2 w := by
  simp only [acc, stepR_at hi, lookup_nodup hn hp]
theorem keys_of (c : Canon lr le) {i : Nat} (hi : i < lr.length) (d : Str) : d ∈ lr[i].map (·.1) ↔ ∃ w, acc lr le i (d :: w) = true := by
  constructor
  · intro h
    obtain ⟨p, hp, rfl⟩ := List.mem_map.mp h
    obtain ⟨w, hw⟩ := c.live _ (List.getElem_mem hi) p hp
    exact ⟨w, by rw [acc_step hi (c.nd _ (List.getElem_mem hi)) hp]; exact hw⟩
  · rintro ⟨w, hw⟩
    simp only [acc, stepR_at hi] at hw
    cases q : lr[i].lookup d with
    | none =>
      rw [q] at hw
      cases hw
    | some j => exact List.mem_map_of_mem (lookup_mem q)
theorem row_one (c : Canon lr le) (c' : Canon lr' le') : ∀ {r r' : Room1} {n m m' : Nat}, r.map (·.1) = r'.map (·.1) → (∀ p ∈ r, p.2 < lr.length) → (∀ p ∈ r', p.2 < lr'.length) → n ≤ lr.length → n ≤ lr'.length →
    (∀ p ∈ r, ∀ q ∈ r', p.1 = q.1 → ∀ w, acc lr le p.2 w = acc lr' le' q.2 w) → (r.map (·.1)).Nodup → (∀ i, i < n → ∀ w, acc lr le i w = acc lr' le' i w) → tgt (r.map (·.2)) n = some m → tgt (r'.map (·.2)) n = some m' →
    r = r' ∧ m = m' ∧ ∀ i, i < m → ∀ w, acc lr le i w = acc lr' le' i w
  | [], [], n, m, m', _, _, _, _, _, _, _, h, e, e' => by
    simp only [List.map_nil, tgt, Option.some.injEq] at e e'
    subst e e'
    exact ⟨rfl, rfl, h⟩
  | [], _ :: _, _, _, _, k, _, _, _, _, _, _, _, _, _ => by cases k
  | _ :: _, [], _, _, _, k, _, _, _, _, _, _, _, _, _ => by cases k
  | (d, j) :: r, (d', j') :: r', n, m, m', k, b, b', l, l', lg, nd, h, e, e' => by
    simp only [List.map_cons, List.cons.injEq] at k
    obtain ⟨rfl, k⟩ := k
    have lj := lg (d, j) List.mem_cons_self (d, j') List.mem_cons_self rfl
    have hj : j < lr.length := b _ List.mem_cons_self
    have hj' : j' < lr'.length := b' _ List.mem_cons_self
    simp only [List.map_cons, List.nodup_cons] at nd
    have ej : j = j' ∧ (j < n ∨ j = n) := by
      simp only [List.map_cons, tgt] at e e'
      by_cases q : j < n
      · exact ⟨c'.apart _ _ (by omega) hj' fun w => by rw [← h j q w]; exact lj w, .inl q⟩
      · rw [if_neg q] at e
        by_cases q2 : j = n
        · by_cases q3 : j' < n
          · have := c.apart j' j (by omega) hj fun w => by rw [h j' q3 w]; exact (lj w).symm
            omega
          · rw [if_neg q3] at e'
            by_cases q4 : j' = n
            · exact ⟨by omega, .inr q2⟩
            · rw [if_neg q4] at e'
              cases e'
        · rw [if_neg q2] at e
          cases e
    obtain ⟨rfl, ej⟩ := ej
    have lg' : ∀ p ∈ r, ∀ q ∈ r', p.1 = q.1 → ∀ w, acc lr le p.2 w = acc lr' le' q.2 w := fun p hp q hq => lg p (List.mem_cons_of_mem _ hp) q (List.mem_cons_of_mem _ hq)
    have bb := fun p hp => b p (List.mem_cons_of_mem _ hp)
    have bb' := fun p hp => b' p (List.mem_cons_of_mem _ hp)
    simp only [List.map_cons, tgt] at e e'
    rcases ej with q | q
    · rw [if_pos q] at e e'
      obtain ⟨rfl, r2, r3⟩ := row_one c c' k bb bb' l l' lg' nd.2 h e e'
      exact ⟨rfl, r2, r3⟩
    · have q0 : ¬ j < n := by omega
      rw [if_neg q0, if_pos q] at e e'
      obtain ⟨rfl, r2, r3⟩ := row_one c c' k bb bb' (by omega) (by omega) lg' nd.2 (fun i hi => by
        by_cases z : i < n
        · exact h i z
        · have : i = j := by omega
          subst this
          exact lj) e e'
      exact ⟨rfl, r2, r3⟩
theorem rooms_one (c : Canon lr le) (c' : Canon lr' le') : ∀ {rs rs' pre : RM} {n : Nat}, lr = pre ++ rs → lr' = pre ++ rs' → bfs rs pre.length n = some lr.length → bfs rs' pre.length n = some lr'.length → (∀ i, i < n → ∀ w, acc lr le i w = acc lr' le' i w) →
    lr = lr' ∧ ∀ i, i < lr.length → ∀ w, acc lr le i w = acc lr' le' i w
  | [], [], pre, n, e, e', b, b', h => by
    simp only [bfs, Option.some.injEq] at b b'
    exact ⟨by rw [e, e'], by rw [← b]; exact h⟩
  | [], r' :: rs', pre, n, e, e', b, b', h => by
    simp only [bfs, Option.some.injEq] at b b'
    have : lr.length = pre.length := by rw [e]; simp
    split at b'
    · omega
    · cases b'
  | r :: rs, [], pre, n, e, e', b, b', h => by
    simp only [bfs, Option.some.injEq] at b b'
    have : lr'.length = pre.length := by rw [e']; simp
    split at b
    · omega
    · cases b
  | r :: rs, r' :: rs', pre, n, e, e', b, b', h => by
    simp only [bfs] at b b'
    split at b
    · rename_i q
      rw [if_pos q] at b'
      split at b
      · rename_i m em
        split at b'
        · rename_i m' em'
          have hi : pre.length < lr.length := by rw [e]; simp
          have hi' : pre.length < lr'.length := by rw [e']; simp
          have er : lr[pre.length] = r := by
            have : lr[pre.length]? = some r := by rw [e]; simp
            rw [List.getElem?_eq_getElem hi] at this
            exact Option.some.inj this
          have er' : lr'[pre.length] = r' := by
            have : lr'[pre.length]? = some r' := by rw [e']; simp
            rw [List.getElem?_eq_getElem hi'] at this
            exact Option.some.inj this
          have mr : r ∈ lr := er ▸ List.getElem_mem hi
          have mr' : r' ∈ lr' := er' ▸ List.getElem_mem hi'
          have ks : r.map (·.1) = r'.map (·.1) := by
            refine sorted_one (fun a b => leS_anti) (c.asc r mr) (c'.asc r' mr') (c.nd r mr) (c'.nd r' mr') fun d => ?_
            have k1 := keys_of c hi d
            have k2 := keys_of c' hi' d
            rw [er] at k1
            rw [er'] at k2
            rw [k1, k2]
            exact ⟨fun ⟨w, hw⟩ => ⟨w, by rw [← h _ q]; exact hw⟩, fun ⟨w, hw⟩ => ⟨w, by rw [h _ q]; exact hw⟩⟩
          have l1 := (bfs_le b).1
          have l2 := (bfs_le b').1
          have t1 := (tgt_le em).1
          have t2 := (tgt_le em').1
          obtain ⟨r1, r2, r3⟩ := row_one c c' ks (c.step r mr) (c'.step r' mr') (by omega) (by omega) (fun p hp q' hq e0 w => by
            have a1 := acc_step (lr := lr) (le := le) hi (by rw [er]; exact c.nd r mr) (p := p) (by rw [er]; exact hp) w
            have a2 := acc_step (lr := lr') (le := le') hi' (by rw [er']; exact c'.nd r' mr') (p := q') (by rw [er']; exact hq) w
            rw [← a1, ← a2, e0]
            exact h _ q _) (c.nd r mr) h em em'
          subst r1 r2
          exact rooms_one c c' (rs := rs) (rs' := rs') (pre := pre ++ [r]) (n := m) (by simp [e]) (by simp [e']) (by simpa using b) (by simpa using b') r3
        · cases b'
      · cases b
    · cases b
/-- rules with the same days have the same least rooms -/
theorem canon_one (c : Canon lr le) (c' : Canon lr' le') (h : ∀ w, acc lr le 0 w = acc lr' le' 0 w) : lr = lr' ∧ le = le' := by
  obtain ⟨e, k⟩ := rooms_one c c' (rs := lr) (rs' := lr') (pre := []) (n := 1) rfl rfl c.num c'.num fun i hi w => by
    have : i = 0 := by omega
    subst this
    exact h w
  refine ⟨e, ?_⟩
  subst e
  refine sorted_one (le := fun a b => a < b) (fun a b x y => by omega) c.up c'.up (c.up.imp fun x => by omega) (c'.up.imp fun x => by omega) fun x => ?_
  constructor
  · intro hx
    have := k x (c.ends x hx) []
    simpa [acc, hx] using this
  · intro hx
    have := k x (c'.ends x hx) []
    simpa [acc, hx] using this
end
end Pg
set_option Elab.async false
set_option linter.all false
set_option maxRecDepth 100000
set_option maxHeartbeats 1000000
/-! S4: kinds of rooms: the plain law. -/
namespace Pg
open PySem PySem.Spec PyProof.Rows L2 VL
/-- the step to a room from which an end comes about -/
def nextL (rs : RM) (lv : List Nat) (i : Nat) (d : Str) : Option Nat := match stepR rs i d with
  | some j => if j ∈ lv then some j else none
  | none => none
def col (K : List Nat) (i : Nat) : Nat := K.getD i 0
/-- what a room's key tells of its steps -/
def told (rs : RM) (lv K : List Nat) (i : Nat) : List (Str × Nat) := (sS ((rs.getD i []).map (·.1))).filterMap fun d => (nextL rs lv i d).map fun j => (d, col K j)
def keyOf (rs : RM) (lv K : List Nat) (i : Nat) : NestedKey := .tup [.num (col K i : Nat), .tup ((told rs lv K i).map fun p => .tup [.text p.1, .num (p.2 : Nat)])]
theorem keys_inj : ∀ {a b : List (Str × Nat)}, (a.map fun p => NestedKey.tup [.text p.1, .num (p.2 : Nat)]) = (b.map fun p => NestedKey.tup [.text p.1, .num (p.2 : Nat)]) → a = b
  | [], [], _ => rfl
  | [], _ :: _, h => by cases h
  | _ :: _, [], h => by cases h
  | (x, y) :: a, (x', y') :: b, h => by
    simp only [List.map_cons, List.cons.injEq, NestedKey.tup.injEq, NestedKey.text.injEq, NestedKey.num.injEq, and_true] at h
    obtain ⟨⟨h1, h2⟩, h3⟩ := h
    have : y = y' := by omega
    rw [h1, this, keys_inj h3]
theorem keyOf_inj {rs : RM} {lv K : List Nat} {i j : Nat} : keyOf rs lv K i = keyOf rs lv K j ↔ col K i = col K j ∧ told rs lv K i = told rs lv K j := by
  unfold keyOf
  constructor
  · intro h
    simp only [NestedKey.tup.injEq, List.cons.injEq, NestedKey.num.injEq, and_true] at h
    exact ⟨by omega, keys_inj h.2⟩
  · rintro ⟨h1, h2⟩
    rw [h1, h2]
theorem mem_told {rs : RM} {lv K : List Nat} {i : Nat} {d : Str} {c : Nat} : (d, c) ∈ told rs lv K i ↔ ∃ j, nextL rs lv i d = some j ∧ col K j = c := by
  unfold told
  rw [List.mem_filterMap]
  constructor
  · rintro ⟨d', _, e⟩
    obtain ⟨j, e1, e2⟩ := Option.map_eq_some_iff.mp e
    injection e2 with e3 e4
    subst e3
    exact ⟨j, e1, e4⟩
  · rintro ⟨j, e1, e2⟩
    refine ⟨d, ?_, by rw [e1, ← e2]; rfl⟩
    rw [mem_sS]
    unfold nextL stepR at e1
    cases q : rs[i]? with
    | none => rw [q] at e1; cases e1
    | some r =>
      rw [q] at e1
      simp only at e1
      rw [List.getD_eq_getElem?_getD, q]
      cases q2 : r.lookup d with
      | none => rw [q2] at e1; cases e1
      | some k => exact List.mem_map_of_mem (lookup_mem q2)
theorem sS_pw (l : List Str) : (sS l).Pairwise fun a b => leS a b = true := List.pairwise_mergeSort leS_trans leS_total l
theorem pw_unique : ∀ {a b : List Str}, a.Pairwise (fun x y => leS x y = true) → b.Pairwise (fun x y => leS x y = true) → a.Nodup → b.Nodup → (∀ x, x ∈ a ↔ x ∈ b) → a = b
  | [], [], _, _, _, _, _ => rfl
  | [], y :: b, _, _, _, _, h => by
    have := (h y).mpr List.mem_cons_self
    cases this
  | x :: a, [], _, _, _, _, h => by
    have := (h x).mp List.mem_cons_self
    cases this
  | x :: a, y :: b, ha, hb, na, nb, h => by
    have e : x = y := by
      have h1 := (h x).mp List.mem_cons_self
      have h2 := (h y).mpr List.mem_cons_self
      rcases List.mem_cons.mp h1 with e | h1
      · exact e
      · rcases List.mem_cons.mp h2 with e | h2
        · exact e.symm
        · exact leS_anti ((List.pairwise_cons.mp ha).1 y h2) ((List.pairwise_cons.mp hb).1 x h1)
    subst e
    rw [pw_unique (List.pairwise_cons.mp ha).2 (List.pairwise_cons.mp hb).2 (List.nodup_cons.mp na).2 (List.nodup_cons.mp nb).2 fun z => ?_]
    constructor
    · intro hz
      rcases List.mem_cons.mp ((h z).mp (List.mem_cons_of_mem _ hz)) with e | q
      · exact ((List.nodup_cons.mp na).1 (e ▸ hz)).elim
      · exact q
    · intro hz
      rcases List.mem_cons.mp ((h z).mpr (List.mem_cons_of_mem _ hz)) with e | q
      · exact ((List.nodup_cons.mp nb).1 (e ▸ hz)).elim
      · exact q
theorem told_eq {rs : RM} {lv K : List Nat} (hn : ∀ r ∈ rs, (r.map (·.1)).Nodup) {i j : Nat} (h : ∀ d, (nextL rs lv i d).map (col K) = (nextL rs lv j d).map (col K)) : told rs lv K i = told rs lv K j := by
  have form : ∀ k, told rs lv K k = ((sS ((rs.getD k []).map (·.1))).filter fun d => (nextL rs lv k d).isSome).map fun d => (d, ((nextL rs lv k d).map (col K)).getD 0) := fun k => by
    unfold told
    generalize sS ((rs.getD k []).map (·.1)) = l
    induction l with
    | nil => rfl
    | cons d l ih =>
      cases q : nextL rs lv k d with
      | none => simp [q, ih]
      | some m => simp [q, ih]
  have nd : ∀ k, (sS ((rs.getD k []).map (·.1))).Nodup := fun k => by
    unfold sS
    rw [(List.mergeSort_perm _ _).nodup_iff]
    rw [List.getD_eq_getElem?_getD]
    cases q : rs[k]? with
    | none => simp
    | some r => exact hn r (List.mem_of_getElem? q)
  have mem : ∀ k d, d ∈ ((sS ((rs.getD k []).map (·.1))).filter fun d => (nextL rs lv k d).isSome) ↔ (nextL rs lv k d).isSome = true := fun k d => by
    rw [List.mem_filter]
    refine ⟨fun z => z.2, fun z => ⟨?_, z⟩⟩
    obtain ⟨m, e⟩ := Option.isSome_iff_exists.mp z
    have := mem_told (K := K) (c := col K m) |>.mpr ⟨m, e, rfl⟩
    unfold told at this
    rw [List.mem_filterMap] at this
    obtain ⟨d', h1, h2⟩ := this
    obtain ⟨_, _, e2⟩ := Option.map_eq_some_iff.mp h2
    injection e2 with e3 _
    exact e3 ▸ h1
  rw [form, form]
  have e : ((sS ((rs.getD i []).map (·.1))).filter fun d => (nextL rs lv i d).isSome) = ((sS ((rs.getD j []).map (·.1))).filter fun d => (nextL rs lv j d).isSome) := by
    refine pw_unique ((sS_pw _).filter _) ((sS_pw _).filter _) ((nd i).filter _) ((nd j).filter _) fun d => ?_
    rw [mem, mem]
    have := congrArg Option.isSome (h d)
    rw [Option.isSome_map, Option.isSome_map] at this
    rw [this]
  rw [e]
  apply List.map_congr_left
  intro d _
  rw [h d]
/-- a day by live steps -/
theorem acc_next {rs : RM} {es lv : List Nat} (hl : ∀ k, k ∈ lv ↔ live rs es k) {i : Nat} {d : Str} {w : List Str} : acc rs es i (d :: w) = match nextL rs lv i d with | some j => acc rs es j w | none => false := by
  simp only [acc]
  unfold nextL
  cases q : stepR rs i d with
  | none => rfl
  | some j =>
    simp only
    by_cases z : j ∈ lv
    · rw [if_pos z]
    · rw [if_neg z]
      simp only
      cases q2 : acc rs es j w with
      | false => rfl
      | true => exact (z ((hl j).mpr ⟨w, q2⟩)).elim
def stableK (rs : RM) (lv K : List Nat) : Prop := ∀ i j, i < rs.length → j < rs.length → col K i = col K j → keyOf rs lv K i = keyOf rs lv K j
theorem nextL_lt {rs : RM} {es lv : List Nat} (g : Good rs es) (hl : ∀ k, k ∈ lv ↔ live rs es k) {i j : Nat} {d : Str} (h : nextL rs lv i d = some j) : j < rs.length := by
  unfold nextL at h
  cases q : stepR rs i d with
  | none => rw [q] at h; cases h
  | some k =>
    rw [q] at h
    simp only at h
    by_cases z : k ∈ lv
    · rw [if_pos z] at h
      cases h
      obtain ⟨w, hw⟩ := (hl _).mp z
      exact acc_lt g hw
    · rw [if_neg z] at h; cases h
theorem told_next {rs : RM} {lv K : List Nat} {i j : Nat} (h : told rs lv K i = told rs lv K j) (d : Str) : (nextL rs lv i d).map (col K) = (nextL rs lv j d).map (col K) := by
  have key : ∀ c, (d, c) ∈ told rs lv K i ↔ (d, c) ∈ told rs lv K j := fun c => by rw [h]
  simp only [mem_told] at key
  cases q : nextL rs lv i d with
  | none =>
    cases q2 : nextL rs lv j d with
    | none => rfl
    | some m =>
      obtain ⟨_, e, _⟩ := (key (col K m)).mpr ⟨m, q2, rfl⟩
      rw [q] at e
      cases e
  | some k =>
    obtain ⟨m, e, e2⟩ := (key (col K k)).mp ⟨k, q, rfl⟩
    rw [e]
    simp [e2]
/-- rooms of one kind have the same days -/
theorem stable_lang {rs : RM} {es lv K : List Nat} (g : Good rs es) (hl : ∀ k, k ∈ lv ↔ live rs es k) (he : ∀ i j, i < rs.length → j < rs.length → col K i = col K j → (i ∈ es ↔ j ∈ es)) (st : stableK rs lv K) :
    ∀ (w : List Str) (i j : Nat), i < rs.length → j < rs.length → col K i = col K j → acc rs es i w = acc rs es j w
  | [], i, j, hi, hj, e => by
    simp only [acc]
    exact decide_eq_decide.mpr (he i j hi hj e)
  | d :: w, i, j, hi, hj, e => by
    rw [acc_next hl, acc_next hl]
    have h := told_next (keyOf_inj.mp (st i j hi hj e)).2 d
    cases q : nextL rs lv i d with
    | none =>
      rw [q] at h
      cases q2 : nextL rs lv j d with
      | none => rfl
      | some m => rw [q2] at h; cases h
    | some k =>
      rw [q] at h
      cases q2 : nextL rs lv j d with
      | none => rw [q2] at h; cases h
      | some m =>
        rw [q2] at h
        have h : col K k = col K m := by injection h
        exact stable_lang g hl he st w k m (nextL_lt g hl q) (nextL_lt g hl q2) h
/-- rooms with the same days have one key, where they have one kind -/
theorem lang_key {rs : RM} {es lv K : List Nat} (g : Good rs es) (hl : ∀ k, k ∈ lv ↔ live rs es k) (h3 : ∀ i j, i < rs.length → j < rs.length → (∀ w, acc rs es i w = acc rs es j w) → col K i = col K j)
    {i j : Nat} (hi : i < rs.length) (hj : j < rs.length) (h : ∀ w, acc rs es i w = acc rs es j w) : keyOf rs lv K i = keyOf rs lv K j := by
  rw [keyOf_inj]
  refine ⟨h3 i j hi hj h, told_eq (fun r hr => (g.room r hr).2.1) fun d => ?_⟩
  have step : ∀ {i j : Nat} {k : Nat}, (∀ w, acc rs es i w = acc rs es j w) → nextL rs lv i d = some k → ∃ m, nextL rs lv j d = some m ∧ ∀ w, acc rs es k w = acc rs es m w := by
    intro i j k h q
    have hk : k ∈ lv := by
      unfold nextL at q
      cases q2 : stepR rs i d with
      | none => rw [q2] at q; cases q
      | some z =>
        rw [q2] at q
        simp only at q
        by_cases y : z ∈ lv
        · rw [if_pos y] at q; cases q; exact y
        · rw [if_neg y] at q; cases q
    obtain ⟨w0, hw0⟩ := (hl k).mp hk
    have e := h (d :: w0)
    rw [acc_next hl, acc_next hl, q] at e
    simp only [hw0] at e
    cases q2 : nextL rs lv j d with
    | none => rw [q2] at e; cases e
    | some m =>
      refine ⟨m, rfl, fun w => ?_⟩
      have e := h (d :: w)
      rw [acc_next hl, acc_next hl, q, q2] at e
      exact e
  cases q : nextL rs lv i d with
  | none =>
    cases q2 : nextL rs lv j d with
    | none => rfl
    | some m =>
      obtain ⟨_, e, _⟩ := step (fun w => (h w).symm) q2
      rw [q] at e
      cases e
  | some k =>
    obtain ⟨m, e, e2⟩ := step h q
    rw [e]
    simp only [Option.map_some]
    rw [h3 k m (nextL_lt g hl q) (nextL_lt g hl e) e2]
/-- a list that has all of another one without doubles, and is no longer, has none -/
theorem nodup_of_cover : ∀ {l2 l1 : List Nat}, l1.Nodup → l1 ⊆ l2 → l2.length ≤ l1.length → l2.Nodup
  | [], l1, _, _, _ => List.nodup_nil
  | a :: t, l1, h, s, hl => by
    have na : a ∉ t := fun ha => by
      have : l1 ⊆ t := fun x hx => (List.mem_cons.mp (s hx)).elim (fun e => e ▸ ha) id
      have := List.Nodup.length_le_of_subset h this
      simp at hl
      omega
    have hal : a ∈ l1 := by
      by_cases q : a ∈ l1
      · exact q
      · have : l1 ⊆ t := fun x hx => (List.mem_cons.mp (s hx)).elim (fun e => (q (e ▸ hx)).elim) id
        have := List.Nodup.length_le_of_subset h this
        simp at hl
        omega
    refine List.nodup_cons.mpr ⟨na, nodup_of_cover (l1 := l1.erase a) (h.erase a) (fun x hx => ?_) ?_⟩
    · have := (h.mem_erase_iff).mp hx
      exact (List.mem_cons.mp (s this.2)).resolve_left this.1
    · rw [List.length_erase_of_mem hal]
      simp at hl
      omega
end Pg
set_option Elab.async false
set_option linter.all false
set_option maxRecDepth 100000
set_option maxHeartbeats 2000000
/-! S5: room_kinds keeps its promise. -/
namespace Pg
open PySem PySem.Spec PyProof.Rows L2 VL
/-! ### the dict of keys, numbered as they came -/
def eFrom : Nat → List NestedKey → ES
  | _, [] => []
  | n, k :: ks => (k, .int (n : Nat)) :: eFrom (n + 1) ks
@[simp] theorem eFrom_len : ∀ {n : Nat} {ks : List NestedKey}, (eFrom n ks).length = ks.length
  | n, [] => rfl
  | n, k :: ks => by simp [eFrom, eFrom_len]
theorem look_eFrom {q : NestedKey} : ∀ {n : Nat} {ks : List NestedKey}, q ∈ ks → lookE (eFrom n ks) q = some (.int ((n + ks.idxOf q : Nat) : Int))
  | n, [], h => by cases h
  | n, k :: ks, h => by
    unfold eFrom lookE
    by_cases e : k = q
    · subst e
      simp
    · have hq : q ∈ ks := (List.mem_cons.mp h).resolve_left fun z => e z.symm
      have ih := look_eFrom (n := n + 1) hq
      unfold lookE at ih
      rw [List.find?_cons]
      simp only [decide_eq_true_eq, e, decide_false]
      rw [ih, List.idxOf_cons]
      have : (k == q) = false := by simpa using e
      rw [this]
      simp
      omega
theorem look_eFrom_none {q : NestedKey} : ∀ {n : Nat} {ks : List NestedKey}, q ∉ ks → lookE (eFrom n ks) q = none
  | n, [], h => rfl
  | n, k :: ks, h => by
    have e : ¬ k = q := fun z => h (z ▸ List.mem_cons_self)
    have ih := look_eFrom_none (n := n + 1) fun z => h (List.mem_cons_of_mem _ z)
    unfold eFrom
    unfold lookE at ih ⊢
    rw [List.find?_cons]
    simp only [decide_eq_true_eq, e, decide_false]
    exact ih
theorem eFrom_append {q : NestedKey} : ∀ {n : Nat} {ks : List NestedKey}, eFrom n (ks ++ [q]) = eFrom n ks ++ [(q, .int ((n + ks.length : Nat) : Int))]
  | n, [] => by simp [eFrom]
  | n, k :: ks => by
    simp only [List.cons_append, eFrom, List.length_cons]
    rw [eFrom_append]
    have : n + 1 + ks.length = n + (ks.length + 1) := by omega
    rw [this]
theorem store_eFrom {q : NestedKey} {ks : List NestedKey} (h : q ∉ ks) : storeE (eFrom 0 ks) q (.int (ks.length : Nat)) = eFrom 0 (ks ++ [q]) := by
  unfold storeE
  rw [look_eFrom_none h, eFrom_append]
  simp
/-! ### keys as data -/
def eTold (td : List (Str × Nat)) : List D := td.map fun p => .tup [.str p.1, .int (p.2 : Nat)]
def kTold (td : List (Str × Nat)) : List NestedKey := td.map fun p => .tup [.text p.1, .num (p.2 : Nat)]
theorem dNKL_told : ∀ td, dNKL (eTold td) = some (kTold td)
  | [] => rfl
  | p :: td => by
    have ih := dNKL_told td
    unfold eTold kTold at ih ⊢
    simp only [List.map_cons, dNKL, dNK]
    rw [ih]
theorem depth_told : ∀ td, NestedKey.depthAll (kTold td) ≤ 2
  | [] => by simp [kTold, NestedKey.depthAll]
  | p :: td => by
    have ih := depth_told td
    unfold kTold at ih ⊢
    simp only [List.map_cons, NestedKey.depthAll, NestedKey.depth]
    omega
theorem keyN_key {c : Nat} {td : List (Str × Nat)} : keyN (.tup [.int (c : Nat), .tup (eTold td)]) = some (.tup [.num (c : Nat), .tup (kTold td)]) := by
  unfold keyN
  simp only [dNK, dNKL, dNKL_told]
  rw [if_pos]
  have := depth_told td
  simp only [NestedKey.depth, NestedKey.depthAll]
  omega
/-! ### what holds of kinds -/
def classesK (K : List Nat) (n c : Nat) : Prop := (∀ i, i < n → col K i < c) ∧ ∀ x, x < c → ∃ i, i < n ∧ col K i = x
structure KInv (rs : RM) (es lv K : List Nat) (many found : Nat) : Prop where
  len : K.length = rs.length
  ends : ∀ i j, i < rs.length → j < rs.length → col K i = col K j → (i ∈ es ↔ j ∈ es)
  lang : ∀ i j, i < rs.length → j < rs.length → (∀ w, acc rs es i w = acc rs es j w) → col K i = col K j
  few : found ≤ rs.length
  one : 1 ≤ found
  cls : classesK K rs.length found ∨ found = 1
  le : many ≤ found
  st : many = found → stableK rs lv K
def newK (rs : RM) (lv K : List Nat) (kl : List NestedKey) : List Nat := (List.range rs.length).map fun j => kl.idxOf (keyOf rs lv K j)
theorem col_new {rs : RM} {lv K : List Nat} {kl : List NestedKey} {i : Nat} (h : i < rs.length) : col (newK rs lv K kl) i = kl.idxOf (keyOf rs lv K i) := by
  unfold col newK
  rw [List.getD_eq_getElem?_getD, List.getElem?_map, List.getElem?_range h]
  rfl
def fstK : NestedKey → Nat
  | .tup (.num c :: _) => c.toNat
  | _ => 0
theorem fst_key {rs : RM} {lv K : List Nat} {i : Nat} : fstK (keyOf rs lv K i) = col K i := by simp [fstK, keyOf]
theorem nodup_inj {α β : Type} {f : α → β} : ∀ {l : List α} {a b : α}, (l.map f).Nodup → a ∈ l → b ∈ l → f a = f b → a = b
  | [], a, b, _, ha, _, _ => by cases ha
  | x :: l, a, b, h, ha, hb, e => by
    simp only [List.map_cons, List.nodup_cons] at h
    rcases List.mem_cons.mp ha with rfl | ha'
    · rcases List.mem_cons.mp hb with rfl | hb'
      · rfl
      · exact (h.1 (e ▸ List.mem_map_of_mem hb')).elim
    · rcases List.mem_cons.mp hb with rfl | hb'
      · exact (h.1 (e ▸ List.mem_map_of_mem ha')).elim
      · exact nodup_inj h.2 ha' hb' e
theorem idx_inj {kl : List NestedKey} {a b : NestedKey} (ha : a ∈ kl) (hb : b ∈ kl) (e : kl.idxOf a = kl.idxOf b) : a = b := by
  have h1 := List.getElem_idxOf (List.idxOf_lt_length_of_mem ha)
  have h2 := List.getElem_idxOf (List.idxOf_lt_length_of_mem hb)
  rw [← h1, ← h2]
  simp only [e]
theorem inv_step {rs : RM} {es lv K : List Nat} {many found : Nat} (g : Good rs es) (hl : ∀ k, k ∈ lv ↔ live rs es k) (I : KInv rs es lv K many found) {kl : List NestedKey} (nd : kl.Nodup) (from_ : ∀ x ∈ kl, ∃ j, j < rs.length ∧ keyOf rs lv K j = x)
    (all : ∀ j, j < rs.length → keyOf rs lv K j ∈ kl) : KInv rs es lv (newK rs lv K kl) found kl.length := by
  have toKey : ∀ i j, i < rs.length → j < rs.length → col (newK rs lv K kl) i = col (newK rs lv K kl) j → keyOf rs lv K i = keyOf rs lv K j := fun i j hi hj e => by
    rw [col_new hi, col_new hj] at e
    exact idx_inj (all i hi) (all j hj) e
  have few : kl.length ≤ rs.length := by
    have := List.Nodup.length_le_of_subset nd (l₂ := (List.range rs.length).map (keyOf rs lv K)) fun x hx => by
      obtain ⟨j, hj, e⟩ := from_ x hx
      exact List.mem_map.mpr ⟨j, List.mem_range.mpr hj, e⟩
    simpa using this
  have pos : 1 ≤ kl.length := List.length_pos_of_mem (all 0 g.pos)
  have cover : classesK K rs.length found → List.range found ⊆ kl.map fstK := fun c x hx => by
    obtain ⟨i, hi, e⟩ := c.2 x (List.mem_range.mp hx)
    exact List.mem_map.mpr ⟨_, all i hi, fst_key.trans e⟩
  refine ⟨by simp [newK], fun i j hi hj e => I.ends i j hi hj (keyOf_inj.mp (toKey i j hi hj e)).1, fun i j hi hj h => ?_, few, pos, .inl ⟨fun i hi => ?_, fun x hx => ?_⟩, ?_, fun e i j hi hj q => ?_⟩
  · rw [col_new hi, col_new hj, lang_key g hl I.lang hi hj h]
  · rw [col_new hi]
    exact List.idxOf_lt_length_of_mem (all i hi)
  · obtain ⟨i, hi, e⟩ := from_ kl[x] (List.getElem_mem hx)
    refine ⟨i, hi, ?_⟩
    rw [col_new hi, e]
    exact nd.idxOf_getElem x hx
  · rcases I.cls with c | c
    · have := List.Nodup.length_le_of_subset List.nodup_range (cover c)
      simpa using this
    · omega
  · -- found = kl.length: keys go by kinds alone
    have key := toKey i j hi hj q
    have fine : ∀ a b, a < rs.length → b < rs.length → col K a = col K b → keyOf rs lv K a = keyOf rs lv K b := fun a b ha hb z => by
      rcases I.cls with c | c
      · have nd2 : (kl.map fstK).Nodup := nodup_of_cover List.nodup_range (cover c) (by simp [e])
        have h1 := all a ha
        have h2 := all b hb
        have : fstK (keyOf rs lv K a) = fstK (keyOf rs lv K b) := by rw [fst_key, fst_key, z]
        exact nodup_inj nd2 h1 h2 this
      · have h1 := all a ha
        have h2 := all b hb
        have hk : kl.length = 1 := by omega
        obtain ⟨x, rfl⟩ := List.length_eq_one_iff.mp hk
        simp only [List.mem_singleton] at h1 h2
        rw [h1, h2]
    rw [keyOf_inj]
    refine ⟨q, told_eq (fun r hr => (g.room r hr).2.1) fun d => ?_⟩
    have t := told_next (keyOf_inj.mp key).2 d
    cases q1 : nextL rs lv i d with
    | none =>
      cases q2 : nextL rs lv j d with
      | none => rfl
      | some m => rw [q1, q2] at t; cases t
    | some k =>
      cases q2 : nextL rs lv j d with
      | none => rw [q1, q2] at t; cases t
      | some m =>
        rw [q1, q2] at t
        have t : col K k = col K m := by injection t
        have hk := nextL_lt g hl q1
        have hm := nextL_lt g hl q2
        simp only [Option.map_some]
        rw [col_new hk, col_new hm, fine k m hk hm t]
/-! ### the walk's reading -/
theorem ix_ints {K : List Nat} {i : Nat} (h : i < K.length) : dIx (.lst (eInts K)) (.int (i : Nat)) = some (.int (col K i : Nat)) := by
  unfold dIx
  simp only
  rw [atI_nat (by simpa using h)]
  simp [eInts, col, List.getD_eq_getElem?_getD, h]
def kindW (P : Program) (w : World) (rs : RM) (es lv : List Nat) (l : List D) (n : Nat) (m : Tau) : Prop := ∃ (K : List Nat) (many found : Nat) (o6 o7 o8 o9 o10 o11 : Option T),
  m = [some (.fz (eRooms rs)), some (.fz (.lst (eInts es))), some (.fz (.dct (kI lv) l)), some (.fz (.lst (eInts K))), some (.fz (.int (many : Nat))), some (.fz (.int (found : Nat))), o6, o7, o8, o9, o10, o11] ∧
  n = 2 * (rs.length + 1 - found) + (if many = found then 0 else 1) ∧ KInv rs es lv K many found
def tInts (l : List Nat) : List T := l.map fun (c : Nat) => .fz (.int (c : Int))
def kindI (P : Program) (w : World) (rs : RM) (es lv : List Nat) (l : List D) (K : List Nat) (many found : Nat) (k : Nat) (m : Tau) : Prop := ∃ (kl : List NestedKey) (o8 o9 o10 o11 : Option T),
  m = [some (.fz (eRooms rs)), some (.fz (.lst (eInts es))), some (.fz (.dct (kI lv) l)), some (.fz (.lst (eInts K))), some (.fz (.int (many : Nat))), some (.fz (.int (found : Nat))), some (.on P w (eFrom 0 kl)), some (.ol (tInts ((List.range k).map fun j => kl.idxOf (keyOf rs lv K j)))), o8, o9, o10, o11] ∧
  kl.Nodup ∧ (∀ x ∈ kl, ∃ j, j < k ∧ keyOf rs lv K j = x) ∧ (∀ j, j < k → keyOf rs lv K j ∈ kl)
theorem er_tInts {l : List Nat} : (tInts l).map T.er = eInts l := by simp [tInts, eInts]
theorem sp_room_kinds (Pr : Program) (wd : World) (xs : List T) (P : T → Prop) (R : Exn → Prop) (hn : xs.length = 3) (h : o_room_kinds xs P R) : w_room_kinds Pr wd (VL.startT 12 xs) (EV P R) := by
  obtain ⟨rs, es, lv, l, rfl, gd, hl, h⟩ := h
  have sm := gd.small
  simp [w_room_kinds]
  refine ⟨by omega, ?_⟩
  have erng : rngD 0 rs.length = (List.range rs.length).map fun (i : Nat) => D.int (i : Int) := by simp [rngD]
  rw [erng]
  refine lcL_map (ms := fun (i : Nat) => [some (.fz (eRooms rs)), some (.fz (.lst (eInts es))), some (.fz (.dct (kI lv) l)), none, none, none, none, none, some (.fz (.int (i : Nat))), none, none, none])
    (f := fun (i : Nat) => some (.fz (.int ((if i ∈ es then 1 else 0 : Nat) : Int)))) (fun p => rfl) (fun i hi K1 K2 h => ?_) ?_ ?_
  · simp [dIn_nat, dInt]
    by_cases z : i ∈ es
    · simpa [z] using h
    · simpa [z] using h
  · simp
    exact big_le (by omega)
  · simp only [List.nil_append, filterMap_some]
    have e0 : ((List.range rs.length).map fun i => T.fz (.int ((if i ∈ es then 1 else 0 : Nat) : Int))) = tInts ((List.range rs.length).map fun i => if i ∈ es then 1 else 0) := by simp [tInts]
    rw [e0]
    simp [er_tInts]
    have colK : ∀ i, i < rs.length → col ((List.range rs.length).map fun i => if i ∈ es then 1 else 0) i = if i ∈ es then 1 else 0 := fun i hi => by
      unfold col
      rw [List.getD_eq_getElem?_getD, List.getElem?_map, List.getElem?_range hi]
      rfl
    refine ⟨kindW Pr wd rs es lv l, ⟨_, _, 0, 1, _, _, _, _, _, _, rfl, rfl, ⟨by simp, fun i j hi hj e => ?_, fun i j hi hj e => ?_, gd.pos, Nat.le_refl _, .inr rfl, Nat.zero_le _, fun e => by cases e⟩⟩, ?_⟩
    · rw [colK i hi, colK j hj] at e
      by_cases a : i ∈ es <;> by_cases b : j ∈ es <;> simp [a, b] at e ⊢
    · rw [colK i hi, colK j hj]
      have := e []
      simp only [acc] at this
      have := decide_eq_decide.mp this
      by_cases a : i ∈ es
      · simp [a, this.mp a]
      · have : j ∉ es := fun z => a (this.mpr z)
        simp [a, this]
    · rintro n m ⟨K, many, found, o6, o7, o8, o9, o10, o11, rfl, rfl, I⟩
      simp [eq_int]
      by_cases q : many = found
      · subst q
        simp
        refine h K I.len fun i j hi hj => ?_
        have e : ∀ i, i < rs.length → K[i]? = some (col K i) := fun i hi => by
          unfold col
          rw [List.getD_eq_getElem?_getD, List.getElem?_eq_getElem (by rw [I.len]; exact hi)]
          rfl
        rw [e i hi, e j hj]
        constructor
        · intro z w
          exact stable_lang gd hl I.ends (I.st rfl) w i j hi hj (by injection z)
        · intro z
          rw [I.lang i j hi hj z]
      · have q' : ¬ (many : Int) = found := by omega
        simp [q', q]
        refine ⟨by omega, ?_⟩
        refine forL_at (kindI Pr wd rs es lv l K many found) ?_ ?_ ⟨[], _, _, _, _, rfl, List.nodup_nil, fun x hx => (List.not_mem_nil hx).elim, fun j hj => absurd hj (Nat.not_lt_zero _)⟩
        · rintro k hk m ⟨kl, o8, o9, o10, o11, rfl, c1, c2, c3⟩ E' h1 h2 h3 h4 h5
          rw [rngD_at hk]
          rw [rngD_len] at hk
          obtain ⟨g1, g2, g3⟩ := gd.room _ (List.getElem_mem hk)
          simp [ix_rooms hk, sort_room g1]
          have klen := I.len
          refine lcL_map (e := D.str) (ms := fun d => [some (.fz (eRooms rs)), some (.fz (.lst (eInts es))), some (.fz (.dct (kI lv) l)), some (.fz (.lst (eInts K))), some (.fz (.int (many : Nat))), some (.fz (.int (found : Nat))), some (.on Pr wd (eFrom 0 kl)), some (.ol (tInts ((List.range k).map fun j => kl.idxOf (keyOf rs lv K j)))), some (.fz (.int (k : Nat))), o9, o10, some (.fz (.str d))])
            (f := fun d => (nextL rs lv k d).map fun j => .fz (.tup [.str d, .int (col K j : Nat)])) (fun p => rfl) (fun d hd K1 K2 h => ?_) ?_ ?_
          · obtain ⟨j, ej⟩ := lookup_some (mem_sS.mp hd)
            have hj : j < rs.length := (g3 _ (lookup_mem ej)).2
            have enx : nextL rs lv k d = if j ∈ lv then some j else none := by
              unfold nextL
              rw [stepR_at hk, ej]
            rw [enx] at h
            simp [ix_rooms hk, ej, in_found]
            by_cases z : j ∈ lv
            · rw [if_pos z] at h
              simp [z, ix_rooms hk, ej, ix_ints (by rw [klen]; exact hj)]
              exact ⟨big_le (by omega), h⟩
            · rw [if_neg z] at h
              simpa [z] using h
          · have : (sS (rs[k].map (·.1))).length = rs[k].length := by rw [len_sS]; simp
            simp only [List.length_nil]
            exact big_le (by omega)
          · have et : ((sS (rs[k].map (·.1))).filterMap fun d => (nextL rs lv k d).map fun j => T.fz (.tup [.str d, .int (col K j : Nat)])) = (told rs lv K k).map fun p => .fz (.tup [.str p.1, .int (p.2 : Nat)]) := by
              unfold told
              rw [List.map_filterMap]
              have : rs.getD k [] = rs[k] := by
                rw [List.getD_eq_getElem?_getD, List.getElem?_eq_getElem hk]
                rfl
              rw [this]
              congr 1
              funext d
              cases nextL rs lv k d <;> rfl
            simp only [List.nil_append]
            rw [et]
            have ee : ((told rs lv K k).map fun p => T.fz (.tup [.str p.1, .int (p.2 : Nat)])).map T.er = eTold (told rs lv K k) := by simp [eTold]
            rw [ee]
            simp [ix_ints (show k < K.length by rw [klen]; exact hk), dTup]
            refine ⟨big_le (by omega), ?_⟩
            rw [keyN_key]
            have ekey : NestedKey.tup [.num (col K k : Nat), .tup (kTold (told rs lv K k))] = keyOf rs lv K k := rfl
            simp only [ekey]
            have klf : kl.length ≤ rs.length := by
              have := List.Nodup.length_le_of_subset c1 (l₂ := (List.range rs.length).map (keyOf rs lv K)) fun x hx => by
                obtain ⟨j, hj, e⟩ := c2 x hx
                exact List.mem_map.mpr ⟨j, List.mem_range.mpr (by omega), e⟩
              simpa using this
            have kl2 : (List.range k).length < sizeLine := by
              rw [List.length_range]
              exact big_lt (by omega)
            by_cases z : keyOf rs lv K k ∈ kl
            · rw [look_eFrom z]
              simp [keyN_key, ekey, look_eFrom z, tInts]
              refine ⟨by simpa using kl2, ?_⟩
              have e7 : ((List.range k).map ((fun (c : Nat) => T.fz (.int (c : Int))) ∘ fun j => kl.idxOf (keyOf rs lv K j))) ++ [T.fz (.int ((kl.idxOf (keyOf rs lv K k) : Nat) : Int))] = tInts ((List.range (k + 1)).map fun j => kl.idxOf (keyOf rs lv K j)) := by
                simp [tInts, List.range_succ]
              rw [e7]
              refine h1 _ ⟨kl, _, _, _, _, rfl, c1, fun x hx => ?_, fun j hj => ?_⟩
              · obtain ⟨j, hj, e⟩ := c2 x hx
                exact ⟨j, by omega, e⟩
              · by_cases y : j = k
                · exact y ▸ z
                · exact c3 j (by omega)
            · rw [look_eFrom_none z]
              have zin : keyOf rs lv K k ∈ kl ++ [keyOf rs lv K k] := by simp
              simp [keyN_key, ekey, store_eFrom z, look_eFrom zin, tInts]
              refine ⟨big_lt (by omega), by simpa using kl2, ?_⟩
              have e7 : ((List.range k).map ((fun (c : Nat) => T.fz (.int (c : Int))) ∘ fun j => kl.idxOf (keyOf rs lv K j))) ++ [T.fz (.int (((kl ++ [keyOf rs lv K k]).idxOf (keyOf rs lv K k) : Nat) : Int))] = tInts ((List.range (k + 1)).map fun j => (kl ++ [keyOf rs lv K k]).idxOf (keyOf rs lv K j)) := by
                simp [tInts, List.range_succ]
                intro j hj
                rw [List.idxOf_append, if_pos (c3 j hj)]
              rw [e7]
              refine h1 _ ⟨kl ++ [keyOf rs lv K k], _, _, _, _, rfl, ?_, fun x hx => ?_, fun j hj => ?_⟩
              · rw [List.nodup_append]
                exact ⟨c1, by simp, fun a ha b hb => by
                  simp at hb
                  subst hb
                  exact fun e => z (e ▸ ha)⟩
              · rcases List.mem_append.mp hx with hx | hx
                · obtain ⟨j, hj, e⟩ := c2 x hx
                  exact ⟨j, by omega, e⟩
                · simp at hx
                  exact ⟨k, by omega, hx.symm⟩
              · by_cases y : j = k
                · subst y
                  exact zin
                · exact List.mem_append_left _ (c3 j (by omega))
        · rintro m ⟨kl, o8, o9, o10, o11, rfl, c1, c2, c3⟩
          rw [rngD_len] at c2 c3
          simp [er_tInts]
          have I' := inv_step gd hl I c1 c2 c3
          refine ⟨_, ?_, newK rs lv K kl, found, kl.length, _, _, _, _, _, _, by rw [rngD_len]; rfl, rfl, I'⟩
          have := I.few
          have := I'.few
          have := I'.le
          split <;> omega
end Pg
set_option Elab.async false
set_option linter.all false
set_option maxRecDepth 100000
set_option maxHeartbeats 2000000
/-! S6: least_rooms keeps its promise. -/
namespace Pg
open PySem PySem.Spec PyProof.Rows L2 VL
theorem nodup_of_map {α β : Type} {f : α → β} : ∀ {l : List α}, (l.map f).Nodup → l.Nodup
  | [], _ => List.nodup_nil
  | a :: l, h => by
    simp only [List.map_cons, List.nodup_cons] at h
    exact List.nodup_cons.mpr ⟨fun z => h.1 (List.mem_map_of_mem z), nodup_of_map h.2⟩
/-- a least room's steps, of room o; od: the rooms that the least ones stand for -/
structure RowOk (rs : RM) (lv cs od : List Nat) (o : Nat) (row : Room1) : Prop where
  mem : ∀ p ∈ row, PyData.strOk p.1 = true ∧ p.2 < od.length ∧ ∃ j, nextL rs lv o p.1 = some j ∧ col cs (od.getD p.2 0) = col cs j
  all : ∀ d j, nextL rs lv o d = some j → d ∈ row.map (·.1)
  sub : (row.map (·.1)).Sublist (sS ((rs.getD o []).map (·.1)))
theorem getD_app {l m : List Nat} {i : Nat} (h : i < l.length) : (l ++ m).getD i 0 = l.getD i 0 := by
  rw [List.getD_eq_getElem?_getD, List.getD_eq_getElem?_getD, List.getElem?_append_left h]
theorem RowOk.app {rs : RM} {lv cs od : List Nat} {o : Nat} {row : Room1} (h : RowOk rs lv cs od o row) (m : List Nat) : RowOk rs lv cs (od ++ m) o row := by
  refine ⟨fun p hp => ?_, h.all, h.sub⟩
  obtain ⟨h0, h1, j, h2, h3⟩ := h.mem p hp
  exact ⟨h0, by simp; omega, j, h2, by rw [getD_app h1]; exact h3⟩
/-- what holds of the rooms found so far -/
structure Ord (rs : RM) (cs od : List Nat) : Prop where
  pos : 0 < od.length
  zero : od.getD 0 0 = 0
  lt : ∀ o ∈ od, o < rs.length
  nd : (od.map (col cs)).Nodup
theorem Ord.le {rs : RM} {cs od : List Nat} (h : Ord rs cs od) : od.length ≤ rs.length := by
  have : od.Nodup := by
    have := h.nd
    exact nodup_of_map this
  exact nodup_le this h.lt
structure LInv (rs : RM) (lv cs od : List Nat) (fnd : List Room1) : Prop where
  ord : Ord rs cs od
  le : fnd.length ≤ od.length
  rows : ∀ s (h : s < fnd.length), RowOk rs lv cs od (od.getD s 0) fnd[s]
theorem strOk_name {z : Str} (h : isName z = true) : PyData.strOk z = true := by
  unfold isName at h
  rw [Bool.and_eq_true, Bool.and_eq_true] at h
  have h2 := h.2.2
  rw [List.all_eq_true] at h2
  unfold PyData.strOk
  rw [← Array.all_toList, List.all_eq_true]
  intro c hc
  have hl : ∀ c ∈ letters.cps.toList, c < 0x110000 := by decide +kernel
  exact decide_eq_true (hl c (of_decide_eq_true (h2 c hc)))
/-- the plain law -/
theorem least_of {rs : RM} {es lv cs od : List Nat} {fnd : List Room1} (g : Good rs es) (hl : ∀ k, k ∈ lv ↔ live rs es k) (hc : ∀ i j, i < rs.length → j < rs.length → (col cs i = col cs j ↔ ∀ w, acc rs es i w = acc rs es j w))
    (I : LInv rs lv cs od fnd) (e : fnd.length = od.length) (num : bfs fnd 0 1 = some od.length) : Least rs es fnd ((List.range od.length).filter fun s => decide (od.getD s 0 ∈ es)) := by
  have odlt : ∀ s, s < od.length → od.getD s 0 < rs.length := fun s hs => by
    rw [List.getD_eq_getElem?_getD, List.getElem?_eq_getElem hs]
    exact I.ord.lt _ (List.getElem_mem hs)
  have lang : ∀ (w : List Str) (s : Nat), s < od.length → acc fnd ((List.range od.length).filter fun s => decide (od.getD s 0 ∈ es)) s w = acc rs es (od.getD s 0) w := by
    intro w
    induction w with
    | nil =>
      intro s hs
      simp only [acc]
      apply decide_eq_decide.mpr
      rw [List.mem_filter]
      simp [hs]
    | cons d w ih =>
      intro s hs
      rw [acc_next hl]
      simp only [acc]
      have hs' : s < fnd.length := by omega
      rw [stepR_at hs']
      have row := I.rows s hs'
      cases q : fnd[s].lookup d with
      | some i =>
        obtain ⟨_, hi, j, h2, h3⟩ := row.mem _ (lookup_mem q)
        simp only
        rw [h2]
        simp only
        rw [ih i hi]
        exact (hc _ _ (odlt i hi) (nextL_lt g hl h2)).mp h3 w
      | none =>
        simp only
        cases q2 : nextL rs lv (od.getD s 0) d with
        | none => rfl
        | some j =>
          obtain ⟨k, hk⟩ := lookup_some (row.all d j q2)
          rw [q] at hk
          cases hk
  have rowAt : ∀ r ∈ fnd, ∃ s, s < fnd.length ∧ RowOk rs lv cs od (od.getD s 0) r := fun r hr => by
    obtain ⟨s, hs, rfl⟩ := List.getElem_of_mem hr
    exact ⟨s, hs, I.rows s hs⟩
  refine ⟨⟨by rw [e]; exact I.ord.pos, ?_, fun r hr p hp => ?_, fun r hr p hp => ?_⟩, fun w => ?_, ⟨by rw [e]; exact num, fun r hr => ?_, fun r hr => ?_, fun r hr p hp => ?_, fun i j hi hj h => ?_, fun x hx => ?_, ?_⟩, by rw [e]; exact I.ord.le, fun l hl2 r hr p hp => ?_⟩
  · have := I.ord.le
    have := g.small
    omega
  · obtain ⟨s, hs, rfl⟩ := List.getElem_of_mem hr
    rw [e]
    exact ((I.rows s hs).mem p hp).2.1
  · obtain ⟨s, hs, rfl⟩ := List.getElem_of_mem hr
    exact ((I.rows s hs).mem p hp).1
  · rw [lang w 0 I.ord.pos, I.ord.zero]
  · obtain ⟨s, hs, ro⟩ := rowAt r hr
    exact (sS_pw _).sublist ro.sub
  · obtain ⟨s, hs, ro⟩ := rowAt r hr
    have hlt := odlt s (by omega)
    refine ro.sub.nodup ?_
    refine (List.mergeSort_perm _ _).nodup_iff.mpr ?_
    rw [List.getD_eq_getElem?_getD, List.getElem?_eq_getElem hlt]
    exact (g.room _ (List.getElem_mem hlt)).2.1
  · obtain ⟨s, hs, ro⟩ := rowAt r hr
    obtain ⟨_, hi, j, h2, h3⟩ := ro.mem p hp
    have jl : j ∈ lv := by
      unfold nextL at h2
      split at h2
      · split at h2
        · rename_i q
          injection h2 with h2
          subst h2
          exact q
        · cases h2
      · cases h2
    obtain ⟨w, hw⟩ := (hl j).mp jl
    refine ⟨w, ?_⟩
    rw [lang w _ hi, (hc _ _ (odlt _ hi) (nextL_lt g hl h2)).mp h3 w]
    exact hw
  · have hi' : i < od.length := by omega
    have hj' : j < od.length := by omega
    have : col cs (od.getD i 0) = col cs (od.getD j 0) := (hc _ _ (odlt i hi') (odlt j hj')).mpr fun w => by
      rw [← lang w i hi', ← lang w j hj']
      exact h w
    have nd := I.ord.nd
    have e1 : (od.map (col cs))[i]? = (od.map (col cs))[j]? := by
      rw [List.getElem?_map, List.getElem?_map, List.getElem?_eq_getElem hi', List.getElem?_eq_getElem hj']
      rw [List.getD_eq_getElem?_getD, List.getD_eq_getElem?_getD, List.getElem?_eq_getElem hi', List.getElem?_eq_getElem hj'] at this
      simpa using this
    exact (List.getElem?_inj (by simpa using hi') nd).mp e1
  · rw [List.mem_filter, List.mem_range] at hx
    omega
  · exact List.Pairwise.sublist List.filter_sublist List.pairwise_lt_range
  · obtain ⟨s, hs, ro⟩ := rowAt r hr
    have hlt := odlt s (by omega)
    have hin := mem_sS.mp (ro.sub.subset (List.mem_map_of_mem hp))
    rw [List.getD_eq_getElem?_getD, List.getElem?_eq_getElem hlt] at hin
    obtain ⟨q, hq, eq⟩ := List.mem_map.mp hin
    rw [← eq]
    exact hl2 _ (List.getElem_mem hlt) q hq
/-! ### the walk's reading -/
theorem look_kI {cl : List Nat} {c : Nat} : ∀ {n : Nat}, c ∈ cl → lookK (kI cl) ((List.range' n cl.length).map fun (x : Nat) => D.int (x : Int)) (.inl (c : Int)) = some (.int ((n + cl.idxOf c : Nat) : Int)) := by
  induction cl with
  | nil => intro n h; cases h
  | cons a cl ih =>
    intro n h
    simp only [kI, List.map_cons, List.length_cons, List.range'_succ, lookK]
    by_cases e : a = c
    · subst e
      simp
    · have hc : c ∈ cl := (List.mem_cons.mp h).resolve_left fun z => e z.symm
      have e2 : ¬ (Sum.inl (a : Int) : Key) = .inl (c : Int) := fun z => e (by injection z; omega)
      rw [if_neg e2]
      have := ih (n := n + 1) hc
      unfold kI at this
      rw [this, List.idxOf_cons]
      have : (a == c) = false := by simpa using e
      rw [this]
      simp
      omega
def dPlaces (cl : List Nat) : D := .dct (kI cl) ((List.range' 0 cl.length).map fun (x : Nat) => D.int (x : Int))
abbrev ePlaces (cl : List Nat) : T := .od (kI cl) ((List.range' 0 cl.length).map fun (x : Nat) => .fz (.int (x : Int)))
theorem er_places {cl : List Nat} : (ePlaces cl).er = dPlaces cl := by simp [dPlaces]
theorem ix_places {cl : List Nat} {c : Nat} (h : c ∈ cl) : dIx (dPlaces cl) (.int (c : Nat)) = some (.int (cl.idxOf c : Nat)) := by
  unfold dPlaces dIx
  simp only [keyD]
  have := look_kI (n := 0) h
  simpa using this
theorem notIn_places {cl : List Nat} {c : Nat} : dIn true (.int (c : Nat)) (dPlaces cl) = some (.bl (!decide (c ∈ cl))) := by
  unfold dPlaces dIn
  simp [keyD, memK_kI]
theorem put_places {cl : List Nat} {c : Nat} (h : c ∉ cl) : putL (kI cl) ((List.range' 0 cl.length).map fun (x : Nat) => T.fz (.int (x : Int))) (.inl (c : Int)) (.fz (.int (cl.length : Nat))) = (kI (cl ++ [c]), (List.range' 0 (cl ++ [c]).length).map fun (x : Nat) => T.fz (.int (x : Int))) := by
  unfold putL
  rw [memK_kI, if_neg (by simpa using h)]
  simp [kI, List.range'_concat]
theorem ix_pl {cl : List Nat} {c n : Nat} (hn : n = cl.length) (h : c ∈ cl) : dIx (.dct (kI cl) ((List.range' 0 n).map fun (x : Nat) => D.int (x : Int))) (.int (c : Nat)) = some (.int (cl.idxOf c : Nat)) := by
  subst hn
  exact ix_places h
theorem notIn_pl {cl : List Nat} {c n : Nat} (hn : n = cl.length) : dIn true (.int (c : Nat)) (.dct (kI cl) ((List.range' 0 n).map fun (x : Nat) => D.int (x : Int))) = some (.bl (!decide (c ∈ cl))) := by
  subst hn
  exact notIn_places
theorem put_pl {cl : List Nat} {c n : Nat} (hn : n = cl.length) (h : c ∉ cl) : putL (kI cl) ((List.range' 0 n).map fun (x : Nat) => T.fz (.int (x : Int))) (.inl (c : Int)) (.fz (.int (n : Nat))) = (kI (cl ++ [c]), (List.range' 0 (cl ++ [c]).length).map fun (x : Nat) => T.fz (.int (x : Int))) := by
  subst hn
  exact put_places h
theorem getD_idx {cs od : List Nat} {c : Nat} (h : c ∈ od.map (col cs)) : (od.map (col cs)).idxOf c < od.length ∧ col cs (od.getD ((od.map (col cs)).idxOf c) 0) = c := by
  have h1 := List.idxOf_lt_length_of_mem h
  have h2 := List.getElem_idxOf h1
  have h3 : (od.map (col cs)).idxOf c < od.length := by simpa using h1
  refine ⟨h3, ?_⟩
  rw [List.getElem_map] at h2
  rw [List.getD_eq_getElem?_getD, List.getElem?_eq_getElem h3]
  exact h2
theorem Ord.app {rs : RM} {cs od : List Nat} (h : Ord rs cs od) {j : Nat} (hj : j < rs.length) (hc : col cs j ∉ od.map (col cs)) : Ord rs cs (od ++ [j]) := by
  refine ⟨by simp, ?_, fun o ho => ?_, ?_⟩
  · rw [getD_app h.pos]
    exact h.zero
  · rcases List.mem_append.mp ho with ho | ho
    · exact h.lt o ho
    · simp at ho
      rw [ho]
      exact hj
  · rw [List.map_append, List.nodup_append]
    refine ⟨h.nd, by simp, fun a ha b hb => ?_⟩
    simp at hb
    subst hb
    exact fun e => hc (e ▸ ha)
theorem LInv.app {rs : RM} {lv cs od : List Nat} {fnd : List Room1} (h : LInv rs lv cs od fnd) {j : Nat} (hj : j < rs.length) (hc : col cs j ∉ od.map (col cs)) : LInv rs lv cs (od ++ [j]) fnd := by
  refine ⟨h.ord.app hj hc, by have := h.le; simp; omega, fun s hs => ?_⟩
  have := h.le
  rw [getD_app (by omega)]
  exact (h.rows s hs).app [j]
def dRow (row : Room1) : List D := row.map fun p => .tup [.str p.1, .int (p.2 : Nat)]
abbrev tRow (row : Room1) : List T := row.map fun p => .fz (.tup [.str p.1, .int (p.2 : Nat)])
abbrev tRows (fnd : List Room1) : List T := fnd.map fun r => .fz (.tup (dRow r))
def leastW (rs : RM) (es lv cs : List Nat) (n : Nat) (m : Tau) : Prop := ∃ (od : List Nat) (fnd : List Room1) (o7 o8 o9 o10 o11 : Option T),
  m = [some (.fz (eRooms rs)), some (.fz (.lst (eInts es))), some (.fz (.dct (kI lv) (lv.map fun _ => .bl true))), some (.fz (.lst (eInts cs))), some (ePlaces (od.map (col cs))), some (.ol (tInts od)), some (.ol (tRows fnd)), o7, o8, o9, o10, o11] ∧
  n = rs.length - fnd.length ∧ LInv rs lv cs od fnd ∧ bfs fnd 0 1 = some od.length
def leastI (rs : RM) (es lv cs : List Nat) (fnd : List Room1) (o : Nat) (names : List Str) (k : Nat) (m : Tau) : Prop := ∃ (od : List Nat) (row : Room1) (o9 o10 o11 : Option T),
  m = [some (.fz (eRooms rs)), some (.fz (.lst (eInts es))), some (.fz (.dct (kI lv) (lv.map fun _ => .bl true))), some (.fz (.lst (eInts cs))), some (ePlaces (od.map (col cs))), some (.ol (tInts od)), some (.ol (tRows fnd)), some (.ol (tRow row)), some (.fz (.int (o : Nat))), o9, o10, o11] ∧
  LInv rs lv cs od fnd ∧ fnd.length < od.length ∧ od.getD fnd.length 0 = o ∧ (∀ p ∈ row, PyData.strOk p.1 = true ∧ p.2 < od.length ∧ ∃ j, nextL rs lv o p.1 = some j ∧ col cs (od.getD p.2 0) = col cs j) ∧
  (∀ d ∈ names.take k, ∀ j, nextL rs lv o d = some j → d ∈ row.map (·.1)) ∧ row.length ≤ k ∧ (row.map (·.1)).Sublist (names.take k) ∧
  ∃ n0, bfs fnd 0 1 = some n0 ∧ fnd.length < n0 ∧ tgt (row.map (·.2)) n0 = some od.length
def wl_ret : WS := (wRet (wTup (wCons (wA (oA1 (oR1 dTup)) (wCons (wTake 6) wNil)) (wCons (wA (oA1 (oR1 dTup)) (wCons (wLc (iR1 (wView (wA (oA1 (oR1 dLen)) (wCons (wVar 5) wNil)))) (gN 11) (wViewT (wB (w2 (oR2 (dIn false)) (w2 oIxH (wVar 5) (wVar 11)) (wVar 1)))) (wVar 11) [11]) wNil)) wNil))))
def wl_while : WS := (wWhile (wViewT (wB (w2 oLt (wA (oA1 (oR1 dLen)) (wCons (wVar 6) wNil)) (wA (oA1 (oR1 dLen)) (wCons (wVar 5) wNil))))) (wSeq (wSet 7 (wLst wNil))
  (wSeq (wSetF 8 (wView (w2 oIxH (wVar 5) (wA (oA1 (oR1 dLen)) (wCons (wVar 6) wNil)))))
  (wSeq (wFor (iL (wA (oA1 (oL1 dSort)) (wCons (w2 oIxH (wVar 0) (wVar 8)) wNil))) (gN 9) (wSeq (wSetF 10 (w2 oIxH (w2 oIxH (wVar 0) (wVar 8)) (wVar 9)))
  (wIfS (wB (w2 (oR2 (dIn false)) (wVar 10) (wVar 2))) (wSeq (wIfS (wViewT (wB (w2 (oR2 (dIn true)) (w2 oIxH (wVar 3) (wVar 10)) (wVar 4)))) (wSeq (wPut 4 (wView (wA (oA1 (oR1 dLen)) (wCons (wVar 5) wNil))) (w2 oIxH (wVar 3) (wVar 10)))
  (wApp 5 (wVar 10))) wNext)
  (wApp 7 (wTup (wCons (wVar 9) (wCons (wView (w2 oIxH (wVar 4) (w2 oIxH (wVar 3) (wVar 10)))) wNil))))) wNext)))
  (wApp 6 (wA (oA1 (oR1 dTup)) (wCons (wTake 7) wNil)))))))
def wl_tail : WS := wSeq wl_while wl_ret
def wl_pre : WS := (wSeq (wSetF 2 (wA (oFn 2 o_live_rooms) (wCons (wVar 0) (wCons (wVar 1) wNil))))
  (wSeq (wSetF 3 (wA (oFn 3 o_room_kinds) (wCons (wVar 0) (wCons (wVar 1) (wCons (wVar 2) wNil)))))
  (wSeq (wSet 4 (wDisp1 (w2 oIxH (wVar 3) (wC (.int 0))) (wC (.int 0))))
  (wSeq (wSet 5 (wLst (wCons (wC (.int 0)) wNil)))
  (wSeq (wSet 6 (wLst wNil))
  wl_tail)))))
theorem wl_eq : w_least_rooms = wl_pre := rfl
theorem sp_least_rooms (xs : List T) (P : T → Prop) (R : Exn → Prop) (hn : xs.length = 2) (h : o_least_rooms xs P R) : w_least_rooms (VL.startT 12 xs) (EV P R) := by
  obtain ⟨rs, es, rfl, gd, h⟩ := h
  have sm := gd.small
  rw [wl_eq]
  simp [wl_pre]
  refine ⟨rs, es, rfl, gd, fun lv nd hl => ?_⟩
  simp
  refine ⟨rs, es, lv, _, rfl, gd, hl, fun cs clen hc => ?_⟩
  have hcol : ∀ i, i < rs.length → cs[i]? = some (col cs i) := fun i hi => by
    unfold col
    rw [List.getD_eq_getElem?_getD, List.getElem?_eq_getElem (by rw [clen]; exact hi)]
    rfl
  have hc' : ∀ i j, i < rs.length → j < rs.length → (col cs i = col cs j ↔ ∀ w, acc rs es i w = acc rs es j w) := fun i j hi hj => by
    have := hc i j hi hj
    rw [hcol i hi, hcol j hj] at this
    simpa using this
  have i0 : dIx (.lst (eInts cs)) (.int 0) = some (.int (col cs 0 : Nat)) := ix_ints (i := 0) (by rw [clen]; exact gd.pos)
  simp [i0, keyD]
  refine ⟨big_le (by omega), ?_⟩
  have e1 : T.od [Sum.inl ((col cs 0 : Nat) : Int)] [T.fz (.int 0)] = ePlaces ([0].map (col cs)) := by simp [kI]
  have e2 : T.ol [T.fz (.int 0)] = .ol (tInts [0]) := by simp [tInts]
  have e3 : T.ol [] = .ol (tRows []) := rfl
  rw [e1, e2, e3]
  unfold wl_tail
  simp only [wSeq]
  unfold wl_while
  refine ⟨leastW rs es lv cs, ⟨_, [0], [], _, _, _, _, _, rfl, rfl, ⟨⟨by simp, rfl, fun o ho => by simp at ho; rw [ho]; exact gd.pos, by simp⟩, Nat.zero_le _, fun s h => absurd h (Nat.not_lt_zero _)⟩, rfl⟩, ?_⟩
  rintro n m ⟨od, fnd, o7, o8, o9, o10, o11, rfl, rfl, I, num⟩
  have odl := I.ord.le
  have len1 : (tRows fnd).length = fnd.length := by simp
  have len2 : (tInts od).length = od.length := by simp [tInts]
  simp [dLen, er_tInts]
  by_cases q : fnd.length < od.length
  · have q' : (fnd.length : Int) < od.length := by omega
    have io := ix_ints (K := od) q
    have olt : col od fnd.length < rs.length := by
      unfold col
      rw [List.getD_eq_getElem?_getD, List.getElem?_eq_getElem q]
      exact I.ord.lt _ (List.getElem_mem q)
    have hm := List.getElem_mem olt
    obtain ⟨g1, g2, g3⟩ := gd.room _ hm
    simp [q, io, ix_rooms olt, sort_room g1]
    refine forL_at (leastI rs es lv cs fnd (col od fnd.length) (sS (rs[col od fnd.length].map (·.1)))) ?_ ?_ ⟨od, [], _, _, _, rfl, I, q, rfl, fun p hp => (List.not_mem_nil hp).elim, fun d hd => by simp at hd, Nat.le_refl _, List.Sublist.refl _, od.length, num, q, rfl⟩
    · generalize col od fnd.length = o at olt g1 g2 g3 hm ⊢
      clear I odl len2 q q' io num
      rintro k hk m ⟨od, row, o9, o10, o11, rfl, I, q, eo, r1, r2, r3, r4, n0, b1, b2, b3⟩ E' h1 h2 h3 h4 h5
      have odl := I.ord.le
      have hk2 : k < (sS (rs[o].map (·.1))).length := by simpa [eStrs] using hk
      have ed : (eStrs (sS (rs[o].map (·.1))))[k] = .str (sS (rs[o].map (·.1)))[k] := by simp [eStrs]
      rw [ed]
      have rk : row.length < sizeLine := by
        have := len_sS (l := rs[o].map (·.1))
        simp at this
        exact big_lt (by omega)
      have hd := mem_sS.mp (List.getElem_mem hk2)
      have etake : (sS (rs[o].map (·.1))).take (k + 1) = (sS (rs[o].map (·.1))).take k ++ [(sS (rs[o].map (·.1)))[k]] := List.take_succ_eq_append_getElem hk2
      generalize (sS (rs[o].map (·.1)))[k] = d at hd etake ⊢
      obtain ⟨j, ej⟩ := lookup_some hd
      obtain ⟨n1, hj⟩ := g3 _ (lookup_mem ej)
      have hj : j < rs.length := hj
      have n1 : isName d = true := n1
      have enx : nextL rs lv o d = if j ∈ lv then some j else none := by
        unfold nextL
        rw [stepR_at olt, ej]
      have ij : dIx (.lst (eInts cs)) (.int (j : Nat)) = some (.int (col cs j : Nat)) := ix_ints (by rw [clen]; exact hj)
      simp [ix_rooms olt, ej, in_found]
      by_cases z : j ∈ lv
      · rw [if_pos z] at enx
        have lenO : od.length < sizeLine := big_lt (by omega)
        have r3' : row.length < sizeLine := rk
        simp [z, ij, notIn_pl (cl := od.map (col cs)) (n := od.length) (by simp), dLen, er_tInts, keyD, kI_len]
        have fin : ∀ od', LInv rs lv cs od' fnd → fnd.length < od'.length → od'.getD fnd.length 0 = o → (∀ p ∈ row, PyData.strOk p.1 = true ∧ p.2 < od'.length ∧ ∃ j, nextL rs lv o p.1 = some j ∧ col cs (od'.getD p.2 0) = col cs j) → col cs j ∈ od'.map (col cs) → tgt [(od'.map (col cs)).idxOf (col cs j)] od.length = some od'.length →
            E'.nx [some (.fz (eRooms rs)), some (.fz (.lst (eInts es))), some (.fz (.dct (kI lv) (lv.map fun _ => .bl true))), some (.fz (.lst (eInts cs))), some (ePlaces (od'.map (col cs))), some (.ol (tInts od')), some (.ol (tRows fnd)), some (.ol (tRow row ++ [.fz (.tup [.str d, .int ((od'.map (col cs)).idxOf (col cs j) : Nat)])])), some (.fz (.int (o : Nat))), some (.fz (.str d)), some (.fz (.int (j : Nat))), o11] := fun od' I' q' eo' r1' hin ht => by
          obtain ⟨x1, x2⟩ := getD_idx hin
          refine h1 _ ⟨od', row ++ [(d, (od'.map (col cs)).idxOf (col cs j))], some (.fz (.str d)), some (.fz (.int (j : Nat))), o11, by simp, I', q', eo', fun p hp => ?_, fun d' hd' j' e' => ?_, by simp; omega, ?_, n0, b1, b2, ?_⟩
          · rcases List.mem_append.mp hp with hp | hp
            · exact r1' p hp
            · simp at hp
              subst hp
              exact ⟨strOk_name n1, x1, j, enx, x2⟩
          · rw [List.map_append, List.mem_append]
            rw [etake, List.mem_append] at hd'
            rcases hd' with hd' | hd'
            · exact .inl (r2 d' hd' j' e')
            · simp at hd'
              subst hd'
              exact .inr (by simp)
          · rw [etake, List.map_append]
            exact r4.append (List.Sublist.refl _)
          · rw [List.map_append, tgt_app b3]
            exact ht
        by_cases y : col cs j ∈ od.map (col cs)
        · have y' : ∃ a, a ∈ od ∧ col cs a = col cs j := List.mem_map.mp y
          have two : 2 ≤ sizeLine := big_le (by omega)
          simp [y', ix_pl (cl := od.map (col cs)) (n := od.length) (by simp) y]
          have ilt := (getD_idx y).1
          exact ⟨two, r3', fin od I q eo r1 y (by simp only [tgt, if_pos ilt])⟩
        · have y' : ¬ ∃ a, a ∈ od ∧ col cs a = col cs j := fun z => y (List.mem_map.mpr z)
          have two : 2 ≤ sizeLine := big_le (by omega)
          have lenT : (tInts od).length < sizeLine := by simpa [tInts] using lenO
          have yin : col cs j ∈ (od ++ [j]).map (col cs) := by simp
          have ecl : od.map (col cs) ++ [col cs j] = (od ++ [j]).map (col cs) := by simp
          simp only [y', decide_false, Bool.not_false]
          rw [put_pl (cl := od.map (col cs)) (n := od.length) (by simp) y, ecl]
          have hix := ix_pl (cl := (od ++ [j]).map (col cs)) (n := ((od ++ [j]).map (col cs)).length) rfl yin
          simp only [List.map_map]
          have ec : (T.er ∘ fun (x : Nat) => T.fz (.int (x : Int))) = fun (x : Nat) => D.int (x : Int) := rfl
          rw [ec, hix]
          simp only [sc_int, true_and]
          refine ⟨lenO, lenT, two, r3', ?_⟩
          have et : tInts od ++ [T.fz (.int (j : Nat))] = tInts (od ++ [j]) := by simp [tInts]
          rw [et]
          have eix : ((od ++ [j]).map (col cs)).idxOf (col cs j) = od.length := by
            rw [List.map_append, List.idxOf_append, if_neg y]
            simp
          refine fin (od ++ [j]) (I.app hj y) (by simp; omega) (by rw [getD_app q]; exact eo) (fun p hp => ?_) yin (by rw [eix]; simp [tgt])
          obtain ⟨s1, s2, j', s3, s4⟩ := r1 p hp
          exact ⟨s1, by simp; omega, j', s3, by rw [getD_app s2]; exact s4⟩
      · rw [if_neg z] at enx
        simp [z]
        refine h1 _ ⟨od, row, _, _, _, rfl, I, q, eo, r1, fun d' hd' j' e' => ?_, by omega, r4.trans (by rw [etake]; exact List.sublist_append_left _ _), n0, b1, b2, b3⟩
        rw [etake, List.mem_append] at hd'
        rcases hd' with hd' | hd'
        · exact r2 d' hd' j' e'
        · simp at hd'
          subst hd'
          rw [enx] at e'
          cases e'
    · rintro m ⟨od', row, o9', o10', o11', rfl, I', q', eo, r1, r2, r3, r4, n0, b1, b2, b3⟩
      have odl' := I'.ord.le
      have dtr : (tRow row).map T.er = dRow row := by simp [dRow]
      simp [dTup, dtr]
      have lenF : fnd.length < sizeLine := big_lt (by omega)
      refine ⟨lenF, ?_⟩
      have et : tRows fnd ++ [T.fz (.tup (dRow row))] = tRows (fnd ++ [row]) := by simp
      rw [et]
      refine ⟨rs.length - (fnd ++ [row]).length, by simp; omega, od', fnd ++ [row], _, _, _, _, _, rfl, rfl, ⟨I'.ord, by simp; omega, fun s hs => ?_⟩, (bfs_app b1 (by omega)).trans b3⟩
      by_cases e : s < fnd.length
      · rw [List.getElem_append_left e]
        exact I'.rows s e
      · have e2 : s = fnd.length := by simp at hs; omega
        subst e2
        rw [List.getElem_append_right (Nat.le_refl _)]
        simp only [Nat.sub_self, List.getElem_cons_zero]
        rw [eo]
        refine ⟨r1, fun d j hj => r2 d ?_ j hj, by
          rw [List.getD_eq_getElem?_getD, List.getElem?_eq_getElem olt]
          exact r4.trans (List.take_sublist _ _)⟩
        rw [List.take_of_length_le (by simp [eStrs])]
        rw [mem_sS]
        unfold nextL at hj
        rw [stepR_at olt] at hj
        cases z : rs[col od fnd.length].lookup d with
        | none => rw [z] at hj; cases hj
        | some x => exact List.mem_map_of_mem (lookup_mem z)
  · have q' : ¬ (fnd.length : Int) < od.length := by omega
    simp [q]
    have efn : fnd.length = od.length := by have := I.le; omega
    unfold wl_ret
    have dtr : (tRows fnd).map T.er = fnd.map fun r => .tup (dRow r) := by simp
    simp [dTup, dtr, dLen, er_tInts]
    refine ⟨by omega, ?_⟩
    have erng : rngD 0 od.length = (List.range od.length).map fun (i : Nat) => D.int (i : Int) := by simp [rngD]
    rw [erng]
    refine lcL_map (ms := fun (s : Nat) => [some (.fz (eRooms rs)), some (.fz (.lst (eInts es))), some (.fz (.dct (kI lv) (lv.map fun _ => .bl true))), some (.fz (.lst (eInts cs))), some (ePlaces (od.map (col cs))), some (.ol (tInts od)), none, o7, o8, o9, o10, some (.fz (.int (s : Nat)))])
      (f := fun s => if od.getD s 0 ∈ es then some (.fz (.int (s : Nat))) else none) (fun p => rfl) (fun s hs K1 K2 h => ?_) ?_ ?_
    · have hs' : s < od.length := List.mem_range.mp hs
      simp [er_tInts, ix_ints hs', dIn_nat]
      have : col od s = od.getD s 0 := rfl
      rw [this]
      by_cases z : od.getD s 0 ∈ es
      · rw [if_pos z] at h
        rw [decide_eq_true z]
        exact h
      · rw [if_neg z] at h
        rw [decide_eq_false z]
        exact h
    · simp
      exact big_le (by omega)
    · have e : ((List.range od.length).filterMap fun s => if od.getD s 0 ∈ es then some (T.fz (.int (s : Nat))) else none) = tInts ((List.range od.length).filter fun s => decide (od.getD s 0 ∈ es)) := by
        unfold tInts
        induction List.range od.length with
        | nil => rfl
        | cons a l ih =>
          by_cases z : od.getD a 0 ∈ es
          · rw [List.filterMap_cons, List.filter_cons]
            simp only [z, if_true, decide_true, List.map_cons]
            rw [ih]
          · rw [List.filterMap_cons, List.filter_cons]
            simp only [z, if_false, decide_false]
            rw [ih]
            simp
      simp only [List.nil_append]
      rw [e]
      simp [er_tInts]
      refine ⟨big_le (by omega), ?_⟩
      have := h _ _ (least_of gd hl hc' I efn num)
      simpa [eLeast, eEnds, dRow] using this
end Pg
set_option Elab.async false
set_option linter.all false
set_option maxRecDepth 100000
set_option maxHeartbeats 1000000
/-! S7: rooms that grow. -/
namespace Pg
open PySem PySem.Spec PyProof.Rows L2 VL
def kR (r : Room1) : List Key := r.map fun p => .inr p.1
def vR (r : Room1) : List T := r.map fun p => .fz (.int (p.2 : Nat))
abbrev tRoom (r : Room1) : T := .od (kR r) (vR r)
theorem er_room {r : Room1} : (tRoom r).er = eRoom r := by simp [kR, vR, eRoom]
def putR (r : Room1) (d : Str) (v : Nat) : Room1 := if d ∈ r.map (·.1) then r.set (r.findIdx fun p => decide (p.1 = d)) (d, v) else r ++ [(d, v)]
theorem memK_kR {r : Room1} {d : Str} : memK (kR r) (.inr d) = decide (d ∈ r.map (·.1)) := by
  have : ∀ b : Bool, (b = true ↔ d ∈ r.map (·.1)) → b = decide (d ∈ r.map (·.1)) := fun b h => by
    cases b with
    | true => exact (decide_eq_true (h.mp rfl)).symm
    | false => exact (decide_eq_false fun z => Bool.false_ne_true (h.mpr z)).symm
  apply this
  rw [memK_iff]
  unfold kR
  simp only [List.mem_map]
  refine ⟨fun ⟨a, h, e⟩ => ⟨a, h, by injection e⟩, fun ⟨a, h, e⟩ => ⟨a, h, by rw [e]⟩⟩
theorem find_kR {d : Str} : ∀ {r : Room1}, ((kR r).findIdx fun q => decide (q = .inr d)) = r.findIdx fun p => decide (p.1 = d)
  | [] => rfl
  | p :: r => by
    have ih := find_kR (d := d) (r := r)
    unfold kR at ih ⊢
    simp only [List.map_cons, List.findIdx_cons]
    rw [ih]
    have : decide ((Sum.inr p.1 : Key) = .inr d) = decide (p.1 = d) := by
      apply decide_eq_decide.mpr
      exact ⟨fun z => by injection z, fun z => by rw [z]⟩
    rw [this]
theorem find_lt {d : Str} {r : Room1} (h : d ∈ r.map (·.1)) : (r.findIdx fun p => decide (p.1 = d)) < r.length := by
  apply List.findIdx_lt_length_of_exists
  obtain ⟨p, hp, e⟩ := List.mem_map.mp h
  exact ⟨p, hp, by simpa using e⟩
theorem keys_put {d : Str} {v : Nat} {r : Room1} (h : d ∈ r.map (·.1)) : (r.set (r.findIdx fun p => decide (p.1 = d)) (d, v)).map (·.1) = r.map (·.1) := by
  rw [List.map_set]
  have hl := find_lt h
  have e : r[r.findIdx fun p => decide (p.1 = d)].1 = d := by
    have := List.findIdx_getElem (w := hl) (xs := r) (p := fun p => decide (p.1 = d))
    simpa using this
  have e2 : (r.map (·.1))[r.findIdx fun p => decide (p.1 = d)]'(by simpa using hl) = d := by
    rw [List.getElem_map]
    exact e
  conv => lhs; arg 3; rw [show ((d, v) : Str × Nat).1 = d from rfl, ← e2]
  exact List.set_getElem_self _
theorem put_room {r : Room1} {d : Str} {v : Nat} : putL (kR r) (vR r) (.inr d) (.fz (.int (v : Nat))) = (kR (putR r d v), vR (putR r d v)) := by
  unfold putL putR
  rw [memK_kR]
  by_cases h : d ∈ r.map (·.1)
  · rw [if_pos (by simpa using h), if_pos h, find_kR]
    have e1 : kR (r.set (r.findIdx fun p => decide (p.1 = d)) (d, v)) = kR r := by
      have := congrArg (List.map (Sum.inr : Str → Key)) (keys_put (v := v) h)
      simpa [kR, Function.comp_def] using this
    rw [e1]
    simp [vR, List.map_set]
  · rw [if_neg (by simpa using h), if_neg h]
    simp [kR, vR]
structure RowG (l : List Str) (c : Nat) (r : Room1) : Prop where
  nd : (r.map (·.1)).Nodup
  mem : ∀ p ∈ r, p.1 ∈ l ∧ p.2 < c
theorem RowG.put {l : List Str} {c : Nat} {r : Room1} (h : RowG l c r) {d : Str} {v : Nat} (hd : d ∈ l) (hv : v < c) : RowG l c (putR r d v) ∧ (putR r d v).length ≤ r.length + 1 := by
  unfold putR
  by_cases q : d ∈ r.map (·.1)
  · rw [if_pos q]
    refine ⟨⟨by rw [keys_put q]; exact h.nd, fun p hp => ?_⟩, by simp⟩
    rcases List.mem_or_eq_of_mem_set hp with hp | rfl
    · exact h.mem p hp
    · exact ⟨hd, hv⟩
  · rw [if_neg q]
    refine ⟨⟨?_, fun p hp => ?_⟩, by simp⟩
    · rw [List.map_append, List.nodup_append]
      refine ⟨h.nd, by simp, fun a ha b hb => ?_⟩
      simp at hb
      subst hb
      exact fun e => q (e ▸ ha)
    · rcases List.mem_append.mp hp with hp | hp
      · exact h.mem p hp
      · simp at hp
        subst hp
        exact ⟨hd, hv⟩
end Pg
set_option Elab.async false
set_option linter.all false
set_option maxRecDepth 100000
set_option maxHeartbeats 4000000
/-! VL30: views that tell tuples. -/
namespace VL
open PySem PySem.Spec PyProof.Rows L2
mutual
theorem Rp.notup {F H : Hp} {us : List V} : ∀ {t : T} {v : V} {f : Fp}, Rp F H t v f → ∀ a, f a → H a ≠ some (.tup us)
  | .fz d, v, f, h, a, ha => by
    simp only [Rp] at h
    obtain ⟨_, rfl⟩ := h
    exact ha.elim
  | .ol l, v, f, h, a, ha => by
    simp only [Rp] at h
    obtain ⟨b, vs, g, rfl, h1, h2, h3, rfl⟩ := h
    rcases ha with rfl | ha
    · rw [h1]
      exact fun z => by cases z
    · exact RpL.notup h2 a ha
  | .od ks l, v, f, h, a, ha => by
    simp only [Rp] at h
    obtain ⟨b, vs, g, rfl, h1, hl, h2, h3, rfl⟩ := h
    rcases ha with rfl | ha
    · rw [h1]
      exact fun z => by cases z
    · exact RpL.notup h2 a ha
  | .oi C fs l, v, f, h, a, ha => by
    simp only [Rp] at h
    obtain ⟨b, dx, vs, g, rfl, h1, hl, h2, h3, rfl⟩ := h
    rcases ha with rfl | ha
    · rw [h1]
      exact fun z => by cases z
    · exact RpL.notup h2 a ha
  | .on P w es, v, f, h, a, ha => by
    simp only [Rp] at h
    obtain ⟨b, kvs, rfl, h1, h2, rfl⟩ := h
    cases ha
    rw [h1]
    exact fun z => by cases z
theorem RpL.notup {F H : Hp} {us : List V} : ∀ {l : List T} {vs : List V} {f : Fp}, RpL F H l vs f → ∀ a, f a → H a ≠ some (.tup us)
  | [], vs, f, h, a, ha => by
    simp only [RpL] at h
    obtain ⟨_, rfl⟩ := h
    exact ha.elim
  | t :: l, vs, f, h, a, ha => by
    simp only [RpL] at h
    obtain ⟨v, vr, f1, f2, rfl, h1, h2, h3, rfl⟩ := h
    rcases ha with ha | ha
    · exact Rp.notup h1 a ha
    · exact RpL.notup h2 a ha
end
theorem RpS.notup {F H : Hp} {us : List V} : ∀ {m : Tau} {s : L2.St} {f : Fp}, RpS F H s m f → ∀ a, f a → H a ≠ some (.tup us)
  | [], s, f, h, a, ha => by
    simp only [RpS] at h
    rw [h.2] at ha
    exact ha.elim
  | none :: m, s, f, h, a, ha => by
    simp only [RpS] at h
    obtain ⟨o, sr, rfl, h⟩ := h
    exact h.notup a ha
  | some t :: m, s, f, h, a, ha => by
    simp only [RpS] at h
    obtain ⟨v, sr, f1, f2, rfl, h1, h2, h3, rfl⟩ := h
    rcases ha with ha | ha
    · exact h1.notup a ha
    · exact h2.notup a ha
mutual
/-- scalars, and tuples of such -/
def fltD : D → Bool
  | .non => true
  | .bl _ => true
  | .int _ => true
  | .str _ => true
  | .tup l => fltL l
  | _ => false
def fltL : List D → Bool
  | [] => true
  | d :: l => fltD d && fltL l
end
mutual
theorem Fz.flat {F F' : Hp} (k : ∀ a us, F a = some (.tup us) → F' a = some (.tup us)) : ∀ {d : D} {v : V}, Fz F d v → fltD d = true → Fz F' d v
  | .non, _, h, _ => by simpa only [Fz] using h
  | .bl _, _, h, _ => by simpa only [Fz] using h
  | .int _, _, h, _ => by simpa only [Fz] using h
  | .str _, _, h, _ => by simpa only [Fz] using h
  | .tup l, v, h, e => by
    simp only [Fz] at h ⊢
    obtain ⟨a, vs, h1, h2, h3⟩ := h
    exact ⟨a, vs, h1, k _ _ h2, FzL.flat k h3 (by simpa only [fltD] using e)⟩
  | .lst _, _, _, e => by simp [fltD] at e
  | .dct _ _, _, _, e => by simp [fltD] at e
  | .ins _ _ _, _, _, e => by simp [fltD] at e
  | .any, _, _, e => by simp [fltD] at e
  | .scr _ _, _, _, e => by simp [fltD] at e
theorem FzL.flat {F F' : Hp} (k : ∀ a us, F a = some (.tup us) → F' a = some (.tup us)) : ∀ {l : List D} {vs : List V}, FzL F l vs → fltL l = true → FzL F' l vs
  | [], _, h, _ => by simpa only [FzL] using h
  | d :: l, vs, h, e => by
    simp only [fltL, Bool.and_eq_true] at e
    simp only [FzL] at h ⊢
    obtain ⟨v, vr, h1, h2, h3⟩ := h
    exact ⟨v, vr, h1, Fz.flat k h2 e.1, FzL.flat k h3 e.2⟩
end
open Classical in
theorem St.view2 {lk : Lk} {B F H : Hp} {s : L2.St} {m : Tau} {vs : List V} {ts : List T} (st : St lk B F H s m vs ts) :
    ∃ B1 F1, St lk B1 F1 H s (frzM m) [] [] ∧ ∀ F2 H2 m2 u d, Gr B1 F1 F2 → St lk B1 F2 H2 s m2 [u] [.fz d] → fltD d = true → ∃ F3, Gr B F F3 ∧ St lk B F3 H2 s m (u :: vs) (.fz d :: ts) := by
  obtain ⟨f, g, h1, h2, h3, h4⟩ := st.ex
  have eF : Same F (fun a => if f a then H a else F a) := fun a o q => by
    show (if f a then H a else F a) = some o
    rw [if_neg]
    · exact q
    · intro z
      have := (h4 a (.inl z)).1
      rw [q] at this
      cases this
  refine ⟨fun a => if g a then H a else B a, fun a => if f a then H a else F a, ⟨⟨fun _ => False, fun _ => False, h1.frzAll eF fun a p => if_pos p, ?_, fun _ z _ => z, fun a p => (p.elim id id).elim⟩, fun a o q => ?_, fun a o q => ?_, fun a q => ?_⟩, ?_⟩
  · simp only [RpL]
    exact ⟨trivial, trivial⟩
  · have q : (if f a then H a else F a) = some o := q
    by_cases z : f a
    · rw [if_pos z] at q
      exact .inl q
    · rw [if_neg z] at q
      exact st.fr a o q
  · have q : (if g a then H a else B a) = some o := q
    by_cases z : g a
    · rw [if_pos z] at q
      exact .inl q
    · rw [if_neg z] at q
      exact st.bk.sub a o q
  · obtain ⟨ob, o, e⟩ := st.bk.own a q
    refine ⟨ob, o, ?_⟩
    show (if g a then H a else B a) = _
    rw [if_neg]
    · exact e
    · intro z
      rw [(h4 a (.inr z)).2] at e
      cases e
  · intro F2 H2 m2 u d gr st2 hd
    have nlk : ∀ a, f a ∨ g a → ¬ lk a := fun a p z => by
      obtain ⟨ob, o', e'⟩ := st.bk.own a z
      rw [(h4 a p).2] at e'
      cases e'
    have atF : ∀ a, f a → ∃ o, H a = some o ∧ F2 a = some o := fun a p => by
      obtain ⟨o, e⟩ := h1.dom a p
      refine ⟨o, e, gr.same a o ?_⟩
      show (if f a then H a else F a) = some o
      rw [if_pos p]
      exact e
    have atB : ∀ a, g a → ∃ o, H a = some o ∧ (if g a then H a else B a) = some o := fun a p => by
      obtain ⟨o, e⟩ := h2.dom a p
      exact ⟨o, e, by rw [if_pos p]; exact e⟩
    have keepf : ∀ a, f a → H2 a = H a := fun a p => by
      obtain ⟨o, e, e2⟩ := atF a p
      rcases st2.fr a o e2 with z | ⟨z, _⟩
      · rw [z, e]
      · exact (nlk a (.inl p) z).elim
    have keepg : ∀ a, g a → H2 a = H a := fun a p => by
      obtain ⟨o, e, e2⟩ := atB a p
      rcases st2.bk.sub a o e2 with z | ⟨z, _⟩
      · rw [z, e]
      · exact (nlk a (.inr p) z).elim
    have gn : ∀ a, g a → F2 a = none := fun a p => by
      cases q : F2 a with
      | none => rfl
      | some o =>
        rcases gr.new a o q with z | z
        · have z : (if f a then H a else F a) = some o := z
          rw [if_neg (fun y => h3 a y p), (h4 a (.inr p)).1] at z
          cases z
        · obtain ⟨o, _, e⟩ := atB a p
          have z : (if g a then H a else B a) = none := z
          rw [e] at z
          cases z
    have nf : ∀ a o, F a = some o → ¬ f a := fun a o q z => by
      rw [(h4 a (.inl z)).1] at q
      cases q
    have fd := (St.tfz st2).1
    have s3 : Same F fun a => if f a then none else F2 a := fun a o q => by
      show (if f a then none else F2 a) = some o
      rw [if_neg (nf a o q)]
      exact gr.same a o (eF a o q)
    have toF2 : ∀ a o, (if f a then none else F2 a) = some o → ¬ f a ∧ F2 a = some o := fun a o q => by
      by_cases z : f a
      · rw [if_pos z] at q
        cases q
      · rw [if_neg z] at q
        exact ⟨z, q⟩
    refine ⟨fun a => if f a then none else F2 a, ⟨s3, fun a o q => ?_⟩, ⟨f, g, h1.frame s3 keepf, ?_, h3, fun a p => ?_⟩, fun a o q => ?_, fun a o q => ?_, st.bk.own⟩
    · obtain ⟨z, q⟩ := toF2 a o q
      rcases gr.new a o q with y | y
      · have y : (if f a then H a else F a) = some o := y
        rw [if_neg z] at y
        exact .inl y
      · have y : (if g a then H a else B a) = none := y
        by_cases w : g a
        · rw [gn a w] at q
          cases q
        · rw [if_neg w] at y
          exact .inr y
    · have hz : Fz (fun a => if f a then none else F2 a) d u := Fz.flat (fun a us q => by
        show (if f a then none else F2 a) = _
        rw [if_neg]
        · exact q
        · intro z
          obtain ⟨o, e1, e2⟩ := atF a z
          rw [q] at e2
          exact h1.notup (us := us) a z (by rw [e1, ← e2])) fd hd
      rw [RpL]
      refine ⟨u, vs, fun _ => False, g, rfl, ?_, h2.frame s3 keepg, fun _ z _ => z, by funext b; simp⟩
      simp only [Rp]
      exact ⟨hz, trivial⟩
    · rcases p with p | p
      · exact ⟨if_pos p, (h4 a (.inl p)).2⟩
      · refine ⟨?_, (h4 a (.inr p)).2⟩
        show (if f a then none else F2 a) = none
        rw [if_neg (fun y => h3 a y p)]
        exact gn a p
    · exact st2.fr a o (toF2 a o q).2
    · refine st2.bk.sub a o ?_
      show (if g a then H a else B a) = some o
      rw [if_neg]
      · exact q
      · intro z
        rw [(h4 a (.inr z)).2] at q
        cases q
def fltT : T → Bool
  | .fz d => fltD d
  | _ => false
def wView2 (w : WE) : WE := fun m Q => w (frzM m) fun t _ => fltT t = true ∧ Q t m
theorem v_view2 {X : Cx} {e : Expr} {w : WE} {lk : Lk} (h : PE X e (LE lk w)) : PE X e (LE lk (wView2 w)) := pe_mono h fun s H Q q => by
  obtain ⟨B, F, m, vs, ts, P, st, hw, k⟩ := q
  obtain ⟨B1, F1, st1, back⟩ := st.view2
  refine ⟨B1, F1, frzM m, [], [], _, st1, hw, fun t m2 ht v F2 H2 g2 st2 => ?_⟩
  cases t with
  | fz d =>
    obtain ⟨F3, g3, st3⟩ := back F2 H2 m2 v d g2 st2 (by simpa [fltT] using ht.1)
    exact k _ m ht.2 v F3 H2 g3 st3
  | _ => exact absurd ht.1 (by simp [fltT])
@[simp ↓] theorem sx_wView2 : type_of% @wView2.eq_def := @wView2.eq_def
@[simp] theorem fl_non : fltT (.fz .non) = true := by simp [fltT, fltD]
@[simp] theorem fl_bl {b : Bool} : fltT (.fz (.bl b)) = true := by simp [fltT, fltD]
@[simp] theorem fl_int {i : Int} : fltT (.fz (.int i)) = true := by simp [fltT, fltD]
@[simp] theorem fl_str {z : Str} : fltT (.fz (.str z)) = true := by simp [fltT, fltD]
@[simp] theorem fl_tup {l : List D} : fltT (.fz (.tup l)) = l.all fltD := by
  simp only [fltT, fltD]
  induction l with
  | nil => simp [fltL]
  | cons d l ih => simp [fltL, ih]
end VL
set_option Elab.async false
set_option linter.all false
set_option maxRecDepth 100000
set_option maxHeartbeats 1000000
/-! R1: what the signs and methods of rules promise; their meanings as the generator prints them. -/
namespace Pg
open PySem PySem.Spec PyProof.Rows L2 VL
def Names (l : List Str) : Prop := ∀ z ∈ l, isName z = true
/-- a rule over the deeds l -/
structure Ru (l : List Str) (lr : RM) (le : List Nat) : Prop where
  wf : WfL lr
  canon : Canon lr le
  over : ∀ r ∈ lr, ∀ p ∈ r, p.1 ∈ l
/-- names, not too many -/
structure Abc (l : List Str) : Prop where
  nm : Names l
  few : l.length ≤ 20
abbrev tRule (C : Addr) (lr : RM) (le : List Nat) : T := .oi C ["kept_rooms", "kept_ends"] [.fz (eLeast lr), .fz (eEnds le)]
def comb (b x y : Bool) : Bool := match b with
  | true => x && y
  | false => x || y
/-- the deeds of a room, if there is one -/
def deedsAt (lr : RM) : Option Nat → List Str
  | none => []
  | some k => (lr.getD k []).map (·.1)
def accO (lr : RM) (le : List Nat) : Option Nat → List Str → Bool
  | none, _ => false
  | some k, w => acc lr le k w
def stepO (lr : RM) (i : Option Nat) (d : Str) : Option Nat := i.bind fun k => stepR lr k d
/-- days: by length, then as lists -/
def lexS : List Str → List Str → Prop
  | [], _ :: _ => True
  | a :: u, b :: v => (leS a b = true ∧ a ≠ b) ∨ (a = b ∧ lexS u v)
  | _, [] => False
def before (u v : List Str) : Prop := u.length < v.length ∨ (u.length = v.length ∧ lexS u v)
def eDays (ws : List (List Str)) : List D := ws.map fun w => .lst (eStrs w)
def o_check_day : OX := fun xs P _ => ∃ w, xs = [.fz (.lst (eStrs w))] ∧ Names w ∧ P (.fz .non)
def o_deeds_of : OX := fun xs P _ => ∃ lr i, xs = [.fz (eLeast lr), .fz (oInt i)] ∧ (∀ k, i = some k → k < lr.length) ∧ (∀ r ∈ lr, r.length ≤ 100000) ∧ P (.ol ((deedsAt lr i).map fun z => .fz (.str z)))
def o_paired (C : Addr) : OX := fun xs P _ => ∃ l lr le lr' le' b, xs = [.fz (eRule C lr le), .fz (eRule C lr' le'), .fz (.bl b)] ∧ Ru l lr le ∧ Ru l lr' le' ∧ Abc l ∧ (lr.length + 1) * (lr'.length + 1) ≤ 100000 ∧
  ∀ rs es, Good rs es → rs.length ≤ (lr.length + 1) * (lr'.length + 1) → (∀ r ∈ rs, ∀ p ∈ r, p.1 ∈ l) → (∀ w, acc rs es 0 w = comb b (acc lr le 0 w) (acc lr' le' 0 w)) → P (.fz (.tup [eRooms rs, .lst (eInts es)]))
def o_from_behind (C : Addr) : OX := fun xs P _ => ∃ l lr le, xs = [.fz (eRule C lr le)] ∧ Ru l lr le ∧ Abc l ∧ 2 ^ lr.length ≤ 100000 ∧
  ∀ rs es, Good rs es → rs.length ≤ 2 ^ lr.length → (∀ r ∈ rs, ∀ p ∈ r, p.1 ∈ l) → (∀ w, acc rs es 0 w = acc lr le 0 w.reverse) → P (.fz (.tup [eRooms rs, .lst (eInts es)]))
def o_len (C : Addr) : OX := fun xs P _ => ∃ lr le, xs = [.fz (eRule C lr le)] ∧ P (.fz (.int (lr.length : Nat)))
def o_eq (C : Addr) : OX := fun xs P _ => ∃ l l' lr le lr' le', xs = [.fz (eRule C lr le), .fz (eRule C lr' le')] ∧ Ru l lr le ∧ Ru l' lr' le' ∧ ∀ b : Bool, (b = true ↔ ∀ w, acc lr le 0 w = acc lr' le' 0 w) → P (.fz (.bl b))
def o_both (C : Addr) (b : Bool) : OX := fun xs P _ => ∃ l lr le lr' le', xs = [.fz (eRule C lr le), .fz (eRule C lr' le')] ∧ Ru l lr le ∧ Ru l lr' le' ∧ Abc l ∧ (lr.length + 1) * (lr'.length + 1) ≤ 100000 ∧
  ∀ rr re, Ru l rr re → rr.length ≤ (lr.length + 1) * (lr'.length + 1) → (∀ w, acc rr re 0 w = comb b (acc lr le 0 w) (acc lr' le' 0 w)) → P (tRule C rr re)
def o_invert (C : Addr) : OX := fun xs P _ => ∃ l lr le, xs = [.fz (eRule C lr le)] ∧ Ru l lr le ∧ Abc l ∧ 2 ^ lr.length ≤ 100000 ∧
  ∀ rr re, Ru l rr re → rr.length ≤ 2 ^ lr.length → (∀ w, acc rr re 0 w = acc lr le 0 w.reverse) → P (tRule C rr re)
def o_within (C : Addr) : OX := fun xs P _ => ∃ l lr le lr' le', xs = [.fz (eRule C lr le), .fz (eRule C lr' le')] ∧ Ru l lr le ∧ Ru l lr' le' ∧ Abc l ∧ (lr.length + 1) * (lr'.length + 1) ≤ 100000 ∧
  ∀ b : Bool, (b = true ↔ ∀ w, acc lr le 0 w = true → acc lr' le' 0 w = true) → P (.fz (.bl b))
def o_first_unlike (C : Addr) : OX := fun xs P _ => ∃ l lr le lr' le', xs = [.fz (eRule C lr le), .fz (eRule C lr' le')] ∧ Ru l lr le ∧ Ru l lr' le' ∧ Abc l ∧ (lr.length + 1) * (lr'.length + 1) ≤ 100000 ∧
  ((∀ w, acc lr le 0 w = acc lr' le' 0 w) → P (.fz .non)) ∧ ∀ w, acc lr le 0 w ≠ acc lr' le' 0 w → (∀ v, before v w → acc lr le 0 v = acc lr' le' 0 v) → P (.fz (.lst (eStrs w)))
def o_of_days (C : Addr) : OX := fun xs P _ => ∃ (l : List Str) (ws : List (List Str)), xs = [.fz (.lst (eDays ws))] ∧ Abc l ∧ (∀ w ∈ ws, ∀ d ∈ w, d ∈ l) ∧ ws.flatten.length ≤ 900 ∧ ws.length ≤ 900 ∧
  ∀ rr re, Ru l rr re → rr.length ≤ ws.flatten.length + 1 → (∀ w, acc rr re 0 w = decide (w ∈ ws)) → P (tRule C rr re)
-- check_day: 0 day, 1 deed
def w_check_day : WS := (wFor (iL (wVar 0)) (gN 1) (wIfS (wNot (wB (wA (oFn 1 o_is_name) (wCons (wVar 1) wNil)))) wNever wNext))
-- deeds_of: 0 rooms, 1 index, 2 deed, 3 behind
def w_deeds_of : WS := (wRet (wIf (wB (w2 (oR2 (dIsN true)) (wVar 1) (wC .non))) (wLc (iT (w2 oIxH (wVar 0) (wVar 1))) (gT [(gN 2), (gN 3)]) wYes (wVar 2) [2, 3]) (wLst wNil)))
-- paired: 0 one, 1 other, 2 is_both, 3 places, 4 order, 5 rooms, 6 ends, 7 at, 8 mine, 9 its, 10 steps, 11 deed, 12 told, 13 later
def w_paired (P : Program) (w : World) (C_Rule : Addr) : WS := (wSeq (wSet 3 (wDisp1N P w (wTup (wCons (wC (.int 0)) (wCons (wC (.int 0)) wNil))) (wC (.int 0))))
  (wSeq (wSet 4 (wLst (wCons (wTup (wCons (wC (.int 0)) (wCons (wC (.int 0)) wNil))) wNil)))
  (wSeq (wSet 5 (wLst wNil))
  (wSeq (wWhile (wViewT (wB (w2 oLt (wA (oA1 (oR1 dLen)) (wCons (wVar 5) wNil)) (wA (oA1 (oR1 dLen)) (wCons (wVar 4) wNil))))) (wSeq (wAsg (wView2 (w2 oIxH (wVar 4) (wA (oA1 (oR1 dLen)) (wCons (wVar 5) wNil)))) (gT [(gN 8), (gN 9)]))
  (wSeq (wSet 10 wNewD)
  (wSeq (wFor (iL (wSSet (w2 oAdd (wA (oFn 2 o_deeds_of) (wCons (wFz (w1 (oFld C_Rule "kept_rooms") (wVar 0))) (wCons (wVar 8) wNil))) (wA (oFn 2 o_deeds_of) (wCons (wFz (w1 (oFld C_Rule "kept_rooms") (wVar 1))) (wCons (wVar 9) wNil)))))) (gN 11) (wSeq (wSetF 13 (wTup (wCons (wA (oFn 3 o_room_behind) (wCons (wFz (w1 (oFld C_Rule "kept_rooms") (wVar 0))) (wCons (wVar 8) (wCons (wVar 11) wNil)))) (wCons (wA (oFn 3 o_room_behind) (wCons (wFz (w1 (oFld C_Rule "kept_rooms") (wVar 1))) (wCons (wVar 9) (wCons (wVar 11) wNil)))) wNil))))
  (wIfS (wOr (wNot (wB (wVar 2))) (wAnd (wB (w2 (oR2 (dIsN true)) (w2 oIxH (wVar 13) (wC (.int 0))) (wC .non))) (wB (w2 (oR2 (dIsN true)) (w2 oIxH (wVar 13) (wC (.int 1))) (wC .non))))) (wSeq (wIfS (wB (wInN P w true (wVar 13) 3)) (wSeq (wPutN P w 3 (wView (wA (oA1 (oR1 dLen)) (wCons (wVar 4) wNil))) (wVar 13))
  (wApp 4 (wVar 13))) wNext)
  (wPut 10 (wIxN P w 3 (wVar 13)) (wVar 11))) wNext)))
  (wApp 5 (wTake 10))))))
  (wSeq (wSet 6 (wLst wNil))
  (wSeq (wFor (iR1 (wView (wA (oA1 (oR1 dLen)) (wCons (wVar 4) wNil)))) (gN 7) (wSeq (wSetF 12 (wLst (wCons (wView (w2 (oR2 (dIn false)) (w2 oIxH (w2 oIxH (wVar 4) (wVar 7)) (wC (.int 0))) (w1 (oFld C_Rule "kept_ends") (wVar 0)))) (wCons (wView (w2 (oR2 (dIn false)) (w2 oIxH (w2 oIxH (wVar 4) (wVar 7)) (wC (.int 1))) (w1 (oFld C_Rule "kept_ends") (wVar 1)))) wNil))))
  (wIfS (wIfT (wB (wVar 2)) (wB (wA (oA1 (oR1 dAll)) (wCons (wVar 12) wNil))) (wB (wA (oA1 (oR1 dAny)) (wCons (wVar 12) wNil)))) (wApp 6 (wVar 7)) wNext)))
  (wRet (wTup (wConsL 5 (wConsL 6 wNil))))))))))
-- from_behind: 0 rule, 1 places, 2 order, 3 rooms, 4 group, 5 steps, 6 deed, 7 later, 8 index, 9 at, 10 known, 11 step
def w_from_behind (P : Program) (w : World) (C_Rule : Addr) : WS := (wSeq (wSet 1 (wDisp1N P w (w1 (oFld C_Rule "kept_ends") (wVar 0)) (wC (.int 0))))
  (wSeq (wSet 2 (wLst (wCons (w1 (oFld C_Rule "kept_ends") (wVar 0)) wNil)))
  (wSeq (wSet 3 (wLst wNil))
  (wSeq (wWhile (wViewT (wB (w2 oLt (wA (oA1 (oR1 dLen)) (wCons (wVar 3) wNil)) (wA (oA1 (oR1 dLen)) (wCons (wVar 2) wNil))))) (wSeq (wSetF 4 (wView2 (w2 oIxH (wVar 2) (wA (oA1 (oR1 dLen)) (wCons (wVar 3) wNil)))))
  (wSeq (wSet 5 wNewD)
  (wSeq (wFor (iL (wSSet (wLc2 (iT (w1 (oFld C_Rule "kept_rooms") (wVar 0))) (gN 10) wYes (iT (wVar 10)) (gN 11) wYes (w2 oIxH (wVar 11) (wC (.int 0))) [10, 11] [11]))) (gN 6) (wSeq (wSet 7 (wLst wNil))
  (wSeq (wFor (iR1 (wA (oA1 (oR1 dLen)) (wCons (w1 (oFld C_Rule "kept_rooms") (wVar 0)) wNil))) (gN 8) (wIfS (wB (w2 (oR2 (dIn false)) (wA (oFn 3 o_room_behind) (wCons (wFz (w1 (oFld C_Rule "kept_rooms") (wVar 0))) (wCons (wVar 8) (wCons (wVar 6) wNil)))) (wVar 4))) (wApp 7 (wVar 8)) wNext))
  (wIfS (wViewT (wB (w2 (oR2 (dEq true)) (wVar 7) (wLst wNil)))) (wSeq (wIfS (wB (wInN P w true (wA (oA1 (oR1 dTup)) (wCons (wFrz 7) wNil)) 1)) (wSeq (wPutN P w 1 (wView (wA (oA1 (oR1 dLen)) (wCons (wVar 2) wNil))) (wA (oA1 (oR1 dTup)) (wCons (wFrz 7) wNil)))
  (wApp 2 (wA (oA1 (oR1 dTup)) (wCons (wFrz 7) wNil)))) wNext)
  (wPut 5 (wIxN P w 1 (wA (oA1 (oR1 dTup)) (wCons (wFrz 7) wNil))) (wVar 6))) wNext))))
  (wApp 3 (wTake 5))))))
  (wRet (wTup (wConsL 3 (wCons (wLc (iR1 (wView (wA (oA1 (oR1 dLen)) (wCons (wVar 2) wNil)))) (gN 9) (wViewT (wB (w2 (oR2 (dIn false)) (wC (.int 0)) (w2 oIxH (wVar 2) (wVar 9))))) (wVar 9) [9]) wNil))))))))
-- Rule.__len__: 0 self
def w_len (C_Rule : Addr) : WS := (wRet (wA (oA1 (oR1 dLen)) (wCons (w1 (oFld C_Rule "kept_rooms") (wVar 0)) wNil)))
-- Rule.__eq__: 0 self, 1 other
def w_eq (C_Rule : Addr) : WS := (wSeq (wIfS (wNot (wB (w1 (oIsI C_Rule) (wVar 1)))) (wRet (wC (.bl false))) wNext)
  (wRet (wAndV (w2 (oR2 (dEq false)) (w1 (oFld C_Rule "kept_rooms") (wVar 0)) (w1 (oFld C_Rule "kept_rooms") (wVar 1))) (w2 (oR2 (dEq false)) (w1 (oFld C_Rule "kept_ends") (wVar 0)) (w1 (oFld C_Rule "kept_ends") (wVar 1))))))
-- Rule.__and__: 0 self, 1 other, 2 rooms, 3 ends
def w_and (C_Rule : Addr) : WS := (wSeq (wAsg (wA (oFn 3 (o_paired C_Rule)) (wCons (wVar 0) (wCons (wVar 1) (wCons (wC (.bl true)) wNil)))) (gT [(gN 2), (gN 3)]))
  (wRet (wA (oMk C_Rule 3 (o_init C_Rule)) (wCons (wVar 2) (wCons (wVar 3) wNil)))))
-- Rule.__or__: 0 self, 1 other, 2 rooms, 3 ends
def w_or (C_Rule : Addr) : WS := (wSeq (wAsg (wA (oFn 3 (o_paired C_Rule)) (wCons (wVar 0) (wCons (wVar 1) (wCons (wC (.bl false)) wNil)))) (gT [(gN 2), (gN 3)]))
  (wRet (wA (oMk C_Rule 3 (o_init C_Rule)) (wCons (wVar 2) (wCons (wVar 3) wNil)))))
-- Rule.__invert__: 0 self, 1 rooms, 2 ends
def w_invert (C_Rule : Addr) : WS := (wSeq (wAsg (wA (oFn 1 (o_from_behind C_Rule)) (wCons (wVar 0) wNil)) (gT [(gN 1), (gN 2)]))
  (wRet (wA (oMk C_Rule 3 (o_init C_Rule)) (wCons (wVar 1) (wCons (wVar 2) wNil)))))
-- Rule.within: 0 self, 1 other
def w_within (C_Rule : Addr) : WS := (wRet (w2 (oEqO C_Rule (oFn 2 (o_eq C_Rule))) (wFz (w2 (oOwn2 C_Rule (oFn 2 (o_both C_Rule true))) (wVar 0) (wVar 1))) (wVar 0)))
-- first_unlike: 0 one, 1 other, 2 seen, 3 front, 4 later, 5 day, 6 mine, 7 its, 8 deed, 9 pair
def w_first_unlike (P : Program) (w : World) (C_Rule : Addr) : WS := (wSeq (wPar 2 3 (wCons (wDisp1N P w (wTup (wCons (wC (.int 0)) (wCons (wC (.int 0)) wNil))) (wC (.bl true))) (wCons (wFz (wLst (wCons (wTup (wCons (wLst wNil) (wCons (wC (.int 0)) (wCons (wC (.int 0)) wNil)))) wNil))) wNil)))
  (wSeq (wWhile (wB (w2 (oR2 (dEq true)) (wVar 3) (wLst wNil))) (wSeq (wSet 4 (wLst wNil))
  (wSeq (wFor (iL (wVar 3)) (gT [(gN 5), (gN 6), (gN 7)]) (wSeq (wIfS (wB (w2 (oR2 (dEq true)) (w2 (oR2 (dIn false)) (wVar 6) (w1 (oFld C_Rule "kept_ends") (wVar 0))) (w2 (oR2 (dIn false)) (wVar 7) (w1 (oFld C_Rule "kept_ends") (wVar 1))))) (wRet (wVar 5)) wNext)
  (wFor (iL (wSSet (w2 oAdd (wA (oFn 2 o_deeds_of) (wCons (wFz (w1 (oFld C_Rule "kept_rooms") (wVar 0))) (wCons (wVar 6) wNil))) (wA (oFn 2 o_deeds_of) (wCons (wFz (w1 (oFld C_Rule "kept_rooms") (wVar 1))) (wCons (wVar 7) wNil)))))) (gN 8) (wSeq (wSetF 9 (wTup (wCons (wA (oFn 3 o_room_behind) (wCons (wFz (w1 (oFld C_Rule "kept_rooms") (wVar 0))) (wCons (wVar 6) (wCons (wVar 8) wNil)))) (wCons (wA (oFn 3 o_room_behind) (wCons (wFz (w1 (oFld C_Rule "kept_rooms") (wVar 1))) (wCons (wVar 7) (wCons (wVar 8) wNil)))) wNil))))
  (wIfS (wB (wInN P w true (wVar 9) 2)) (wSeq (wPutN P w 2 (wC (.bl true)) (wVar 9))
  (wApp 4 (wTup (wCons (wLst (wStar (wVar 5) (wCons (wVar 8) wNil))) (wCons (w2 oIxH (wVar 9) (wC (.int 0))) (wCons (w2 oIxH (wVar 9) (wC (.int 1))) wNil)))))) wNext)))))
  (wSetF 3 (wTake 4)))))
  (wRet (wC .non))))
-- of_days: 0 days, 1 day, 2 rooms, 3 ends, 4 index, 5 deed
def w_of_days (C_Rule : Addr) : WS := (wSeq (wFor (iL (wVar 0)) (gN 1) (wDrop (wA (oFn 1 o_check_day) (wCons (wVar 1) wNil))))
  (wSeq (wPar 2 3 (wCons (wLst (wCons wNewD wNil)) (wCons (wLst wNil) wNil)))
  (wSeq (wFor (iL (wVar 0)) (gN 1) (wSeq (wSetF 4 (wC (.int 0)))
  (wSeq (wFor (iL (wVar 1)) (gN 5) (wSeq (wIfS (wViewT (wB (w2 (oR2 (dIn true)) (wVar 5) (w2 oIxH (wVar 2) (wVar 4))))) (wSeq (wPut2 2 (wVar 4) (wView (wA (oA1 (oR1 dLen)) (wCons (wVar 2) wNil))) (wVar 5))
  (wApp 2 wNewD)) wNext)
  (wSetF 4 (wView (w2 oIxH (w2 oIxH (wVar 2) (wVar 4)) (wVar 5))))))
  (wApp 3 (wVar 4)))))
  (wRet (wA (oMk C_Rule 3 (o_init C_Rule)) (wCons (wFrz 2) (wCons (wFrz 3) wNil)))))))
end Pg
set_option Elab.async false
set_option linter.all false
set_option maxRecDepth 100000
set_option maxHeartbeats 1000000
/-! L1: what the laws' own helpers promise; their meanings as the generator prints them. -/
namespace Pg
open PySem PySem.Spec PyProof.Rows L2 VL
/-- a jar from which n numbers may still be drawn -/
def jarT (a x c : Int) : T := .ol [.fz (.int a), .fz (.int x), .fz (.int c)]
def Jar (n : Nat) (t : T) : Prop := ∃ a x c : Int, t = jarT a x c ∧ 0 ≤ a ∧ bits a ≤ 1100000 ∧ bits x ≤ 1100000 ∧ 0 ≤ c ∧ c + n ≤ 4000000000
theorem Jar.less {n m : Nat} {t : T} (h : Jar n t) (l : m ≤ n) : Jar m t := by
  obtain ⟨a, x, c, h1, h2, h3, h4, h5, h6⟩ := h
  exact ⟨a, x, c, h1, h2, h3, h4, h5, by omega⟩
def o_jar (K : PySem.W.Frag) : OX := fun xs P _ => ∃ (ns : List Int) (place : Nat), xs = [.fz (.scr K ns), .fz (.int (place : Nat))] ∧ ns.length ≤ 1000 ∧ (∀ z ∈ ns, bits z ≤ 1048576) ∧ place ≤ 1000 ∧ ∀ t, Jar 2000000000 t → P t
def o_grab : OIO := fun xs P _ => ∃ (n : Nat) (t : T) (many : Nat), xs = [t, .fz (.int (many : Nat))] ∧ Jar (n + 1) t ∧ 0 < many ∧ many ≤ 1000000 ∧ ∀ (r : Nat) t', r < many → Jar n t' → P (.fz (.int (r : Nat))) t'
def o_callings : OIO := fun xs P _ => ∃ (n : Nat) (t : T) (many : Nat), xs = [t, .fz (.int (many : Nat))] ∧ Jar (n + 20) t ∧ many ≤ 8 ∧ ∀ (l : List Str) t', l.length = many → Names l → Jar n t' → P (.ol (l.map fun z => .fz (.str z))) t'
/-- a web: rooms as dicts, ends -/
def eWeb (rs : RM) (es : List Nat) : D := .tup [eRooms rs, .lst (eInts es)]
def o_web : OIO := fun xs P _ => ∃ (n : Nat) (t : T) (most : Nat) (l : List Str), xs = [t, .fz (.int (most : Nat)), .fz (.lst (eStrs l))] ∧ Jar (n + 1000) t ∧ 0 < most ∧ most ≤ 20 ∧ Names l ∧ l ≠ [] ∧ l.length ≤ 8 ∧
  ∀ rs es t', Good rs es → rs.length ≤ most → (∀ r ∈ rs, r.length ≤ 8 ∧ ∀ p ∈ r, p.1 ∈ l) → es.length ≤ most + 1 → Jar n t' → P (.fz (eWeb rs es)) t'
def o_made (C : Addr) : OX := fun xs P _ => ∃ rs es, xs = [.fz (eWeb rs es)] ∧ Good rs es ∧ ∀ lr le, Least rs es lr le → P (.oi C ["kept_rooms", "kept_ends"] [.fz (eLeast lr), .fz (eEnds le)])
def o_in_web : OX := fun xs P _ => ∃ rs es w, xs = [.fz (eWeb rs es), .fz (.lst (eStrs w))] ∧ Good rs es ∧ P (.fz (.bl (acc rs es 0 w)))
def o_walk : OIO := fun xs P _ => ∃ (n : Nat) (t : T) (rs : RM) (es : List Nat) (most : Nat), xs = [t, .fz (eWeb rs es), .fz (.int (most : Nat))] ∧ Jar (n + 100) t ∧ Good rs es ∧ most ≤ 50 ∧
  ∀ (w : List Str) t', w.length ≤ most → Names w → Jar n t' → P (.ol (w.map fun z => .fz (.str z))) t'
-- _law_jar: 0 _law_script, 1 _law_place, 2 _law_cell, 3 _law_great
def w__law_jar (K : PySem.W.Frag) : WS := (wSeq (wSetF 2 (wIf (wB (w2 oGe (wVar 1) (wScrLen K 0))) (wC (.int 0)) (wScrIx K 0 (wVar 1))))
  (wSeq (wSetF 3 (w2 oSub (wVar 2) (w2 oPow (wC (.int 10)) (wC (.int 18)))))
  (wRet (wLst (wCons (wIf (wB (w2 oGt (wVar 3) (wC (.int 0)))) (wVar 3) (wC (.int 0))) (wCons (w2 oAdd (w2 oAdd (w2 oMul (wC (.int 7)) (wVar 2)) (w2 oMul (wC (.int 15485867)) (wVar 1))) (wC (.int 32452867))) (wCons (wC (.int 0)) wNil)))))))
-- _law_grab: 0 _law_jar_here, 1 _law_many, 2 _law_stir, 3 _law_rest, 4 _law_taken
def w__law_grab : WS := (wSeq (wIfS (wViewT (wB (w2 oGt (w2 oIxH (wVar 0) (wC (.int 0))) (wC (.int 0))))) (wSeq (wSetF 3 (wView (w2 oDiv (w2 oIxH (wVar 0) (wC (.int 0))) (wVar 1))))
  (wSeq (wSetF 4 (wView (w2 oSub (w2 oIxH (wVar 0) (wC (.int 0))) (w2 oMul (wVar 3) (wVar 1)))))
  (wSeq (wPut 0 (wVar 3) (wC (.int 0)))
  (wRet (wVar 4))))) wNext)
  (wSeq (wPut 0 (wView (w2 oAdd (w2 oIxH (wVar 0) (wC (.int 2))) (wC (.int 1)))) (wC (.int 2)))
  (wSeq (wSetF 2 (wView (w2 oAdd (w2 oAdd (w2 oIxH (wVar 0) (wC (.int 1))) (w2 oMul (wC (.int 982451653)) (w2 oIxH (wVar 0) (wC (.int 2))))) (w2 oMul (w2 oMul (wC (.int 77)) (w2 oIxH (wVar 0) (wC (.int 2)))) (w2 oIxH (wVar 0) (wC (.int 2)))))))
  (wSeq (wSetF 2 (w2 oMod (wA (oA1 (oR1 dInt)) (wCons (w2 oPow (wVar 2) (wC (.int 5))) wNil)) (wC (.int 618970019642690137449562111))))
  (wSeq (wSetF 2 (wView (w2 oMod (wA (oA1 (oR1 dInt)) (wCons (w2 oPow (w2 oAdd (wVar 2) (w2 oMul (wC (.int 3)) (w2 oIxH (wVar 0) (wC (.int 2))))) (wC (.int 3))) wNil)) (wC (.int 2305843009213693951)))))
  (wRet (w2 oMod (wA (oA1 (oR1 dInt)) (wCons (w2 oDiv (wVar 2) (wC (.int 1024))) wNil)) (wVar 1))))))))
-- _law_callings: 0 _law_jar_here, 1 _law_many, 2 _law_words_here, 3 _law_alphabet, 4 _law_way, 5 _law_start, 6 _law_stem, 7 _law_turn, 8 _law_size_here, 9 _law_place, 10 _law_found, 11 _law_letter
def w__law_callings : WS := (wSeq (wSetF 2 (wLst (wCons (wC (.str "out")) (wCons (wC (.str "in")) (wCons (wC (.str "look")) (wCons (wC (.str "barred")) (wCons (wC (.str "sure")) (wCons (wC (.str "day")) (wCons (wC (.str "never")) (wCons (wC (.str "seen")) (wCons (wC (.str "open")) (wCons (wC (.str "rooms")) (wCons (wC (.str "depth")) (wCons (wC (.str "custom")) wNil))))))))))))))
  (wSeq (wParL [3, 4, 5] (wCons (wC (.str "abcdefghijklmnopqrstuvwxyz")) (wCons (wFz (wIO 0 2 o_grab (wCons (wC (.int 3)) wNil))) (wCons (wFz (wIO 0 2 o_grab (wCons (wC (.int 12)) wNil))) wNil))))
  (wSeq (wSetF 6 (wC (.str "")))
  (wSeq (wFor (iR1 (wC (.int 8))) (gN 7) (wSetF 6 (w2 oAdd (wVar 6) (w2 oIxH (wVar 3) (wIO 0 2 o_grab (wCons (wC (.int 26)) wNil))))))
  (wSeq (wIfS (wB (w2 (oR2 (dEq false)) (wVar 4) (wC (.int 0)))) (wRet (wLc (iR1 (wVar 1)) (gN 7) wYes (w2 oIxH (wVar 2) (w2 oSub (wVar 5) (wVar 7))) [7])) wNext)
  (wSeq (wIfS (wB (w2 (oR2 (dEq false)) (wVar 4) (wC (.int 1)))) (wRet (w1 (oL1 dRev) (wLc (iR1 (wVar 1)) (gN 7) wYes (wCut (wVar 6) wNo (wPart (w2 oAdd (wVar 7) (wC (.int 1))))) [7]))) wNext)
  (wSeq (wSetF 8 (w2 oAdd (wC (.int 1)) (wIO 0 2 o_grab (wCons (wC (.int 8)) wNil))))
  (wSeq (wPar 9 10 (wCons (wFz (wIO 0 2 o_grab (wCons (wVar 8) wNil))) (wCons (wLst wNil) wNil)))
  (wSeq (wFor (iR1 (wVar 1)) (gN 7) (wSeq (wSetF 11 (w2 oIxH (wVar 3) (w2 oAdd (wVar 5) (wVar 7))))
  (wApp 10 (w2 oAdd (w2 oAdd (wCut (wVar 6) wNo (wPart (wVar 9))) (wVar 11)) (wCut (wVar 6) (wPart (w2 oAdd (wVar 9) (wC (.int 1)))) (wPart (wVar 8)))))))
  (wRet (wTake 10)))))))))))
-- _law_web: 0 _law_jar_here, 1 _law_most, 2 _law_callings_here, 3 _law_count, 4 _law_found, 5 _law_at, 6 _law_stops, 7 _law_steps_here, 8 _law_turn
def w__law_web : WS := (wSeq (wPar 3 4 (wCons (wFz (w2 oAdd (wC (.int 1)) (wIO 0 2 o_grab (wCons (wVar 1) wNil)))) (wCons (wLst wNil) wNil)))
  (wSeq (wFor (iR1 (wVar 3)) (gN 5) (wSeq (wSet 7 wNewD)
  (wSeq (wFor (iR1 (wIO 0 2 o_grab (wCons (wC (.int 4)) wNil))) (gN 8) (wPut 7 (wIO 0 2 o_grab (wCons (wVar 3) wNil)) (w2 oIxH (wVar 2) (wIO 0 2 o_grab (wCons (wFz (wA (oA1 (oR1 dLen)) (wCons (wVar 2) wNil))) wNil)))))
  (wSeq (wIfS (wAnd (wB (w2 oLt (w2 oAdd (wVar 5) (wC (.int 1))) (wVar 3))) (wB (w2 (oR2 (dEq false)) (wIO 0 2 o_grab (wCons (wC (.int 2)) wNil)) (wC (.int 0))))) (wPut 7 (w2 oAdd (wVar 5) (wC (.int 1))) (w2 oIxH (wVar 2) (wIO 0 2 o_grab (wCons (wFz (wA (oA1 (oR1 dLen)) (wCons (wVar 2) wNil))) wNil)))) wNext)
  (wApp 4 (wTake 7))))))
  (wSeq (wSet 6 (wLc (iR1 (wVar 3)) (gN 5) (wB (w2 (oR2 (dEq false)) (wIO 0 2 o_grab (wCons (wC (.int 3)) wNil)) (wC (.int 0)))) (wVar 5) [5]))
  (wSeq (wIfS (wB (w2 oGt (wIO 0 2 o_grab (wCons (wC (.int 4)) wNil)) (wC (.int 0)))) (wApp 6 (wIO 0 2 o_grab (wCons (wVar 3) wNil))) wNext)
  (wRet (wTup (wConsL 4 (wCons (wIf (wB (w2 (oR2 (dEq false)) (wIO 0 2 o_grab (wCons (wC (.int 2)) wNil)) (wC (.int 0)))) (wView (w1 (oL1 dRev) (wVar 6))) (wTake 6)) wNil))))))))
-- _law_made_rule: 0 _law_web_here, 1 _law_steps_here
def w__law_made_rule (C_Rule : Addr) : WS := (wRet (wA (oMk C_Rule 3 (o_init C_Rule)) (wCons (wFz (wLc (iL (w2 oIxH (wVar 0) (wC (.int 0)))) (gN 1) wYes (wA (oA1 oDict) (wCons (w1 (oL1 dListItems) (wVar 1)) wNil)) [1])) (wCons (wFz (wA (oA1 (oL1 dItems)) (wCons (w2 oIxH (wVar 0) (wC (.int 1))) wNil))) wNil))))
-- _law_in_web: 0 _law_web_here, 1 _law_told_day, 2 _law_at, 3 _law_deed
def w__law_in_web : WS := (wSeq (wSetF 2 (wC (.int 0)))
  (wSeq (wFor (iL (wVar 1)) (gN 3) (wIfS (wB (w2 (oR2 (dIsN true)) (wVar 2) (wC .non))) (wSetF 2 (wGet (w2 oIxH (w2 oIxH (wVar 0) (wC (.int 0))) (wVar 2)) (wVar 3))) wNext))
  (wRet (wAndV (w2 (oR2 (dIsN true)) (wVar 2) (wC .non)) (w2 (oR2 (dIn false)) (wVar 2) (w2 oIxH (wVar 0) (wC (.int 1))))))))
-- _law_walk: 0 _law_jar_here, 1 _law_web_here, 2 _law_most, 3 _law_at, 4 _law_told_day, 5 _law_turn, 6 _law_names_here
def w__law_walk : WS := (wSeq (wPar 3 4 (wCons (wC (.int 0)) (wCons (wLst wNil) wNil)))
  (wSeq (wFor (iR1 (wIO 0 2 o_grab (wCons (wFz (w2 oAdd (wVar 2) (wC (.int 1)))) wNil))) (gN 5) (wSeq (wSetF 6 (wA (oA1 (oL1 dSort)) (wCons (w2 oIxH (w2 oIxH (wVar 1) (wC (.int 0))) (wVar 3)) wNil)))
  (wIfS (wB (w2 (oR2 (dEq true)) (wVar 6) (wLst wNil))) (wSeq (wApp 4 (w2 oIxH (wVar 6) (wIO 0 2 o_grab (wCons (wFz (wA (oA1 (oR1 dLen)) (wCons (wVar 6) wNil))) wNil))))
  (wSetF 3 (wView (w2 oIxH (w2 oIxH (w2 oIxH (wVar 1) (wC (.int 0))) (wVar 3)) (w2 oIxH (wVar 4) (w1 oNeg (wC (.int 1)))))))) wNext)))
  (wRet (wTake 4))))
end Pg
set_option Elab.async false
set_option linter.all false
set_option maxRecDepth 100000
set_option maxHeartbeats 1000000
/-! L2a: jar and grab keep their promises. -/
namespace Pg
open PySem PySem.Spec PyProof.Rows L2 VL
theorem bits_of {k : Nat} {x : Int} (h : x.natAbs < 2 ^ k) : bits x ≤ k := intBits_le_iff.mpr h
theorem bits_small {x : Int} {k : Nat} (h : bits x ≤ k) {m : Nat} (hm : k ≤ m) : bits x ≤ m := Nat.le_trans h hm
theorem sp_jar (K : PySem.W.Frag) (xs : List T) (P : T → Prop) (R : Exn → Prop) (hn : xs.length = 2) (h : o_jar K xs P R) : w__law_jar K (VL.startT 4 xs) (EV P R) := by
  obtain ⟨ns, place, rfl, hl, hb, hp, h⟩ := h
  have three : 3 ≤ sizeLine := big_le (by decide)
  have b10 : bits 10 ≤ 4 := bits_of (by decide)
  have b18 : bits (10 ^ 18) ≤ 60 := bits_of (by decide)
  have bp : bits (place : Int) ≤ 10 := bits_of (by omega)
  have b7 : bits 7 ≤ 3 := bits_of (by decide)
  have bq : bits 15485867 ≤ 24 := bits_of (by decide)
  have br : bits 32452867 ≤ 25 := bits_of (by decide)
  have b3 : bits (15485867 * (place : Int)) ≤ 34 := intBits_mul_le bq bp
  have c1 : CPowB 10 18 := ⟨by decide, by
    have : ((bits 10 : Nat) : Int) ≤ 4 := by omega
    omega⟩
  have c3 : CMulB 15485867 (place : Int) := by unfold CMulB; omega
  unfold w__law_jar
  simp
  by_cases q : ns.length ≤ place
  · have b0 : bits 0 ≤ 0 := bits_of (by decide)
    have c2 : CMulB 7 0 := by unfold CMulB; omega
    have b5 : bits (15485867 * (place : Int) + 32452867) ≤ 35 := bits_small (intBits_add_le b3 br) (by decide)
    simp [q, c1, c2, c3]
    exact ⟨three, h _ ⟨0, _, 0, rfl, Int.le_refl _, by omega, by omega, by decide, by decide⟩⟩
  · have hp' : place < ns.length := by omega
    simp [q, atI_nat hp']
    have hz := hb _ (List.getElem_mem hp')
    generalize ns[place] = z at hz ⊢
    have b1 : bits (z - 10 ^ 18) ≤ 1048577 := bits_small (intBits_sub_le hz b18) (by decide)
    have b2 : bits (7 * z) ≤ 1048579 := bits_small (intBits_mul_le b7 hz) (by decide)
    have b4 : bits (7 * z + 15485867 * (place : Int)) ≤ 1048580 := bits_small (intBits_add_le b2 b3) (by decide)
    have b5 : bits (7 * z + 15485867 * (place : Int) + 32452867) ≤ 1048581 := bits_small (intBits_add_le b4 br) (by decide)
    have c2 : CMulB 7 z := by unfold CMulB; omega
    refine ⟨c1, ?_⟩
    have e18 : (10 : Int) ^ 18 = 1000000000000000000 := by decide
    rw [e18] at b1
    by_cases q2 : 1000000000000000000 < z
    · rw [decide_eq_true q2]
      exact ⟨c2, c3, three, h _ ⟨_, _, 0, rfl, by omega, by omega, by omega, by decide, by decide⟩⟩
    · rw [decide_eq_false q2]
      exact ⟨c2, c3, three, h _ ⟨0, _, 0, rfl, Int.le_refl _, bits_small (bits_of (k := 0) (by decide)) (by decide), by omega, by decide, by decide⟩⟩
theorem sp_grab (xs : List T) (P : T → T → Prop) (R : Exn → T → Prop) (hn : xs.length = 2) (h : o_grab xs P R) : w__law_grab (VL.startT 5 xs) (EI P R) := by
  obtain ⟨n, t, many, rfl, ⟨a, x, c, rfl, ha, ba, bx, hc, hcn⟩, hm, hm2, h⟩ := h
  unfold w__law_grab
  have i0 : ∀ a x c : Int, dIx (.lst [.int a, .int x, .int c]) (.int 0) = some (.int a) := fun a x c => by simp [dIx, atI, ixN]
  have i1 : ∀ a x c : Int, dIx (.lst [.int a, .int x, .int c]) (.int 1) = some (.int x) := fun a x c => by simp [dIx, atI, ixN]
  have i2 : ∀ a x c : Int, dIx (.lst [.int a, .int x, .int c]) (.int 2) = some (.int c) := fun a x c => by simp [dIx, atI, ixN]
  have x0 : ixN 3 0 = some 0 := by simp [ixN]
  have x2 : ixN 3 2 = some 2 := by simp [ixN]
  have di : ∀ i : Int, dInt (.int i) = some (.int i) := fun i => by simp [dInt]
  simp [jarT, i0, i1, i2, x0, x2, di]
  by_cases q : 0 < a
  · have hq : 0 < (many : Int) := by omega
    have bd : bits (a / many) ≤ 1100000 := by
      rw [← Int.fdiv_eq_ediv_of_nonneg a (by omega)]
      exact intBits_le_of_natAbs (natAbs_fdiv_le a many) ba
    have bm : bits (many : Int) ≤ 20 := bits_of (by omega)
    have c1 : CDivB a many := ⟨hq, by
      have : (many : Int).natAbs.log2 < 20 := (Nat.log2_lt (by omega)).mpr (by omega)
      omega⟩
    have c2 : CMulB (a / many) many := by unfold CMulB; omega
    rw [decide_eq_true q]
    refine ⟨c1, c2, ?_⟩
    have e1 : a - a / many * many = a % many := by
      have := Int.mul_ediv_add_emod a many
      rw [Int.mul_comm] at this
      omega
    rw [e1]
    have r1 := Int.emod_nonneg a (show (many : Int) ≠ 0 by omega)
    have r2 := Int.emod_lt_of_pos a hq
    have e2 : a % many = ((a % many).toNat : Int) := by omega
    rw [e2]
    exact h _ _ (by omega) ⟨_, _, _, rfl, Int.ediv_nonneg ha (by omega), bd, bx, hc, by omega⟩
  · rw [decide_eq_false q]
    have hq : 0 < (many : Int) := by omega
    have hc1 : c + 1 ≤ 4000000000 := by omega
    have bc : bits (c + 1) ≤ 32 := bits_of (by omega)
    have k1 : bits 982451653 ≤ 30 := bits_of (by decide)
    have k2 : bits 77 ≤ 7 := bits_of (by decide)
    have k3 : bits 3 ≤ 2 := bits_of (by decide)
    have m1 : bits (982451653 * (c + 1)) ≤ 62 := intBits_mul_le k1 bc
    have m2 : bits (77 * (c + 1)) ≤ 39 := intBits_mul_le k2 bc
    have m3 : bits (77 * (c + 1) * (c + 1)) ≤ 71 := intBits_mul_le m2 bc
    have s1 : bits (x + 982451653 * (c + 1)) ≤ 1100001 := bits_small (intBits_add_le bx m1) (by decide)
    have s2 : bits (x + 982451653 * (c + 1) + 77 * (c + 1) * (c + 1)) ≤ 1100002 := bits_small (intBits_add_le s1 m3) (by decide)
    have m4 : bits (3 * (c + 1)) ≤ 34 := intBits_mul_le k3 bc
    have c1 : CMulB 982451653 (c + 1) := by unfold CMulB; omega
    have c2 : CMulB 77 (c + 1) := by unfold CMulB; omega
    have c3 : CMulB (77 * (c + 1)) (c + 1) := by unfold CMulB; omega
    have c5 : CMulB 3 (c + 1) := by unfold CMulB; omega
    refine ⟨c1, c2, c3, ?_⟩
    generalize x + 982451653 * (c + 1) + 77 * (c + 1) * (c + 1) = y at s2 ⊢
    have c4 : CPowB y 5 := ⟨by decide, by omega⟩
    refine ⟨c4, ?_⟩
    generalize y ^ 5 = y5
    simp [oMod, c5, di]
    have u1 := Int.emod_nonneg y5 (show (618970019642690137449562111 : Int) ≠ 0 by decide)
    have u2 := Int.emod_lt_of_pos y5 (show (0 : Int) < 618970019642690137449562111 by decide)
    generalize y5 % 618970019642690137449562111 = z at u1 u2 ⊢
    have bz : bits z ≤ 90 := bits_of (by omega)
    have bs : bits (z + 3 * (c + 1)) ≤ 91 := bits_small (intBits_add_le bz m4) (by decide)
    have c6 : CPowB (z + 3 * (c + 1)) 3 := ⟨by decide, by omega⟩
    refine ⟨c6, ?_⟩
    generalize (z + 3 * (c + 1)) ^ 3 = v
    have c7 : ∀ i, CDivB i 1024 := fun i => ⟨by decide, by decide⟩
    simp [c7, di, hq]
    generalize v % 2305843009213693951 / 1024 = g
    refine ⟨by omega, ?_⟩
    have r1 := Int.emod_nonneg g (show (many : Int) ≠ 0 by omega)
    have r2 := Int.emod_lt_of_pos g hq
    have e2 : g % many = ((g % many).toNat : Int) := by omega
    rw [e2]
    exact h _ _ (by omega) ⟨_, _, _, rfl, ha, ba, bx, by omega, by omega⟩
end Pg
set_option Elab.async false
set_option linter.all false
set_option maxRecDepth 100000
set_option maxHeartbeats 1000000
/-! L3: in_web, made_rule, walk. -/
namespace Pg
open PySem PySem.Spec PyProof.Rows L2 VL
@[simp] theorem ix_web0 {rs : RM} {es : List Nat} : dIx (eWeb rs es) (.int 0) = some (eRooms rs) := by simp [eWeb, dIx, atI, ixN]
@[simp] theorem ix_web1 {rs : RM} {es : List Nat} : dIx (eWeb rs es) (.int 1) = some (.lst (eInts es)) := by simp [eWeb, dIx, atI, ixN]
theorem get_room {r : Room1} {d : Str} : lookK (r.map fun p => .inr p.1) (r.map fun p => D.int (p.2 : Nat)) (.inr d) = (r.lookup d).map fun j => D.int (j : Nat) := look_room
theorem sp_in_web (xs : List T) (P : T → Prop) (R : Exn → Prop) (hn : xs.length = 2) (h : o_in_web xs P R) : w__law_in_web (VL.startT 4 xs) (EV P R) := by
  obtain ⟨rs, es, w, rfl, gd, h⟩ := h
  unfold w__law_in_web
  simp [eStrs]
  refine forL_inv (fun rest m => ∃ (v : List Str) (i : Option Nat) (o3 : Option T), rest = v.map D.str ∧ P (.fz (.bl (match i with | some i => acc rs es i v | none => false))) ∧ (∀ k, i = some k → k < rs.length) ∧ m = [some (.fz (eWeb rs es)), some (.fz (.lst (eStrs w))), some (.fz (oInt i)), o3]) ?_ ?_ ⟨w, some 0, _, rfl, h, fun k z => by injection z with z; subst z; exact gd.pos, rfl⟩
  · rintro x rest m ⟨v, i, o3, e, hp, hi, rfl⟩ E' h1 h2 h3 h4 h5
    cases v with
    | nil => cases e
    | cons d v =>
      simp only [List.map_cons] at e
      injection e with e1 e2
      subst e1 e2
      cases i with
      | none =>
        simp [oInt]
        exact h1 _ ⟨v, none, _, rfl, hp, fun k z => (by cases z), rfl⟩
      | some i =>
        have hi := hi i rfl
        simp [oInt, ix_rooms hi]
        have e2 : ((lookK (rs[i].map fun p => .inr p.1) (rs[i].map fun p => D.int (p.2 : Nat)) (.inr d)).getD .non) = oInt (rs[i].lookup d) := by
          rw [look_room]
          cases rs[i].lookup d <;> rfl
        simp only [eRoom, keyD]
        rw [e2]
        simp only [acc, stepR_at hi] at hp
        refine h1 _ ⟨v, rs[i].lookup d, _, rfl, ?_, fun k z => (gd.room _ (List.getElem_mem hi)).2.2 _ (lookup_mem z) |>.2, rfl⟩
        cases q : rs[i].lookup d with
        | none => simpa [q] using hp
        | some j => simpa [q] using hp
  · rintro m ⟨v, i, o3, e, hp, hi, rfl⟩
    cases v with
    | cons d v => cases e
    | nil =>
      cases i with
      | none =>
        simp [oInt]
        exact hp
      | some i =>
        simp [oInt, dIn_nat]
        simpa [acc] using hp
theorem pairs_room : ∀ r : Room1, pairsOf (VL.pairD (r.map fun p => .inr p.1) (r.map fun p => D.int (p.2 : Nat))) = some (r.map fun p => (.inr p.1, D.int (p.2 : Nat)))
  | [] => rfl
  | p :: r => by
    have ih := pairs_room r
    unfold VL.pairD at ih ⊢
    simp only [List.map_cons, List.zip_cons_cons]
    show VL.pairsOf (D.tup [D.str p.1, D.int (p.2 : Nat)] :: _) = _
    unfold VL.pairsOf
    simp only [keyD]
    rw [ih]
theorem mrg_room : ∀ {r : Room1} {ks : List Key} {l : List D}, (∀ p ∈ r, (.inr p.1 : Key) ∉ ks) → (r.map (·.1)).Nodup → mrg (r.map fun p => (.inr p.1, D.int (p.2 : Nat))) (ks, l) = (ks ++ r.map (fun p => .inr p.1), l ++ r.map fun p => D.int (p.2 : Nat))
  | [], ks, l, _, _ => by simp [mrg]
  | p :: r, ks, l, h, nd => by
    simp only [List.map_cons, List.nodup_cons] at nd
    simp only [List.map_cons, mrg]
    have hm : memK ks (.inr p.1) = false := by
      cases q : memK ks (.inr p.1) with
      | false => rfl
      | true => exact (h p List.mem_cons_self (memK_iff.mp q)).elim
    have e : putL ks l (.inr p.1) (D.int (p.2 : Nat)) = (ks ++ [.inr p.1], l ++ [D.int (p.2 : Nat)]) := by
      unfold putL
      rw [hm]
      simp
    rw [e, mrg_room (fun q hq z => ?_) nd.2]
    · simp
    · rcases List.mem_append.mp z with z | z
      · exact h q (List.mem_cons_of_mem _ hq) z
      · simp at z
        exact nd.1 (z ▸ List.mem_map_of_mem hq)
theorem sp_made (C : Addr) (xs : List T) (P : T → Prop) (R : Exn → Prop) (hn : xs.length = 1) (h : o_made C xs P R) : w__law_made_rule C (VL.startT 2 xs) (EV P R) := by
  obtain ⟨rs, es, rfl, gd, h⟩ := h
  unfold w__law_made_rule
  simp [eRooms]
  refine lcL_map (e := eRoom) (ms := fun r => [some (.fz (eWeb rs es)), some (.fz (eRoom r))]) (f := fun r => some (.od (r.map fun p => .inr p.1) (r.map fun p => .fz (.int (p.2 : Nat))))) (fun r => rfl) (fun r hr K1 K2 h => ?_) ?_ ?_
  · have nd := (gd.room r hr).2.1
    simp [eRoom, dListItems, oDict, pairs_room, mrg_room (r := r) (ks := []) (l := []) (fun p _ z => (List.not_mem_nil z)) nd]
    exact h
  · simp only [List.length_nil]
    have := gd.small
    exact big_le (by omega)
  · simp only [List.nil_append, filterMap_some]
    have e : (rs.map fun r => T.od (r.map fun p => .inr p.1) (r.map fun p => .fz (.int (p.2 : Nat)))).map T.er = rs.map eRoom := by
      simp [eRoom]
    simp [dItems, eRoom]
    refine ⟨rs, es, ?_, gd, fun lr le hl => ⟨rfl, h lr le hl⟩⟩
    simp [eRooms, eRoom]
end Pg
set_option Elab.async false
set_option linter.all false
set_option maxRecDepth 100000
set_option maxHeartbeats 1000000
/-! L4: walk; lists of texts compared. -/
namespace Pg
open PySem PySem.Spec PyProof.Rows L2 VL
theorem pyL_strs : ∀ l : List Str, pyL (eStrs l) = some (l.map PyData.str)
  | [] => rfl
  | a :: l => by
    have ih := pyL_strs l
    unfold eStrs at ih ⊢
    simp only [List.map_cons, pyL, pyD]
    rw [ih]
theorem lay_strs : ∀ {l : List Str}, (∀ z ∈ l, PyData.strOk z = true) → PyData.canLayAll0 (l.map PyData.str) = true
  | [], _ => rfl
  | a :: l, h => by
    simp only [List.map_cons, PyData.canLayAll0, PyData.canLay0, h a List.mem_cons_self, lay_strs fun z hz => h z (List.mem_cons_of_mem _ hz), Bool.and_self]
theorem depth_strs : ∀ l : List Str, PyData.depthAll (l.map PyData.str) = 0
  | [] => by simp [PyData.depthAll]
  | a :: l => by simp [PyData.depthAll, PyData.depth, depth_strs l]
theorem eqv_strs : ∀ a b : List Str, PyData.eqvAll (a.map PyData.str) (b.map PyData.str) = decide (a = b)
  | [], [] => by simp [PyData.eqvAll]
  | [], _ :: _ => by simp [PyData.eqvAll]
  | _ :: _, [] => by simp [PyData.eqvAll]
  | x :: a, y :: b => by
    simp only [List.map_cons, PyData.eqvAll, PyData.eqv, eqv_strs a b]
    by_cases q : x = y <;> by_cases z : a = b <;> simp [q, z]
theorem eq_strs {neg : Bool} {a b : List Str} (ha : ∀ z ∈ a, PyData.strOk z = true) (hb : ∀ z ∈ b, PyData.strOk z = true) : dEq neg (.lst (eStrs a)) (.lst (eStrs b)) = some (.bl (if neg then !decide (a = b) else decide (a = b))) := by
  unfold dEq
  simp only [pyD, pyL_strs]
  have s1 : ∀ l : List Str, (∀ z ∈ l, PyData.strOk z = true) → SeqAt.shaped (PyData.list (l.map PyData.str)) = true := fun l h => by
    simp [SeqAt.shaped, PyData.canLay0, PyData.depth, lay_strs h, depth_strs]
  simp [s1 _ ha, s1 _ hb, PyData.eqv, eqv_strs]
theorem ix_strs {l : List Str} {i : Nat} (h : i < l.length) : dIx (.lst (eStrs l)) (.int (i : Nat)) = some (.str l[i]) := by
  unfold dIx
  simp only
  rw [atI_nat (by simpa using h)]
  simp [eStrs]
abbrev tStrs (l : List Str) : List T := l.map fun z => .fz (.str z)
theorem er_tStrs {l : List Str} : (tStrs l).map T.er = eStrs l := by simp [eStrs]
theorem ix_last {l : List Str} {d : Str} : dIx (.lst (eStrs (l ++ [d]))) (.int (-1)) = some (.str d) := by
  unfold dIx atI ixN
  simp only
  have : ¬ (0 : Int) ≤ -1 := by decide
  rw [if_neg this]
  have h2 : -(((eStrs (l ++ [d])).length : Nat) : Int) ≤ -1 := by simp; omega
  rw [if_pos h2]
  have h3 : ((-1 : Int) + ((eStrs (l ++ [d])).length : Nat)).toNat = l.length := by simp; omega
  simp only [h3, Option.bind_some]
  simp [eStrs]
def walkI (n most : Nat) (rs : RM) (es : List Nat) (tot k : Nat) (m : Tau) : Prop := ∃ (t : T) (i : Nat) (w : List Str) (o5 o6 : Option T), m = [some t, some (.fz (eWeb rs es)), some (.fz (.int (most : Nat))), some (.fz (.int (i : Nat))), some (.ol (tStrs w)), o5, o6] ∧ Jar (n + (tot - k)) t ∧ i < rs.length ∧ w.length ≤ k ∧ Names w
theorem sp_walk (xs : List T) (P : T → T → Prop) (R : Exn → T → Prop) (hn : xs.length = 3) (h : o_walk xs P R) : w__law_walk (VL.startT 7 xs) (EI P R) := by
  obtain ⟨n, t, rs, es, most, rfl, hj, gd, hm, h⟩ := h
  unfold w__law_walk
  simp
  refine ⟨n + 99, t, most + 1, ?_, hj, by omega, by omega, fun tot t1 htot hj1 => ?_⟩
  · simp
  · simp
    refine ⟨by omega, ?_⟩
    refine forL_at (walkI n most rs es tot) ?_ ?_ ⟨t1, 0, [], _, _, rfl, hj1.less (by omega), gd.pos, Nat.le_refl _, fun z hz => (List.not_mem_nil hz).elim⟩
    · rintro k hk m ⟨t, i, w, o5, o6, rfl, jt, hi, wl, wn⟩ E' h1 h2 h3 h4 h5
      rw [rngD_at hk]
      rw [rngD_len] at hk
      obtain ⟨g1, g2, g3⟩ := gd.room _ (List.getElem_mem hi)
      simp [ix_rooms hi, sort_room g1]
      have ok : ∀ z ∈ sS (rs[i].map (·.1)), isName z = true := fun z hz => by
        obtain ⟨p, hp, rfl⟩ := List.mem_map.mp (mem_sS.mp hz)
        exact (g3 p hp).1
      have e0 : (D.lst []) = .lst (eStrs []) := rfl
      rw [e0, eq_strs (fun z hz => strOk_name (ok z hz)) (fun z hz => (List.not_mem_nil hz).elim)]
      have ln : (sS (rs[i].map (·.1))).length = rs[i].length := by rw [len_sS]; simp
      generalize hl : sS (rs[i].map (·.1)) = l at ok ln ⊢
      by_cases q : l = []
      · simp [q]
        exact h1 _ ⟨t, i, w, _, _, rfl, jt.less (by omega), hi, by omega, wn⟩
      · have lp : 0 < l.length := List.length_pos_iff.mpr q
        have wlim : w.length < sizeLine := big_lt (by omega)
        have elen : dLen (.lst (eStrs l)) = some (.int (l.length : Nat)) := by simp [dLen]
        simp [q, elen]
        refine ⟨n + (tot - (k + 1)), t, l.length, rfl, jt.less (by omega), lp, by omega, fun r t' hr jt' => ?_⟩
        have er : D.lst (w.map D.str ++ [.str l[r]]) = .lst (eStrs (w ++ [l[r]])) := by simp [eStrs]
        have hin : l[r] ∈ rs[i].map (·.1) := mem_sS.mp (hl ▸ List.getElem_mem hr)
        obtain ⟨j, ej⟩ := lookup_some hin
        have hjl := (g3 _ (lookup_mem ej)).2
        simp [ix_strs hr, wlim]
        rw [er, ix_last]
        simp [ej]
        have et : tStrs w ++ [T.fz (.str l[r])] = tStrs (w ++ [l[r]]) := by simp
        rw [et]
        refine h1 _ ⟨t', j, w ++ [l[r]], _, _, rfl, jt', hjl, by simp; omega, fun z hz => ?_⟩
        rcases List.mem_append.mp hz with hz | hz
        · exact wn z hz
        · simp at hz
          rw [hz]
          exact ok _ (List.getElem_mem hr)
    · rintro m ⟨t, i, w, o5, o6, rfl, jt, hi, wl, wn⟩
      rw [rngD_len] at wl jt
      simp
      exact h w t (by omega) wn (jt.less (by omega))
end Pg
/-! L5: see S7. -/
set_option Elab.async false
set_option linter.all false
set_option maxRecDepth 100000
set_option maxHeartbeats 1000000
/-! L6: web keeps its promise. -/
namespace Pg
open PySem PySem.Spec PyProof.Rows L2 VL
abbrev tRooms (rs : RM) : List T := rs.map tRoom
def webI (n most count : Nat) (l : List Str) (k : Nat) (m : Tau) : Prop := ∃ (t : T) (rs : RM) (o5 o6 o7 o8 : Option T), m = [some t, some (.fz (.int (most : Nat))), some (.fz (.lst (eStrs l))), some (.fz (.int (count : Nat))), some (.ol (tRooms rs)), o5, o6, o7, o8] ∧
  Jar (n + 100 + 20 * (20 - k)) t ∧ rs.length = k ∧ ∀ r ∈ rs, RowG l count r ∧ r.length ≤ 4
def webJ (n most count : Nat) (l : List Str) (rs : RM) (at_ tot k : Nat) (m : Tau) : Prop := ∃ (t : T) (r : Room1) (o6 o8 : Option T), m = [some t, some (.fz (.int (most : Nat))), some (.fz (.lst (eStrs l))), some (.fz (.int (count : Nat))), some (.ol (tRooms rs)), some (.fz (.int (at_ : Nat))), o6, some (tRoom r), o8] ∧
  Jar (n + 2 * (4 - k)) t ∧ RowG l count r ∧ r.length ≤ k
/-- the ends: a draw for each room -/
theorem stops_run {n : Nat} {m0 : T → Tau} {g : WG} {wt : WT} {we : WE} {own : List Nat} (hw : ∀ t, wipeT (m0 t) own = m0 t)
    (step : ∀ (i : Nat) (n : Nat) (t : T) (K1 : T → Tau → Prop) (K2 : Tau → Prop), Jar (n + 1) t → (∀ t' m', Jar n t' → wipeT m' own = m0 t' → K1 (.fz (.int (i : Nat))) m' ∧ K2 m') → g (.int (i : Nat)) (m0 t) fun m1 => wt m1 fun b m2 => match b with | true => we m2 K1 | false => K2 m2) :
    ∀ (l : List Nat) (acc : List Nat) (t : T) (Q : List T → Tau → Prop), Jar (n + l.length) t → acc.length + l.length ≤ 1000 → (∀ (s : List Nat) t', (∀ x ∈ s, x ∈ acc ∨ x ∈ l) → s.length ≤ acc.length + l.length → Jar n t' → Q (tInts s) (m0 t')) → wLcL g wt we own (eInts l) (tInts acc) (m0 t) Q
  | [], acc, t, Q, hj, hl, q => by
    unfold eInts
    simp only [List.map_nil]
    unfold wLcL
    exact q acc t (fun x hx => .inl hx) (by simp) hj
  | i :: l, acc, t, Q, hj, hl, q => by
    unfold eInts
    simp only [List.map_cons]
    unfold wLcL
    simp only [List.length_cons] at hl hj
    refine step i (n + l.length) t _ _ hj fun t' m' hj' hm => ⟨⟨?_, ?_⟩, ?_⟩
    · simp only [tInts, List.length_map]
      exact big_lt (by omega)
    · rw [hm]
      have e : tInts acc ++ [T.fz (.int (i : Nat))] = tInts (acc ++ [i]) := by simp [tInts]
      rw [e]
      refine stops_run hw step l (acc ++ [i]) t' Q hj' (by simp; omega) fun s t2 hs hs2 hj2 => q s t2 (fun x hx => ?_) (by simp at hs2 ⊢; omega) hj2
      rcases hs x hx with z | z
      · rcases List.mem_append.mp z with z | z
        · exact .inl z
        · simp at z
          subst z
          exact .inr List.mem_cons_self
      · exact .inr (List.mem_cons_of_mem _ z)
    · rw [hm]
      refine stops_run hw step l acc t' Q hj' (by omega) fun s t2 hs hs2 hj2 => q s t2 (fun x hx => ?_) (by simp at hs2 ⊢; omega) hj2
      rcases hs x hx with z | z
      · exact .inl z
      · exact .inr (List.mem_cons_of_mem _ z)
theorem sc_tInts : ∀ l : List Nat, scL (tInts l) = true
  | [] => by simp [tInts]
  | a :: l => by
    have := sc_tInts l
    unfold tInts at this ⊢
    simp [this]
theorem eInts_fz {l : List Nat} : (eInts l).map T.fz = tInts l := by simp [eInts, tInts]
theorem eInts_rev {l : List Nat} : (eInts l).reverse = eInts l.reverse := by simp [eInts]
theorem sp_web (xs : List T) (P : T → T → Prop) (R : Exn → T → Prop) (hn : xs.length = 3) (h : o_web xs P R) : w__law_web (VL.startT 9 xs) (EI P R) := by
  obtain ⟨n, t, most, l, rfl, hj, hp, hm, nm, lne, ll, h⟩ := h
  unfold w__law_web
  have elen : dLen (.lst (eStrs l)) = some (.int (l.length : Nat)) := by simp [dLen]
  have lp : 0 < l.length := List.length_pos_iff.mpr lne
  simp
  refine ⟨n + 900, t, most, rfl, hj.less (by omega), hp, by omega, fun c0 t1 hc0 hj1 => ?_⟩
  simp
  have ec : (1 : Int) + (c0 : Int) = ((c0 + 1 : Nat) : Int) := by omega
  rw [ec]
  generalize hcount : c0 + 1 = count
  have hcl : count ≤ most := by omega
  have hcp : 0 < count := by omega
  clear hcount ec hc0
  have etn : ((count : Int)).toNat = count := by omega
  refine ⟨by omega, ?_⟩
  rw [etn]
  refine forL_at (webI n most count l) ?_ ?_ ⟨t1, [], _, _, _, _, rfl, hj1.less (by omega), rfl, fun r hr => (List.not_mem_nil hr).elim⟩
  · rintro k hk m ⟨t, rs, o5, o6, o7, o8, rfl, jt, rl, rg⟩ E' h1 h2 h3 h4 h5
    rw [rngD_at hk]
    rw [rngD_len] at hk
    have ek : 20 - k = (20 - (k + 1)) + 1 := by omega
    simp
    refine ⟨n + 100 + 20 * (20 - (k + 1)) + 19, t, 4, rfl, jt.less (by omega), by decide, by decide, fun tot t2 htot hj2 => ?_⟩
    simp
    refine ⟨by omega, ?_⟩
    have hrl : (tRooms rs).length < sizeLine := by
      simp
      exact big_lt (by omega)
    refine forL_at (webJ (n + 100 + 20 * (20 - (k + 1)) + 5) most count l rs k tot) ?_ ?_ ⟨t2, [], _, _, rfl, hj2.less (by omega), ⟨List.nodup_nil, fun p hp => (List.not_mem_nil hp).elim⟩, Nat.le_refl _⟩
    · rintro j hj m ⟨t, r, o6, o8, rfl, jt, rg1, rg2⟩ E2 h1' _ _ _ _
      rw [rngD_at hj]
      rw [rngD_len] at hj
      have ej : 4 - j = (4 - (j + 1)) + 1 := by omega
      simp
      refine ⟨n + 100 + 20 * (20 - (k + 1)) + 5 + 2 * (4 - (j + 1)) + 1, t, count, rfl, jt.less (by omega), hcp, by omega, fun v t3 hv hj3 => ?_⟩
      simp [elen]
      refine ⟨n + 100 + 20 * (20 - (k + 1)) + 5 + 2 * (4 - (j + 1)), t3, l.length, rfl, hj3, lp, by omega, fun d t4 hd hj4 => ?_⟩
      simp [ix_strs hd, keyD]
      have hk2 : (kR r).length < sizeLine := by
        simp [kR]
        exact big_lt (by omega)
      refine ⟨hk2, ?_⟩
      rw [put_room]
      obtain ⟨p1, p2⟩ := rg1.put (List.getElem_mem hd) hv
      exact h1' _ ⟨t4, putR r l[d] v, _, _, rfl, hj4, p1, by omega⟩
    · rintro m ⟨t, r, o6, o8, rfl, jt, rg1, rg2⟩
      rw [rngD_len] at rg2
      have fin : ∀ t' r' o6 o8, Jar (n + 100 + 20 * (20 - (k + 1))) t' → RowG l count r' → r'.length ≤ 4 → E'.nx [some t', some (.fz (.int (most : Nat))), some (.fz (.lst (eStrs l))), some (.fz (.int (count : Nat))), some (.ol (tRooms rs ++ [tRoom r'])), some (.fz (.int (k : Nat))), o6, none, o8] := fun t' r' o6 o8 j' g' l' => by
        have e : tRooms rs ++ [tRoom r'] = tRooms (rs ++ [r']) := by simp
        rw [e]
        refine h1 _ ⟨t', rs ++ [r'], _, _, _, _, rfl, j', by simp [rl], fun r2 hr2 => ?_⟩
        rcases List.mem_append.mp hr2 with z | z
        · exact rg r2 z
        · simp at z
          subst z
          exact ⟨g', l'⟩
      simp
      by_cases q : (k : Int) + 1 < count
      · rw [decide_eq_true q]
        simp
        refine ⟨n + 100 + 20 * (20 - (k + 1)) + 4, t, 2, rfl, jt.less (by omega), by decide, by decide, fun b t3 hb hj3 => ?_⟩
        simp [eq_int]
        by_cases z : b = 0
        · subst z
          simp [elen]
          refine ⟨n + 100 + 20 * (20 - (k + 1)) + 3, t3, l.length, rfl, hj3, lp, by omega, fun d t4 hd hj4 => ?_⟩
          simp [ix_strs hd, keyD]
          have hk2 : (kR r).length < sizeLine := by
            simp [kR]
            exact big_lt (by omega)
          have ek1 : (k : Int) + 1 = ((k + 1 : Nat) : Int) := by omega
          obtain ⟨p1, p2⟩ := rg1.put (v := k + 1) (List.getElem_mem hd) (by omega)
          refine ⟨hk2, ?_⟩
          rw [ek1, put_room]
          refine ⟨by simpa using hrl, fin _ _ _ _ (hj4.less (by omega)) p1 (by omega)⟩
        · have z' : ¬ (b : Int) = 0 := by omega
          simp [z]
          exact ⟨by simpa using hrl, fin _ _ _ _ (hj3.less (by omega)) rg1 (by omega)⟩
      · rw [decide_eq_false q]
        simp
        exact ⟨by simpa using hrl, fin _ _ _ _ (jt.less (by omega)) rg1 (by omega)⟩
  · rintro m ⟨t, rs, o5, o6, o7, o8, rfl, jt, rl, rg⟩
    rw [rngD_len] at rl jt
    simp [etn]
    refine ⟨by omega, ?_⟩
    have erng : rngD 0 count = eInts (List.range count) := by simp [rngD, eInts]
    rw [erng]
    refine stops_run (n := n + 50) (m0 := fun t => [some t, some (.fz (.int (most : Nat))), some (.fz (.lst (eStrs l))), some (.fz (.int (count : Nat))), some (.ol (tRooms rs)), none, o6, o7, o8]) (fun t => rfl) (fun i n t K1 K2 hj hk => ?_) (List.range count) [] t _ (jt.less (by simp; omega)) (by simp; omega) fun s t' hs hs2 hj' => ?_
    · simp
      refine ⟨n, t, 3, rfl, hj, by decide, by decide, fun r t' hr hj' => ?_⟩
      obtain ⟨q1, q2⟩ := hk t' [some t', some (.fz (.int (most : Nat))), some (.fz (.lst (eStrs l))), some (.fz (.int (count : Nat))), some (.ol (tRooms rs)), some (.fz (.int (i : Nat))), o6, o7, o8] hj' rfl
      simp [eq_int]
      by_cases z : r = 0
      · subst z
        simpa using q1
      · have z' : ¬ (r : Int) = 0 := by omega
        simpa [z] using q2
    · have hsc : ∀ x ∈ s, x < count := fun x hx => by
        rcases hs x hx with z | z
        · cases z
        · exact List.mem_range.mp z
      have hsl : s.length ≤ count := by simpa using hs2
      generalize (match some o5 with | some (some (T.fz d)) => some (T.fz d) | x => none) = o5'
      simp
      refine ⟨n + 40, t', 4, rfl, hj'.less (by omega), by decide, by decide, fun b t2 hb hj2 => ?_⟩
      have fin : ∀ (s : List Nat) (t : T) o5 o7 o8, Jar (n + 10) t → (∀ x ∈ s, x < count) → s.length ≤ count + 1 → (wRet (wTup (wConsL 4 (wCons (wIf (wB (w2 (oR2 (dEq false)) (wIO 0 2 o_grab (wCons (wC (.int 2)) wNil)) (wC (.int 0)))) (wView (w1 (oL1 dRev) (wVar 6))) (wTake 6)) wNil))))
          [some t, some (.fz (.int (most : Nat))), some (.fz (.lst (eStrs l))), some (.fz (.int (count : Nat))), some (.ol (tRooms rs)), o5, some (.ol (tInts s)), o7, o8] (EI P R) := by
        intro s t o5 o7 o8 hj hs hl
        have good : ∀ s : List Nat, (∀ x ∈ s, x < count) → s.length ≤ count + 1 → Good rs s := fun s hs hl => ⟨by omega, by omega, fun r hr => by
          obtain ⟨g, g4⟩ := rg r hr
          exact ⟨by omega, g.nd, fun p hp => ⟨nm _ (g.mem p hp).1, by have := (g.mem p hp).2; omega⟩⟩, fun e he => by have := hs e he; omega, by omega⟩
        have fine : ∀ s : List Nat, (∀ x ∈ s, x < count) → s.length ≤ count + 1 → ∀ t, Jar n t → P (.fz (eWeb rs s)) t := fun s hs hl t hj => h rs s t (good s hs hl) (by omega) (fun r hr => ⟨by have := (rg r hr).2; omega, fun p hp => ((rg r hr).1.mem p hp).1⟩) (by omega) hj
        have erooms : D.lst ((tRooms rs).map T.er) = eRooms rs := by
          unfold eRooms
          congr 1
          rw [List.map_map]
          apply List.map_congr_left
          intro r _
          exact er_room
        simp
        refine ⟨n, t, 2, rfl, hj.less (by omega), by decide, by decide, fun b t2 hb hj2 => ?_⟩
        simp [eq_int]
        have two : 2 ≤ sizeLine := big_le (by decide)
        have erooms' : D.lst (List.map (T.er ∘ tRoom) rs) = eRooms rs := by rw [← erooms, List.map_map]
        by_cases z : b = 0
        · subst z
          have := fine s.reverse (fun x hx => hs x (by simpa using hx)) (by simpa using hl) t2 hj2
          have e1 : dRev (.lst (eInts s)) = some (eInts s.reverse) := by simp [dRev, eInts_rev]
          simp [er_tInts, e1]
          rw [eInts_fz, erooms']
          exact ⟨sc_tInts _, two, this⟩
        · simp [z, er_tInts]
          rw [erooms']
          exact ⟨two, fine s hs hl t2 hj2⟩
      simp
      by_cases z : 0 < b
      · simp [z]
        refine ⟨n + 20, t2, count, rfl, hj2.less (by omega), hcp, by omega, fun r t3 hr hj3 => ?_⟩
        have e : tInts s ++ [T.fz (.int (r : Nat))] = tInts (s ++ [r]) := by simp [tInts]
        have hsz : (tInts s).length < sizeLine := by
          simp only [tInts, List.length_map]
          exact big_lt (by omega)
        have := fin (s ++ [r]) t3 o5' o7 o8 (hj3.less (by omega)) (fun x hx => by
          rcases List.mem_append.mp hx with hx | hx
          · exact hsc x hx
          · simp at hx
            omega) (by simp; omega)
        rw [← e] at this
        simp at this
        simp [hsz]
        exact this
      · have := fin s t2 o5' o7 o8 (hj2.less (by omega)) hsc (by omega)
        simp [z]
        simpa using this
end Pg
set_option Elab.async false
set_option linter.all false
set_option maxRecDepth 100000
set_option maxHeartbeats 1000000
/-! L7: callings keep their promise. -/
namespace Pg
open PySem PySem.Spec PyProof.Rows L2 VL
/-- texts of letters -/
def Lets (z : Str) : Prop := ∀ c ∈ z.cps.toList, c ∈ letters.cps.toList
theorem name_of {z : Str} (h : Lets z) (h1 : 1 ≤ z.length) (h8 : z.length ≤ 8) : isName z = true := by
  unfold isName
  rw [Bool.and_eq_true, Bool.and_eq_true, List.all_eq_true]
  exact ⟨decide_eq_true h1, decide_eq_true h8, fun c hc => decide_eq_true (h c hc)⟩
theorem cut_lets {z : Str} (h : Lets z) (lo hi : Option Int) : Lets (cutS z lo hi) := fun c hc => by
  unfold cutS at hc
  simp only [List.toList_toArray] at hc
  exact h c (List.mem_of_mem_drop (List.mem_of_mem_take hc))
theorem cut_to {z : Str} {k : Nat} : (cutS z none (some (k : Int))).length = min k z.length := by
  unfold cutS
  rw [HT.sIx_nat, HT.sIx_none]
  show ((z.cps.toList.drop 0).take (min k z.length - 0)).toArray.size = _
  simp [Str.length]
theorem cut_mid {z : Str} {a b : Nat} : (cutS z (some (a : Int)) (some (b : Int))).length = min b z.length - min a z.length := by
  unfold cutS
  rw [HT.sIx_nat, HT.sIx_nat]
  show ((z.cps.toList.drop (min a z.length)).take (min b z.length - min a z.length)).toArray.size = _
  simp [Str.length]
  omega
theorem app_len {a b : Str} : (a ++ b).length = a.length + b.length := strLen_append a b
theorem app_lets {a b : Str} (ha : Lets a) (hb : Lets b) : Lets (a ++ b) := fun c hc => by
  have e : (a ++ b).cps.toList = a.cps.toList ++ b.cps.toList := by
    show (a.cps ++ b.cps).toList = _
    simp
  rw [e] at hc
  exact (List.mem_append.mp hc).elim (ha c) (hb c)
theorem ix_let {i : Nat} (h : i < 26) : ∃ c, c ∈ letters.cps.toList ∧ dIx (.str "abcdefghijklmnopqrstuvwxyz") (.int (i : Nat)) = some (.str ⟨#[c]⟩) := by
  have hl : letters.cps.toList.length = 26 := by decide +kernel
  have hl2 : letters.length = 26 := by simpa [Str.length] using hl
  refine ⟨letters.cps.toList[i]'(by omega), List.getElem_mem _, ?_⟩
  show dIx (.str letters) _ = _
  unfold dIx
  simp only
  rw [if_pos (by rw [hl2]; exact big_le (by decide)), VL.atI_nat (by omega)]
  rfl
theorem one_lets {c : Nat} (h : c ∈ letters.cps.toList) : Lets ⟨#[c]⟩ := fun d hd => by
  simp at hd
  exact hd ▸ h
theorem one_len {c : Nat} : (⟨#[c]⟩ : Str).length = 1 := rfl
def words : List Str := ["out", "in", "look", "barred", "sure", "day", "never", "seen", "open", "rooms", "depth", "custom"]
theorem words_ok : Names words := by
  have : words.all isName = true := by decide +kernel
  exact List.all_eq_true.mp this
def wordAt (s k : Nat) : Str := words.getD (if k ≤ s then s - k else 12 + s - k) ""
theorem wordAt_in {s k : Nat} (hs : s < 12) (hk : k < 8) : wordAt s k ∈ words := by
  unfold wordAt
  have hl : (if k ≤ s then s - k else 12 + s - k) < words.length := by
    show _ < 12
    split <;> omega
  rw [List.getD_eq_getElem?_getD, List.getElem?_eq_getElem hl]
  exact List.getElem_mem hl
theorem ix_word {s k : Nat} (hs : s < 12) (hk : k < 8) : dIx (.lst (eStrs words)) (.int ((s : Int) - (k : Int))) = some (.str (wordAt s k)) := by
  unfold wordAt
  by_cases q : k ≤ s
  · have e : (s : Int) - (k : Int) = ((s - k : Nat) : Int) := by omega
    have hl : s - k < words.length := by show _ < 12; omega
    rw [e, if_pos q, ix_strs hl, List.getD_eq_getElem?_getD, List.getElem?_eq_getElem hl]
    rfl
  · have hl : 12 + s - k < words.length := by show _ < 12; omega
    rw [if_neg q, List.getD_eq_getElem?_getD, List.getElem?_eq_getElem hl]
    unfold dIx atI ixN
    simp only
    have h1 : ¬ (0 : Int) ≤ (s : Int) - (k : Int) := by omega
    have h2 : (eStrs words).length = 12 := rfl
    rw [if_neg h1, h2, if_pos (by omega)]
    have h3 : ((s : Int) - (k : Int) + (12 : Nat)).toNat = 12 + s - k := by omega
    simp only [h3, Option.bind_some]
    unfold eStrs
    rw [List.getElem?_map, List.getElem?_eq_getElem hl]
    rfl
def callJ (n many way start : Nat) (z : Str) (size place : Nat) (k : Nat) (m : Tau) : Prop := ∃ (t : T) (l : List Str) (o7 o11 : Option T), m = [some t, some (.fz (.int (many : Nat))), some (.fz (.lst (eStrs words))), some (.fz (.str "abcdefghijklmnopqrstuvwxyz")), some (.fz (.int (way : Nat))), some (.fz (.int (start : Nat))), some (.fz (.str z)), o7, some (.fz (.int (size : Nat))), some (.fz (.int (place : Nat))), some (.ol (tStrs l)), o11] ∧
  Jar n t ∧ Names l ∧ l.length = k
theorem lets0 : Lets "" := fun c hc => by
  have e : ("" : Str).cps.toList = [] := rfl
  rw [e] at hc
  cases hc
def callI (n many way start : Nat) (k : Nat) (m : Tau) : Prop := ∃ (t : T) (z : Str) (o7 : Option T), m = [some t, some (.fz (.int (many : Nat))), some (.fz (.lst (eStrs words))), some (.fz (.str "abcdefghijklmnopqrstuvwxyz")), some (.fz (.int (way : Nat))), some (.fz (.int (start : Nat))), some (.fz (.str z)), o7, none, none, none, none] ∧
  Jar (n + 5 + (8 - k)) t ∧ Lets z ∧ z.length = k
theorem sp_callings (xs : List T) (P : T → T → Prop) (R : Exn → T → Prop) (hn : xs.length = 2) (h : o_callings xs P R) : w__law_callings (VL.startT 12 xs) (EI P R) := by
  obtain ⟨n, t, many, rfl, hj, hm, h⟩ := h
  unfold w__law_callings
  simp
  refine ⟨big_le (by decide), n + 19, t, 3, rfl, hj, by decide, by decide, fun way t1 hway hj1 => ?_⟩
  refine ⟨n + 18, t1, 12, rfl, hj1, by decide, by decide, fun start t2 hst hj2 => ?_⟩
  refine forL_at (callI n many way start) ?_ ?_ ⟨t2, "", _, rfl, hj2.less (by omega), lets0, rfl⟩
  · rintro k hk m ⟨t, z, o7, rfl, jt, lz, zl⟩ E' h1 h2 h3 h4 h5
    rw [rngD_at hk]
    have hk : k < 8 := by simpa [rngD] using hk
    simp
    refine ⟨n + 5 + (8 - (k + 1)), t, 26, rfl, jt.less (by omega), by decide, by decide, fun i t' hi jt' => ?_⟩
    obtain ⟨c, hc, e⟩ := ix_let hi
    simp [e]
    refine ⟨?_, h1 _ ⟨t', z ++ ⟨#[c]⟩, _, rfl, jt', app_lets lz (one_lets hc), by rw [app_len, zl, one_len]⟩⟩
    rw [zl, one_len]
    exact big_le (by omega)
  · rintro m ⟨t, z, o7, rfl, jt, lz, zl⟩
    have zl : z.length = 8 := by simpa [rngD] using zl
    have jt : Jar (n + 5) t := jt.less (by omega)
    have zs : z.length ≤ sizeLine := big_le (by omega)
    simp [eq_int]
    have erng : rngD 0 many = eInts (List.range many) := by simp [rngD, eInts]
    by_cases w0 : way = 0
    · subst w0
      simp
      refine ⟨by omega, ?_⟩
      rw [erng]
      refine lcL_map (e := fun (k : Nat) => D.int (k : Int)) (ms := fun (k : Nat) => [some t, some (.fz (.int (many : Nat))), some (.fz (.lst (eStrs words))), some (.fz (.str "abcdefghijklmnopqrstuvwxyz")), some (.fz (.int 0)), some (.fz (.int (start : Nat))), some (.fz (.str z)), some (.fz (.int (k : Nat))), none, none, none, none])
        (f := fun k => some (.fz (.str (wordAt start k)))) (fun p => rfl) (fun k hk K1 K2 h => ?_) ?_ ?_
      · have hk : k < many := List.mem_range.mp hk
        simp [ix_word hst (show k < 8 by omega)]
        exact h
      · simp
        exact big_le (by omega)
      · simp only [List.nil_append, filterMap_some]
        refine ⟨t, rfl, ?_⟩
        have := h ((List.range many).map fun k => wordAt start k) t (by simp) (fun z hz => by
          obtain ⟨k, hk, rfl⟩ := List.mem_map.mp hz
          have := List.mem_range.mp hk
          exact words_ok _ (wordAt_in hst (by omega))) (jt.less (by omega))
        simpa [Function.comp_def] using this
    · have w0' : ¬ (way : Int) = 0 := by omega
      simp [w0]
      by_cases w1 : way = 1
      · subst w1
        simp
        refine ⟨by omega, ?_⟩
        rw [erng]
        refine lcL_map (e := fun (k : Nat) => D.int (k : Int)) (ms := fun (k : Nat) => [some t, some (.fz (.int (many : Nat))), some (.fz (.lst (eStrs words))), some (.fz (.str "abcdefghijklmnopqrstuvwxyz")), some (.fz (.int 1)), some (.fz (.int (start : Nat))), some (.fz (.str z)), some (.fz (.int (k : Nat))), none, none, none, none])
          (f := fun k => some (.fz (.str (cutS z none (some ((k + 1 : Nat) : Int)))))) (fun p => rfl) (fun k hk K1 K2 h => ?_) ?_ ?_
        · simp [zs]
          exact h
        · simp
          exact big_le (by omega)
        · simp only [List.nil_append, filterMap_some]
          have e1 : ((List.range many).map fun k => T.fz (.str (cutS z none (some ((k + 1 : Nat) : Int))))).map T.er = eStrs ((List.range many).map fun k => cutS z none (some ((k + 1 : Nat) : Int))) := by simp [eStrs]
          rw [e1]
          have e2 : dRev (.lst (eStrs ((List.range many).map fun k => cutS z none (some ((k + 1 : Nat) : Int))))) = some (eStrs ((List.range many).map fun k => cutS z none (some ((k + 1 : Nat) : Int))).reverse) := by simp [dRev, eStrs]
          rw [e2]
          refine ⟨t, rfl, ?_⟩
          have := h ((List.range many).map fun k => cutS z none (some ((k + 1 : Nat) : Int))).reverse t (by simp) (fun y hy => by
            rw [List.mem_reverse] at hy
            obtain ⟨k, hk, rfl⟩ := List.mem_map.mp hy
            have := List.mem_range.mp hk
            have hl := cut_to (z := z) (k := k + 1)
            exact name_of (cut_lets lz _ _) (by omega) (by omega)) (jt.less (by omega))
          simpa [eStrs, Function.comp_def] using this
      · have w1' : ¬ (way : Int) = 1 := by omega
        rw [decide_eq_false w1']
        simp
        refine ⟨n + 4, t, 8, rfl, jt, by decide, by decide, fun s0 t3 hs0 hj3 => ?_⟩
        simp
        have es : (1 : Int) + (s0 : Int) = ((s0 + 1 : Nat) : Int) := by omega
        rw [es]
        generalize hsize : s0 + 1 = size
        have hz1 : 1 ≤ size := by omega
        have hz8 : size ≤ 8 := by omega
        refine ⟨n + 3, t3, size, rfl, hj3, by omega, by omega, fun place t4 hpl hj4 => ?_⟩
        refine ⟨by omega, ?_⟩
        refine forL_at (callJ n many way start z size place) ?_ ?_ ⟨t4, [], _, _, rfl, hj4.less (by omega), fun y hy => (List.not_mem_nil hy).elim, rfl⟩
        · rintro k hk m ⟨t, l, o7, o11, rfl, jt, nl, ll⟩ E' h1 h2 h3 h4 h5
          rw [rngD_at hk]
          rw [rngD_len] at hk
          have ek : (start : Int) + (k : Int) = ((start + k : Nat) : Int) := by omega
          obtain ⟨c, hc, e⟩ := ix_let (i := start + k) (by omega)
          simp
          rw [ek, e]
          have l1 := cut_to (z := z) (k := place)
          have l2 : (cutS z (some ((place : Int) + 1)) (some (size : Int))).length = min size z.length - min (place + 1) z.length := by
            have := cut_mid (z := z) (a := place + 1) (b := size)
            simpa using this
          have l3 := app_len (a := cutS z none (some (place : Int))) (b := ⟨#[c]⟩)
          rw [one_len] at l3
          have l4 := app_len (a := cutS z none (some (place : Int)) ++ ⟨#[c]⟩) (b := cutS z (some ((place : Int) + 1)) (some (size : Int)))
          have lz1 : l.length < sizeLine := big_lt (by omega)
          have nm : isName (cutS z none (some (place : Int)) ++ ⟨#[c]⟩ ++ cutS z (some ((place : Int) + 1)) (some (size : Int))) = true :=
            name_of (app_lets (app_lets (cut_lets lz _ _) (one_lets hc)) (cut_lets lz _ _)) (by omega) (by omega)
          simp [zs, one_len]
          refine ⟨big_le (by omega), big_le (by omega), lz1, ?_⟩
          have et : tStrs l ++ [T.fz (.str (cutS z none (some (place : Int)) ++ ⟨#[c]⟩ ++ cutS z (some ((place : Int) + 1)) (some (size : Int))))] = tStrs (l ++ [cutS z none (some (place : Int)) ++ ⟨#[c]⟩ ++ cutS z (some ((place : Int) + 1)) (some (size : Int))]) := by simp
          rw [et]
          refine h1 _ ⟨t, _, _, _, rfl, jt, fun y hy => ?_, by simp [ll]⟩
          rcases List.mem_append.mp hy with hy | hy
          · exact nl y hy
          · simp at hy
            rw [hy]
            exact nm
        · rintro m ⟨t, l, o7, o11, rfl, jt, nl, ll⟩
          simp
          exact h l t (by simpa [rngD] using ll) nl jt
end Pg
set_option Elab.async false
set_option linter.all false
set_option maxRecDepth 100000
set_option maxHeartbeats 4000000
/-! VL31: dict != {}. -/
namespace VL
open PySem PySem.Spec PyProof.Rows L2
def rNeE : R2 := fun x y H Q => ∃ a b ks, x = .ref a ∧ y = .ref b ∧ Rd H a (.dK ks) ∧ Rd H b (.dK []) ∧ Q (.bl (!ks.isEmpty)) H
theorem op_neE {X : Cx} (hu : X.A.units < cLine) : OpR X (compareOp .NotEq) rNeE := by
  intro pins s σ H x y v u Q I rx ry h
  obtain ⟨a, b, ks, rfl, rfl, ea, eb, q⟩ := h
  obtain rfl : v = Value.ref a := rx
  obtain rfl : u = Value.ref b := ry
  obtain ⟨_, ya, va, ra, da⟩ := ea.ok I.hok
  obtain ⟨_, yb, vb, rb, db⟩ := eb.ok I.hok
  have lb : vb.length = 0 := by
    have := rb.length
    simpa using this.symm
  have la : ks.length = va.length := ra.length
  refine PySem.W.keq_ne (knd := mixKind X.prog X.w) (r := true) ya yb da db hu (fun e => ?_) (fin_bl I q ?_)
  · rw [lb] at e
    rw [List.length_eq_zero_iff.mp e]
    exact .nil
  · rw [lb, ← la]
    cases ks <;> simp
def dNeE (a b : D) : Option D := match a, b with
  | .dct ks _, .dct [] [] => some (.bl (!ks.isEmpty))
  | _, _ => none
theorem rd_neE : Rd2 rNeE dNeE := by
  intro lk B F H s m vs ts a b d v u Q st ha hb e q
  unfold dNeE at e
  split at e
  · rename_i ks l
    cases e
    obtain ⟨p, ws, rfl, e1, e2, ⟨e3, _⟩, e4⟩ := st.dct ha
    obtain ⟨p', ws', rfl, f1, f2, f3, f4⟩ := st.dct hb
    refine ⟨p, p', _, rfl, rfl, e2, by simpa using f2, ?_⟩
    have : (ks.zip ws).isEmpty = ks.isEmpty := by
      cases ks with
      | nil => rfl
      | cons _ _ =>
        cases ws with
        | nil => cases e3
        | cons _ _ => rfl
    rw [this]
    exact q _ fzb
  · cases e
section
variable {X : Cx} {a b : Expr} {wa wb : WE} {lk : Lk} {pos : Pos}
theorem v_neE (hu : X.A.units + 64 < cLine) (ha : PE X a (LE lk wa)) (hb : PE X b (LE lk wb)) : PE X (.Compare a [.NotEq] [b] pos) (LE lk (w2 (oR2 dNeE) wa wb)) := v_cmp (op_neE (by omega)) (s_R2 rd_neE) ha hb
theorem t_neE (hu : X.A.units + 64 < cLine) (ha : PE X a (LE lk wa)) (hb : PE X b (LE lk wb)) : PT X (.Compare a [.NotEq] [b] pos) (LT lk (wB (w2 (oR2 dNeE) wa wb))) := v_tcmp (op_neE (by omega)) (s_R2 rd_neE) ha hb
end
end VL
set_option Elab.async false
set_option linter.all false
set_option maxRecDepth 100000
set_option maxHeartbeats 0
namespace Pg
open PySem PySem.Spec PyProof.Rows L2 VL
def o_blown_web : OIO := fun xs P _ => ∃ (n : Nat) (t : T) (rs : RM) (es : List Nat) (l : List Str), xs = [t, .fz (eWeb rs es)] ∧ Jar (n + 1000) t ∧ Good rs es ∧ rs.length ≤ 16 ∧ (∀ r ∈ rs, r.length ≤ 20 ∧ ∀ p ∈ r, p.1 ∈ l) ∧ l.length ≤ 20 ∧ es.length ≤ 100 ∧ Names l ∧
  ∀ rs' es' t', Good rs' es' → rs'.length = 2 * rs.length + 2 → (∀ r ∈ rs', ∀ p ∈ r, p.1 ∈ l) → (∀ w, acc rs' es' 0 w = acc rs es 0 w) → Jar n t' → P (.fz (eWeb rs' es')) t'
-- _law_blown_web: 0 _law_jar_here, 1 _law_web_here, 2 _law_count, 3 _law_found, 4 _law_stops, 5 _law_turn, 6 _law_deeds_here, 7 _law_steps_here, 8 _law_at, 9 _law_rest, 10 _law_row, 11 _law_deed, 12 _law_goal
def w__law_blown_web : WS := (wSeq (wParL [2, 3, 4] (wCons (wFz (wA (oA1 (oR1 dLen)) (wCons (w2 oIxH (wVar 1) (wC (.int 0))) wNil))) (wCons (wLst wNil) (wCons (wLst wNil) wNil))))
  (wSeq (wFor (iR1 (wC (.int 2))) (gN 5) (wFor (iE (w2 oIxH (wVar 1) (wC (.int 0)))) (gT [(gN 8), (gN 7)]) (wSeq (wSet 10 wNewD)
  (wSeq (wForK (pVar 7) pairD (gT [(gN 11), (gN 12)]) (wPut 10 (w2 oAdd (wVar 12) (w2 oMul (wVar 2) (wIO 0 2 o_grab (wCons (wC (.int 2)) wNil)))) (wVar 11)))
  (wSeq (wApp 3 (wTake 10))
  (wIfS (wB (w2 (oR2 (dIn false)) (wVar 8) (w2 oIxH (wVar 1) (wC (.int 1))))) (wApp 4 (w2 oAdd (w2 oMul (wVar 5) (wVar 2)) (wVar 8))) wNext))))))
  (wSeq (wSetF 6 (wLst wNil))
  (wSeq (wFor (iL (w2 oIxH (wVar 1) (wC (.int 0)))) (gN 7) (wSetF 6 (w2 oAdd (wVar 6) (wLcK (pVar 7) selK (gN 11) (wB (w2 (oR2 (dIn true)) (wVar 11) (wVar 6))) (wVar 11) [11]))))
  (wSeq (wSetF 8 (wIO 0 2 o_grab (wCons (wFz (w2 oMul (wC (.int 2)) (wVar 2))) wNil)))
  (wSeq (wSetF 9 (wLc (iL (wVar 6)) (gN 11) (wViewT (wB (w2 (oR2 (dIn true)) (wVar 11) (w2 oIxH (wVar 3) (wVar 8))))) (wVar 11) [11]))
  (wSeq (wIfS (wB (w2 (oR2 (dEq true)) (wVar 9) (wLst wNil))) (wPut2 3 (wVar 8) (w2 oMul (wC (.int 2)) (wVar 2)) (w2 oIxH (wVar 9) (wC (.int 0)))) wNext)
  (wRet (wTup (wCons (w2 oAdd (wFrz 3) (wLst (wCons wNewD (wCons (wA (oA1 oDict) (wCons (wLc (iL (wCut (wVar 6) wNo (wPart (wC (.int 1))))) (gN 11) wYes (wTup (wCons (wVar 11) (wCons (wC (.int 0)) wNil))) [11]) wNil)) wNil)))) (wCons (wView (w2 oAdd (wVar 4) (wLst (wCons (w2 oAdd (w2 oMul (wC (.int 2)) (wVar 2)) (wC (.int 1))) wNil)))) wNil)))))))))))
end Pg
set_option Elab.async false
set_option linter.all false
set_option maxRecDepth 100000
set_option maxHeartbeats 1000000
/-! R2: check_day, deeds_of, len, ==. -/
namespace Pg
open PySem PySem.Spec PyProof.Rows L2 VL
theorem Least.ru {rs : RM} {es : List Nat} {lr : RM} {le : List Nat} {l : List Str} (h : Least rs es lr le) (hl : ∀ r ∈ rs, ∀ p ∈ r, p.1 ∈ l) : Ru l lr le := ⟨h.wf, h.canon, h.deeds l hl⟩
theorem er_rule {C : Addr} {lr : RM} {le : List Nat} : (tRule C lr le).er = eRule C lr le := by simp [eRule]
theorem ru_one {l l' : List Str} {lr lr' : RM} {le le' : List Nat} (a : Ru l lr le) (b : Ru l' lr' le') : (lr = lr' ∧ le = le') ↔ ∀ w, acc lr le 0 w = acc lr' le' 0 w :=
  ⟨fun ⟨x, y⟩ w => by rw [x, y], fun h => canon_one a.canon b.canon h⟩
theorem sp_check_day (xs : List T) (P : T → Prop) (R : Exn → Prop) (hn : xs.length = 1) (h : o_check_day xs P R) : w_check_day (VL.startT 2 xs) (EV P R) := by
  obtain ⟨w, rfl, nm, h⟩ := h
  simp [w_check_day]
  refine forL_at (fun _ m => ∃ o, m = [some (.fz (.lst (eStrs w))), o]) ?_ ?_ ⟨_, rfl⟩
  · rintro k hk m ⟨o, rfl⟩ E' h1 h2 h3 h4 h5
    have hk' : k < w.length := by simpa using hk
    have ed : (eStrs w)[k] = .str w[k] := by simp [eStrs]
    rw [ed]
    have hd := nm _ (List.getElem_mem hk')
    have len := isName_len hd
    simp
    refine ⟨w[k], rfl, by omega, ?_⟩
    simp [hd]
    exact h1 _ ⟨_, rfl⟩
  · rintro m ⟨o, rfl⟩
    exact h
theorem ix_least {lr : RM} {k : Nat} (h : k < lr.length) : dIx (eLeast lr) (.int (k : Nat)) = some (.tup (lr[k].map fun p => .tup [.str p.1, .int (p.2 : Nat)])) := by
  unfold eLeast dIx
  simp only
  rw [atI_nat (by simpa using h)]
  simp
theorem sp_deeds_of (xs : List T) (P : T → Prop) (R : Exn → Prop) (hn : xs.length = 2) (h : o_deeds_of xs P R) : w_deeds_of (VL.startT 4 xs) (EV P R) := by
  obtain ⟨lr, i, rfl, hi, hs, h⟩ := h
  cases i with
  | none =>
    simp [w_deeds_of, oInt]
    simpa [deedsAt] using h
  | some k =>
    have hk := hi k rfl
    simp [w_deeds_of, oInt, ix_least hk]
    refine lcL_map (e := fun p : Str × Nat => D.tup [.str p.1, .int (p.2 : Nat)]) (ms := fun p => [some (.fz (eLeast lr)), some (.fz (.int (k : Nat))), some (.fz (.str p.1)), some (.fz (.int (p.2 : Nat)))]) (f := fun p => some (.fz (.str p.1))) (fun p => rfl) (fun p hp K1 K2 h => ?_) ?_ ?_
    · simp
      exact h
    · simp only [List.length_nil]
      exact big_le (by have := hs _ (List.getElem_mem hk); omega)
    · simp only [List.nil_append, filterMap_some]
      simpa [deedsAt, List.getD_eq_getElem?_getD, List.getElem?_eq_getElem hk, Function.comp_def] using h
theorem sp_len (C : Addr) (xs : List T) (P : T → Prop) (R : Exn → Prop) (hn : xs.length = 1) (h : o_len C xs P R) : w_len C (VL.startT 1 xs) (EV P R) := by
  obtain ⟨lr, le, rfl, h⟩ := h
  simp [w_len, eRule, dLen, eLeast]
  simpa using h
/-! ### == of least rooms -/
def pyRow (r : Room1) : PyData := .tuple (r.map fun p => .tuple [.str p.1, .int (p.2 : Nat)])
theorem pyL_row : ∀ r : Room1, pyL (r.map fun p => .tup [.str p.1, .int (p.2 : Nat)]) = some (r.map fun p => .tuple [.str p.1, .int (p.2 : Nat)])
  | [] => rfl
  | p :: r => by simp [pyL, pyD, pyL_row r]
theorem pyL_rows : ∀ lr : RM, pyL (lr.map fun r => .tup (r.map fun p => .tup [.str p.1, .int (p.2 : Nat)])) = some (lr.map pyRow)
  | [] => rfl
  | r :: lr => by simp [pyL, pyD, pyL_rows lr, pyL_row, pyRow]
theorem lay_row : ∀ {r : Room1}, (∀ p ∈ r, PyData.strOk p.1 = true) → PyData.canLayAll0 (r.map fun p => .tuple [.str p.1, .int (p.2 : Nat)]) = true
  | [], _ => rfl
  | p :: r, h => by
    have h1 := h p List.mem_cons_self
    have ih := lay_row (r := r) fun q hq => h q (List.mem_cons_of_mem _ hq)
    simp only [List.map_cons, PyData.canLayAll0, PyData.canLay0, h1, ih, Bool.and_self]
theorem lay_rows : ∀ {lr : RM}, (∀ r ∈ lr, ∀ p ∈ r, PyData.strOk p.1 = true) → PyData.canLayAll0 (lr.map pyRow) = true
  | [], _ => rfl
  | r :: lr, h => by
    have h1 := lay_row (h r List.mem_cons_self)
    have ih := lay_rows (lr := lr) fun q hq => h q (List.mem_cons_of_mem _ hq)
    simp only [List.map_cons, pyRow, PyData.canLayAll0, PyData.canLay0, h1, ih, Bool.and_self] at *
theorem depth_row : ∀ r : Room1, PyData.depthAll (r.map fun p => .tuple [.str p.1, .int (p.2 : Nat)]) ≤ 1
  | [] => by simp [PyData.depthAll]
  | p :: r => by
    have := depth_row r
    simp [PyData.depthAll, PyData.depth]
    omega
theorem depth_rows : ∀ lr : RM, PyData.depthAll (lr.map pyRow) ≤ 2
  | [] => by simp [PyData.depthAll]
  | r :: lr => by
    have h1 := depth_rows lr
    have h2 := depth_row r
    simp only [List.map_cons, pyRow, PyData.depthAll, PyData.depth] at *
    omega
theorem eqv_row : ∀ a b : Room1, PyData.eqvAll (a.map fun p => .tuple [.str p.1, .int (p.2 : Nat)]) (b.map fun p => .tuple [.str p.1, .int (p.2 : Nat)]) = decide (a = b)
  | [], [] => by simp [PyData.eqvAll]
  | [], _ :: _ => by simp [PyData.eqvAll]
  | _ :: _, [] => by simp [PyData.eqvAll]
  | (x, i) :: a, (y, j) :: b => by
    have ih := eqv_row a b
    simp only [List.map_cons, PyData.eqvAll, PyData.eqv, ih]
    by_cases q : x = y <;> by_cases z : i = j <;> by_cases w : a = b <;> simp [q, z, w] <;> omega
theorem eqv_rows : ∀ a b : RM, PyData.eqvAll (a.map pyRow) (b.map pyRow) = decide (a = b)
  | [], [] => by simp [PyData.eqvAll]
  | [], _ :: _ => by simp [PyData.eqvAll]
  | _ :: _, [] => by simp [PyData.eqvAll]
  | x :: a, y :: b => by
    have ih := eqv_rows a b
    simp only [List.map_cons, pyRow, PyData.eqvAll, PyData.eqv, eqv_row] at *
    rw [ih]
    by_cases q : x = y <;> by_cases w : a = b <;> simp [q, w]
theorem eq_least {neg : Bool} {a b : RM} (ha : ∀ r ∈ a, ∀ p ∈ r, PyData.strOk p.1 = true) (hb : ∀ r ∈ b, ∀ p ∈ r, PyData.strOk p.1 = true) : dEq neg (eLeast a) (eLeast b) = some (.bl (if neg then !decide (a = b) else decide (a = b))) := by
  unfold dEq eLeast
  simp only [pyD, pyL_rows]
  have s1 : ∀ l : RM, (∀ r ∈ l, ∀ p ∈ r, PyData.strOk p.1 = true) → SeqAt.shaped (PyData.tuple (l.map pyRow)) = true := fun l h => by
    have := depth_rows l
    simp [SeqAt.shaped, PyData.canLay0, PyData.depth, lay_rows h]
    omega
  simp [s1 _ ha, s1 _ hb, PyData.eqv, eqv_rows]
theorem pyL_ints : ∀ l : List Nat, pyL (eInts l) = some (l.map fun (i : Nat) => PyData.int (i : Int))
  | [] => rfl
  | a :: l => by
    have ih := pyL_ints l
    unfold eInts at ih ⊢
    simp only [List.map_cons, pyL, pyD]
    rw [ih]
theorem lay_ints : ∀ l : List Nat, PyData.canLayAll0 (l.map fun (i : Nat) => PyData.int (i : Int)) = true
  | [] => rfl
  | a :: l => by
    simp only [List.map_cons, PyData.canLayAll0, PyData.canLay0, lay_ints l, Bool.and_self]
theorem depth_ints : ∀ l : List Nat, PyData.depthAll (l.map fun (i : Nat) => PyData.int (i : Int)) = 0
  | [] => by simp [PyData.depthAll]
  | a :: l => by simp [PyData.depthAll, PyData.depth, depth_ints l]
theorem eqv_ints : ∀ a b : List Nat, PyData.eqvAll (a.map fun (i : Nat) => PyData.int (i : Int)) (b.map fun (i : Nat) => PyData.int (i : Int)) = decide (a = b)
  | [], [] => by simp [PyData.eqvAll]
  | [], _ :: _ => by simp [PyData.eqvAll]
  | _ :: _, [] => by simp [PyData.eqvAll]
  | x :: a, y :: b => by
    simp only [List.map_cons, PyData.eqvAll, PyData.eqv, eqv_ints a b]
    by_cases q : x = y <;> by_cases z : a = b <;> simp [q, z] <;> omega
theorem eq_ends {neg : Bool} {a b : List Nat} : dEq neg (eEnds a) (eEnds b) = some (.bl (if neg then !decide (a = b) else decide (a = b))) := by
  unfold dEq eEnds
  simp only [pyD, pyL_ints]
  have s1 : ∀ l : List Nat, SeqAt.shaped (PyData.tuple (l.map fun (i : Nat) => PyData.int (i : Int))) = true := fun l => by
    simp [SeqAt.shaped, PyData.canLay0, PyData.depth, lay_ints, depth_ints]
  simp [s1, PyData.eqv, eqv_ints]
theorem sp_eq (C : Addr) (xs : List T) (P : T → Prop) (R : Exn → Prop) (hn : xs.length = 2) (h : o_eq C xs P R) : w_eq C (VL.startT 2 xs) (EV P R) := by
  obtain ⟨l, l', lr, le, lr', le', rfl, ra, rb, h⟩ := h
  have one := ru_one ra rb
  simp [w_eq, eRule, eq_least ra.wf.names rb.wf.names, eq_ends]
  by_cases q : lr = lr'
  · by_cases z : le = le'
    · simpa [q, z] using h true ⟨fun _ => one.mp ⟨q, z⟩, fun _ => rfl⟩
    · have := h false ⟨fun w => absurd w (by simp), fun w => absurd (one.mpr w).2 z⟩
      simpa [q, z] using this
  · have := h false ⟨fun w => absurd w (by simp), fun w => absurd (one.mpr w).1 q⟩
    simpa [q] using this
end Pg
set_option Elab.async false
set_option linter.all false
set_option maxRecDepth 100000
set_option maxHeartbeats 2000000
/-! R3: pairs of rooms. -/
namespace Pg
open PySem PySem.Spec PyProof.Rows L2 VL
abbrev OP := Option Nat × Option Nat
def kO : Option Nat → NestedKey
  | none => .none
  | some i => .num (i : Nat)
def kOP (p : OP) : NestedKey := .tup [kO p.1, kO p.2]
def eOP (p : OP) : D := .tup [oInt p.1, oInt p.2]
theorem keyN_pair (p : OP) : keyN (eOP p) = some (kOP p) := by
  obtain ⟨a, b⟩ := p
  cases a <;> cases b <;> simp [keyN, eOP, kOP, oInt, kO, dNK, dNKL, NestedKey.depth, NestedKey.depthAll]
theorem kO_inj {a b : Option Nat} (h : kO a = kO b) : a = b := by
  cases a <;> cases b <;> simp [kO] at h ⊢ <;> omega
theorem kOP_inj {p q : OP} (h : kOP p = kOP q) : p = q := by
  obtain ⟨a, b⟩ := p
  obtain ⟨c, d⟩ := q
  simp only [kOP, NestedKey.tup.injEq, List.cons.injEq, and_true] at h
  rw [kO_inj h.1, kO_inj h.2]
theorem idx_map {α β : Type} [BEq α] [LawfulBEq α] [BEq β] [LawfulBEq β] {f : α → β} (inj : ∀ a b, f a = f b → a = b) : ∀ {l : List α} {x : α}, (l.map f).idxOf (f x) = l.idxOf x
  | [], x => by simp
  | a :: l, x => by
    simp only [List.map_cons, List.idxOf_cons]
    rw [idx_map inj]
    by_cases e : a = x
    · subst e
      simp
    · have e2 : ¬ f a = f x := fun z => e (inj _ _ z)
      have h1 : (a == x) = false := by simpa using e
      have h2 : (f a == f x) = false := by simpa using e2
      rw [h1, h2]
theorem mem_kOP {od : List OP} {p : OP} : kOP p ∈ od.map kOP ↔ p ∈ od :=
  ⟨fun h => by
    obtain ⟨q, hq, e⟩ := List.mem_map.mp h
    exact kOP_inj e ▸ hq, fun h => List.mem_map_of_mem h⟩
def inR (lr lr' : RM) (p : OP) : Prop := (∀ k, p.1 = some k → k < lr.length) ∧ ∀ k, p.2 = some k → k < lr'.length
def cO : Option Nat → Nat
  | none => 0
  | some k => k + 1
def codeP (m : Nat) (p : OP) : Nat := cO p.1 * (m + 1) + cO p.2
theorem cO_inj {a b : Option Nat} (h : cO a = cO b) : a = b := by
  cases a <;> cases b <;> simp [cO] at h ⊢ <;> omega
theorem pairs_le {lr lr' : RM} {od : List OP} (nd : od.Nodup) (h : ∀ p ∈ od, inR lr lr' p) : od.length ≤ (lr.length + 1) * (lr'.length + 1) := by
  have lim : ∀ p ∈ od, cO p.1 ≤ lr.length ∧ cO p.2 ≤ lr'.length := fun p hp => by
    obtain ⟨h1, h2⟩ := h p hp
    refine ⟨?_, ?_⟩
    · cases e : p.1 with
      | none => simp [cO]
      | some k => have := h1 k e; simp only [cO]; omega
    · cases e : p.2 with
      | none => simp [cO]
      | some k => have := h2 k e; simp only [cO]; omega
  have nd2 : (od.map (codeP lr'.length)).Nodup := by
    rw [List.nodup_iff_pairwise_ne, List.pairwise_map]
    refine (List.nodup_iff_pairwise_ne.mp nd).imp_of_mem fun {p q} hp hq ne e => ne ?_
    obtain ⟨_, p2⟩ := lim p hp
    obtain ⟨_, q2⟩ := lim q hq
    simp only [codeP] at e
    have e2 : cO p.2 = cO q.2 := by
      have a := congrArg (· % (lr'.length + 1)) e
      rw [Nat.mul_comm, Nat.mul_add_mod, Nat.mul_comm, Nat.mul_add_mod, Nat.mod_eq_of_lt (by omega), Nat.mod_eq_of_lt (by omega)] at a
      exact a
    have e1 : cO p.1 = cO q.1 := by
      rw [e2] at e
      exact Nat.eq_of_mul_eq_mul_right (Nat.succ_pos lr'.length) (by simpa using e)
    exact Prod.ext (cO_inj e1) (cO_inj e2)
  have := nodup_le nd2 (n := (lr.length + 1) * (lr'.length + 1)) fun i hi => by
    obtain ⟨p, hp, rfl⟩ := List.mem_map.mp hi
    obtain ⟨p1, p2⟩ := lim p hp
    simp only [codeP]
    calc cO p.1 * (lr'.length + 1) + cO p.2 < cO p.1 * (lr'.length + 1) + (lr'.length + 1) := by omega
      _ = (cO p.1 + 1) * (lr'.length + 1) := by rw [Nat.add_mul, Nat.one_mul]
      _ ≤ (lr.length + 1) * (lr'.length + 1) := Nat.mul_le_mul_right _ (by omega)
  simpa using this
def stepP (lr lr' : RM) (p : OP) (d : Str) : OP := (stepO lr p.1 d, stepO lr' p.2 d)
def takes (b : Bool) (p : OP) : Bool := comb b p.1.isSome p.2.isSome
structure PRow (b : Bool) (lr lr' : RM) (l : List Str) (od : List OP) (p : OP) (row : Room1) : Prop where
  mem : ∀ q ∈ row, q.1 ∈ l ∧ q.2 < od.length ∧ od[q.2]? = some (stepP lr lr' p q.1)
  all : ∀ d, takes b (stepP lr lr' p d) = true → d ∈ row.map (·.1)
  nd : (row.map (·.1)).Nodup
structure PInv (b : Bool) (lr lr' : RM) (l : List Str) (od : List OP) (rms : RM) : Prop where
  nd : od.Nodup
  ok : ∀ p ∈ od, inR lr lr' p
  le : rms.length ≤ od.length
  zero : od[0]? = some (some 0, some 0)
  rows : ∀ s (h : s < rms.length) p, od[s]? = some p → PRow b lr lr' l od p rms[s]
theorem getElem?_app {α : Type} {l m : List α} {i : Nat} {x : α} (h : l[i]? = some x) : (l ++ m)[i]? = some x := by
  have := (List.getElem?_eq_some_iff.mp h).1
  rw [List.getElem?_append_left this]
  exact h
theorem PRow.app {b : Bool} {lr lr' : RM} {l : List Str} {od : List OP} {p : OP} {row : Room1} (h : PRow b lr lr' l od p row) (m : List OP) : PRow b lr lr' l (od ++ m) p row := by
  refine ⟨fun q hq => ?_, h.all, h.nd⟩
  obtain ⟨h1, h2, h3⟩ := h.mem q hq
  exact ⟨h1, by simp; omega, getElem?_app h3⟩
theorem accO_step {lr : RM} {le : List Nat} {i : Option Nat} {d : Str} {w : List Str} : accO lr le i (d :: w) = accO lr le (stepO lr i d) w := by
  cases i with
  | none => rfl
  | some k =>
    simp only [accO, acc, stepO, Option.bind_some]
    cases stepR lr k d <;> rfl
theorem comb_false {b x y : Bool} {X Y : Bool} (h : comb b x y = false) (hx : x = false → X = false) (hy : y = false → Y = false) : comb b X Y = false := by
  cases b <;> cases x <;> cases y <;> simp [comb] at h ⊢ <;> simp_all
theorem accO_none {lr : RM} {le : List Nat} {i : Option Nat} {w : List Str} (h : i.isSome = false) : accO lr le i w = false := by
  cases i with
  | none => rfl
  | some k => cases h
def endsP (b : Bool) (lr lr' : RM) (le le' : List Nat) (od : List OP) : List Nat := (List.range od.length).filter fun s => match od[s]? with
  | some p => comb b (accO lr le p.1 []) (accO lr' le' p.2 [])
  | none => false
theorem acc_pairs {b : Bool} {lr lr' : RM} {le le' : List Nat} {l : List Str} {od : List OP} {rms : RM} (I : PInv b lr lr' l od rms) (e : rms.length = od.length) : ∀ (w : List Str) (s : Nat) (p : OP), od[s]? = some p →
    acc rms (endsP b lr lr' le le' od) s w = comb b (accO lr le p.1 w) (accO lr' le' p.2 w)
  | [], s, p, hp => by
    have hs := (List.getElem?_eq_some_iff.mp hp).1
    simp only [acc]
    cases q : comb b (accO lr le p.1 []) (accO lr' le' p.2 []) with
    | true =>
      have hs2 := (List.getElem?_eq_some_iff.mp hp).2
      simp [endsP, hs2, q, hs]
    | false => simp [endsP, hp, q]
  | d :: w, s, p, hp => by
    have hs := (List.getElem?_eq_some_iff.mp hp).1
    have hs' : s < rms.length := by omega
    have row := I.rows s hs' p hp
    simp only [acc, stepR_at hs', accO_step]
    cases q : rms[s].lookup d with
    | some i =>
      obtain ⟨_, _, h3⟩ := row.mem _ (lookup_mem q)
      exact acc_pairs I e w i _ h3
    | none =>
      simp only
      have nt : takes b (stepP lr lr' p d) = false := by
        cases z : takes b (stepP lr lr' p d) with
        | false => rfl
        | true =>
          obtain ⟨k, hk⟩ := lookup_some (row.all d z)
          rw [q] at hk
          cases hk
      exact (comb_false nt accO_none accO_none).symm
theorem good_pairs {b : Bool} {lr lr' : RM} {le le' : List Nat} {l : List Str} {od : List OP} {rms : RM} (I : PInv b lr lr' l od rms) (e : rms.length = od.length) (ab : Abc l) (lim : (lr.length + 1) * (lr'.length + 1) ≤ 100000) : Good rms (endsP b lr lr' le le' od) ∧ ∀ r ∈ rms, ∀ p ∈ r, p.1 ∈ l := by
  have ol := pairs_le I.nd I.ok
  have pos : 0 < od.length := (List.getElem?_eq_some_iff.mp I.zero).1
  have rowAt : ∀ r ∈ rms, ∃ p, PRow b lr lr' l od p r := fun r hr => by
    obtain ⟨s, hs, rfl⟩ := List.getElem_of_mem hr
    exact ⟨od[s], I.rows s hs _ (List.getElem?_eq_getElem (by omega))⟩
  refine ⟨⟨by omega, by omega, fun r hr => ?_, fun x hx => ?_, ?_⟩, fun r hr p hp => ?_⟩
  · obtain ⟨p, ro⟩ := rowAt r hr
    have sub := List.Nodup.length_le_of_subset ro.nd (l₂ := l) fun d hd => by
      obtain ⟨q, hq, rfl⟩ := List.mem_map.mp hd
      exact (ro.mem q hq).1
    rw [List.length_map] at sub
    have := ab.few
    refine ⟨by omega, ro.nd, fun q hq => ?_⟩
    obtain ⟨h1, h2, _⟩ := ro.mem q hq
    exact ⟨ab.nm _ h1, by omega⟩
  · unfold endsP at hx
    rw [List.mem_filter, List.mem_range] at hx
    omega
  · unfold endsP
    have := List.length_filter_le (fun s => match od[s]? with
      | some p => comb b (accO lr le p.1 []) (accO lr' le' p.2 [])
      | none => false) (List.range od.length)
    rw [List.length_range] at this
    omega
  · obtain ⟨_, ro⟩ := rowAt r hr
    exact (ro.mem p hp).1
end Pg
set_option Elab.async false
set_option linter.all false
set_option maxRecDepth 100000
set_option maxHeartbeats 2000000
/-! R4: paired keeps its promise. -/
namespace Pg
open PySem PySem.Spec PyProof.Rows L2 VL
abbrev tOPs (od : List OP) : List T := od.map fun p => .fz (eOP p)
abbrev tRms (rms : RM) : List T := rms.map tRoom
def pairW (P : Program) (w : World) (C : Addr) (b : Bool) (l : List Str) (lr : RM) (le : List Nat) (lr' : RM) (le' : List Nat) (n : Nat) (m : Tau) : Prop := ∃ (od : List OP) (rms : RM) (o6 o7 o8 o9 o10 o11 o12 o13 : Option T),
  m = [some (.fz (eRule C lr le)), some (.fz (eRule C lr' le')), some (.fz (.bl b)), some (.on P w (eFrom 0 (od.map kOP))), some (.ol (tOPs od)), some (.ol (tRms rms)), o6, o7, o8, o9, o10, o11, o12, o13] ∧
  n = (lr.length + 1) * (lr'.length + 1) - rms.length ∧ PInv b lr lr' l od rms
def pairNames (lr lr' : RM) (p : OP) : List Str := sS (deedsAt lr p.1 ++ deedsAt lr' p.2).eraseDups
def pairI (P : Program) (w : World) (C : Addr) (b : Bool) (l : List Str) (lr : RM) (le : List Nat) (lr' : RM) (le' : List Nat) (rms : RM) (p : OP) (k : Nat) (m : Tau) : Prop := ∃ (od : List OP) (row : Room1) (o6 o7 o11 o12 o13 : Option T),
  m = [some (.fz (eRule C lr le)), some (.fz (eRule C lr' le')), some (.fz (.bl b)), some (.on P w (eFrom 0 (od.map kOP))), some (.ol (tOPs od)), some (.ol (tRms rms)), o6, o7, some (.fz (oInt p.1)), some (.fz (oInt p.2)), some (tRoom row), o11, o12, o13] ∧
  PInv b lr lr' l od rms ∧ rms.length < od.length ∧ od[rms.length]? = some p ∧ (∀ q ∈ row, q.1 ∈ l ∧ q.2 < od.length ∧ od[q.2]? = some (stepP lr lr' p q.1)) ∧
  (∀ d ∈ (pairNames lr lr' p).take k, takes b (stepP lr lr' p d) = true → d ∈ row.map (·.1)) ∧ (row.map (·.1)).Sublist ((pairNames lr lr' p).take k)
theorem deeds_in {l : List Str} {lr : RM} (over : ∀ r ∈ lr, ∀ p ∈ r, p.1 ∈ l) {i : Option Nat} {d : Str} (h : d ∈ deedsAt lr i) : d ∈ l := by
  cases i with
  | none => cases h
  | some k =>
    simp only [deedsAt, List.getD_eq_getElem?_getD] at h
    cases q : lr[k]? with
    | none => rw [q] at h; cases h
    | some r =>
      rw [q] at h
      obtain ⟨p, hp, rfl⟩ := List.mem_map.mp h
      exact over r (List.mem_of_getElem? q) p hp
theorem step_deed {lr : RM} {i : Option Nat} {d : Str} {j : Nat} (h : stepO lr i d = some j) : d ∈ deedsAt lr i := by
  cases i with
  | none => cases h
  | some k =>
    simp only [stepO, Option.bind_some, stepR] at h
    simp only [deedsAt, List.getD_eq_getElem?_getD]
    cases q : lr[k]? with
    | none => rw [q] at h; cases h
    | some r =>
      rw [q] at h
      exact List.mem_map_of_mem (lookup_mem h)
theorem step_lt {lr : RM} (wf : WfL lr) {i : Option Nat} {d : Str} {j : Nat} (h : stepO lr i d = some j) : j < lr.length := by
  cases i with
  | none => cases h
  | some k =>
    simp only [stepO, Option.bind_some, stepR] at h
    cases q : lr[k]? with
    | none => rw [q] at h; cases h
    | some r =>
      rw [q] at h
      exact wf.steps r (List.mem_of_getElem? q) _ (lookup_mem h)
theorem deeds_few {l : List Str} {lr : RM} {le : List Nat} (ru : Ru l lr le) (ab : Abc l) (i : Option Nat) : (deedsAt lr i).length ≤ 20 ∧ (∀ r ∈ lr, r.length ≤ 100000) := by
  have rl : ∀ r ∈ lr, r.length ≤ 20 := fun r hr => by
    have := List.Nodup.length_le_of_subset (ru.canon.nd r hr) (l₂ := l) fun d hd => by
      obtain ⟨p, hp, rfl⟩ := List.mem_map.mp hd
      exact ru.over r hr p hp
    rw [List.length_map] at this
    have := ab.few
    omega
  refine ⟨?_, fun r hr => by have := rl r hr; omega⟩
  cases i with
  | none => simp [deedsAt]
  | some k =>
    simp only [deedsAt, List.getD_eq_getElem?_getD, List.length_map]
    cases q : lr[k]? with
    | none => simp
    | some r => exact rl r (List.mem_of_getElem? q)
theorem nd_names {lr lr' : RM} {p : OP} : (pairNames lr lr' p).Nodup := (List.mergeSort_perm _ _).nodup_iff.mpr (nodup_dups _ _ (Nat.le_refl _))
theorem mem_names {lr lr' : RM} {p : OP} {d : Str} : d ∈ pairNames lr lr' p ↔ d ∈ deedsAt lr p.1 ∨ d ∈ deedsAt lr' p.2 := by
  unfold pairNames
  rw [mem_sS, mem_dups, List.mem_append]
theorem len_names {l : List Str} {lr lr' : RM} {p : OP} (ab : Abc l) (o1 : ∀ r ∈ lr, ∀ p ∈ r, p.1 ∈ l) (o2 : ∀ r ∈ lr', ∀ p ∈ r, p.1 ∈ l) : (pairNames lr lr' p).length ≤ 20 := by
  have := List.Nodup.length_le_of_subset (nd_names (lr := lr) (lr' := lr') (p := p)) (l₂ := l) fun d hd => by
    rcases mem_names.mp hd with h | h
    · exact deeds_in o1 h
    · exact deeds_in o2 h
  have := ab.few
  omega
theorem ix_OPs {od : List OP} {k : Nat} {p : OP} (h : od[k]? = some p) : dIx (.lst (od.map eOP)) (.int (k : Nat)) = some (eOP p) := by
  obtain ⟨hk, e⟩ := List.getElem?_eq_some_iff.mp h
  unfold dIx
  simp only
  rw [atI_nat (by simpa using hk)]
  simp [e]
@[simp] theorem flt_oInt {i : Option Nat} : fltD (oInt i) = true := by cases i <;> simp [oInt, fltD]
theorem strs_map {α : Type} {l : List α} {f : α → Str} : strsOf (l.map fun x => D.str (f x)) = some (l.map f) := by
  have := strsOf_map (l.map f)
  simpa [List.map_map, Function.comp_def] using this
theorem ix_e0 {q : OP} : dIx (eOP q) (.int 0) = some (oInt q.1) := by
  simp [eOP, dIx, atI, ixN]
theorem ix_e1 {q : OP} : dIx (eOP q) (.int 1) = some (oInt q.2) := by
  simp [eOP, dIx, atI, ixN]
theorem isN_oInt {i : Option Nat} : dIsN true (oInt i) .non = some (.bl i.isSome) := by
  cases i <;> simp [oInt, dIsN, isAny, VL.isNon]
theorem PInv.app {b : Bool} {lr lr' : RM} {l : List Str} {od : List OP} {rms : RM} (h : PInv b lr lr' l od rms) {q : OP} (hq : inR lr lr' q) (new : q ∉ od) : PInv b lr lr' l (od ++ [q]) rms := by
  refine ⟨?_, fun p hp => ?_, ?_, getElem?_app h.zero, fun s hs p hp => ?_⟩
  · rw [List.nodup_append]
    exact ⟨h.nd, by simp, fun a ha b hb => by
      simp at hb
      subst hb
      exact fun e => new (e ▸ ha)⟩
  · rcases List.mem_append.mp hp with hp | hp
    · exact h.ok p hp
    · simp at hp
      rw [hp]
      exact hq
  · have := h.le
    simp
    omega
  · have := h.le
    rw [List.getElem?_append_left (by omega)] at hp
    exact (h.rows s hs p hp).app [q]
theorem in_ends {lr : RM} {le : List Nat} {i : Option Nat} : dIn false (oInt i) (eEnds le) = some (.bl (accO lr le i [])) := by
  cases i with
  | none =>
    unfold dIn eEnds oInt
    simp only
    rw [eInts_eq, flat_ints]
    have : inD .non (List.map (D.int ∘ fun (n : Nat) => (n : Int)) le) = false := by
      unfold inD
      rw [List.any_eq_false]
      intro x hx
      obtain ⟨z, _, rfl⟩ := List.mem_map.mp hx
      simp [eqD]
    simp [flatD, this, accO]
  | some k =>
    simp [oInt, eEnds, dIn_natT, accO, acc]
def endsI (P : Program) (w : World) (C : Addr) (b : Bool) (lr : RM) (le : List Nat) (lr' : RM) (le' : List Nat) (od : List OP) (rms : RM) (k : Nat) (m : Tau) : Prop := ∃ (o7 o8 o9 o10 o11 o12 o13 : Option T),
  m = [some (.fz (eRule C lr le)), some (.fz (eRule C lr' le')), some (.fz (.bl b)), some (.on P w (eFrom 0 (od.map kOP))), some (.ol (tOPs od)), some (.ol (tRms rms)), some (.ol (tInts ((List.range k).filter fun s => match od[s]? with
  | some p => comb b (accO lr le p.1 []) (accO lr' le' p.2 [])
  | none => false))), o7, o8, o9, o10, o11, o12, o13]
theorem er_OPs {od : List OP} : (tOPs od).map T.er = od.map eOP := by simp
section
variable (P : Program) (w : World) (C_Rule : Addr)
def wp_ret : WS := (wSeq (wSet 6 (wLst wNil))
  (wSeq (wFor (iR1 (wView (wA (oA1 (oR1 dLen)) (wCons (wVar 4) wNil)))) (gN 7) (wSeq (wSetF 12 (wLst (wCons (wView (w2 (oR2 (dIn false)) (w2 oIxH (w2 oIxH (wVar 4) (wVar 7)) (wC (.int 0))) (w1 (oFld C_Rule "kept_ends") (wVar 0)))) (wCons (wView (w2 (oR2 (dIn false)) (w2 oIxH (w2 oIxH (wVar 4) (wVar 7)) (wC (.int 1))) (w1 (oFld C_Rule "kept_ends") (wVar 1)))) wNil))))
  (wIfS (wIfT (wB (wVar 2)) (wB (wA (oA1 (oR1 dAll)) (wCons (wVar 12) wNil))) (wB (wA (oA1 (oR1 dAny)) (wCons (wVar 12) wNil)))) (wApp 6 (wVar 7)) wNext)))
  (wRet (wTup (wConsL 5 (wConsL 6 wNil))))))
def wp_while : WS := (wWhile (wViewT (wB (w2 oLt (wA (oA1 (oR1 dLen)) (wCons (wVar 5) wNil)) (wA (oA1 (oR1 dLen)) (wCons (wVar 4) wNil))))) (wSeq (wAsg (wView2 (w2 oIxH (wVar 4) (wA (oA1 (oR1 dLen)) (wCons (wVar 5) wNil)))) (gT [(gN 8), (gN 9)]))
  (wSeq (wSet 10 wNewD)
  (wSeq (wFor (iL (wSSet (w2 oAdd (wA (oFn 2 o_deeds_of) (wCons (wFz (w1 (oFld C_Rule "kept_rooms") (wVar 0))) (wCons (wVar 8) wNil))) (wA (oFn 2 o_deeds_of) (wCons (wFz (w1 (oFld C_Rule "kept_rooms") (wVar 1))) (wCons (wVar 9) wNil)))))) (gN 11) (wSeq (wSetF 13 (wTup (wCons (wA (oFn 3 o_room_behind) (wCons (wFz (w1 (oFld C_Rule "kept_rooms") (wVar 0))) (wCons (wVar 8) (wCons (wVar 11) wNil)))) (wCons (wA (oFn 3 o_room_behind) (wCons (wFz (w1 (oFld C_Rule "kept_rooms") (wVar 1))) (wCons (wVar 9) (wCons (wVar 11) wNil)))) wNil))))
  (wIfS (wOr (wNot (wB (wVar 2))) (wAnd (wB (w2 (oR2 (dIsN true)) (w2 oIxH (wVar 13) (wC (.int 0))) (wC .non))) (wB (w2 (oR2 (dIsN true)) (w2 oIxH (wVar 13) (wC (.int 1))) (wC .non))))) (wSeq (wIfS (wB (wInN P w true (wVar 13) 3)) (wSeq (wPutN P w 3 (wView (wA (oA1 (oR1 dLen)) (wCons (wVar 4) wNil))) (wVar 13))
  (wApp 4 (wVar 13))) wNext)
  (wPut 10 (wIxN P w 3 (wVar 13)) (wVar 11))) wNext)))
  (wApp 5 (wTake 10))))))
def wp_tail : WS := wSeq (wp_while P w C_Rule) (wp_ret C_Rule)
def wp_pre : WS := (wSeq (wSet 3 (wDisp1N P w (wTup (wCons (wC (.int 0)) (wCons (wC (.int 0)) wNil))) (wC (.int 0))))
  (wSeq (wSet 4 (wLst (wCons (wTup (wCons (wC (.int 0)) (wCons (wC (.int 0)) wNil))) wNil)))
  (wSeq (wSet 5 (wLst wNil))
  (wp_tail P w C_Rule))))
end
theorem wp_eq {P : Program} {w : World} {C : Addr} : w_paired P w C = wp_pre P w C := rfl
theorem sp_paired (Pr : Program) (wd : World) (C : Addr) (xs : List T) (P : T → Prop) (R : Exn → Prop) (hn : xs.length = 3) (h : o_paired C xs P R) : w_paired Pr wd C (VL.startT 14 xs) (EV P R) := by
  obtain ⟨l, lr, le, lr', le', b, rfl, ra, rb, ab, lim, h⟩ := h
  have two : 2 ≤ sizeLine := big_le (by omega)
  have k0 : keyN (.tup [.int 0, .int 0]) = some (kOP (some 0, some 0)) := keyN_pair (some 0, some 0)
  rw [wp_eq]
  simp [wp_pre, k0]
  refine ⟨two, by omega, ?_⟩
  have e1 : T.on Pr wd [(kOP (some 0, some 0), D.int 0)] = .on Pr wd (eFrom 0 ([(some 0, some 0)].map kOP)) := by simp [eFrom]
  have e2 : T.ol [T.fz (.tup [.int 0, .int 0])] = .ol (tOPs [(some 0, some 0)]) := rfl
  have e3 : T.ol [] = .ol (tRms []) := rfl
  rw [e1, e2, e3]
  unfold wp_tail
  simp only [wSeq]
  unfold wp_while
  refine ⟨pairW Pr wd C b l lr le lr' le', ⟨_, [(some 0, some 0)], [], _, _, _, _, _, _, _, _, rfl, rfl, ⟨by simp, fun p hp => ?_, by simp, rfl, fun s h => absurd h (Nat.not_lt_zero _)⟩⟩, ?_⟩
  · simp at hp
    subst hp
    exact ⟨fun k e => by cases e; exact ra.wf.pos, fun k e => by cases e; exact rb.wf.pos⟩
  rintro n m ⟨od, rms, o6, o7, o8, o9, o10, o11, o12, o13, rfl, rfl, I⟩
  have odl := pairs_le I.nd I.ok
  simp [dLen]
  by_cases q : rms.length < od.length
  · obtain ⟨p, hp⟩ : ∃ p, od[rms.length]? = some p := ⟨_, List.getElem?_eq_getElem q⟩
    have ip := ix_OPs hp
    simp [q, ip, eOP]
    have okp := I.ok p (List.mem_of_getElem? hp)
    obtain ⟨f1, g1⟩ := deeds_few ra ab p.1
    obtain ⟨f2, g2⟩ := deeds_few rb ab p.2
    have nle := len_names (p := p) ab ra.over rb.over
    simp [eRule, lookF]
    refine ⟨lr, _, rfl, okp.1, g1, ?_⟩
    refine ⟨lr', _, rfl, okp.2, g2, ?_⟩
    have es : strsOf (List.map D.str (deedsAt lr p.1) ++ List.map D.str (deedsAt lr' p.2)) = some (deedsAt lr p.1 ++ deedsAt lr' p.2) := by
      rw [← List.map_append]
      exact strsOf_map _
    have nl2 : (deedsAt lr p.1 ++ deedsAt lr' p.2).eraseDups.length = (pairNames lr lr' p).length := by
      unfold pairNames sS
      rw [List.length_mergeSort]
    simp [es]
    refine ⟨big_le (by omega), ⟨by omega, by omega⟩, ?_⟩
    refine forL_at (pairI Pr wd C b l lr le lr' le' rms p) ?_ ?_ ⟨od, [], _, _, _, _, _, rfl, I, q, hp, fun q hq => (List.not_mem_nil hq).elim, fun d hd => by simp at hd, List.Sublist.refl _⟩
    · clear I odl q hp ip es nl2
      rintro k hk m ⟨od, row, o6, o7, o11, o12, o13, rfl, I, q, hp, r1, r2, r3⟩ E' h1 h2 h3 h4 h5
      have odl := pairs_le I.nd I.ok
      have hk2 : k < (pairNames lr lr' p).length := by simpa [pairNames] using hk
      have ed : (List.map D.str (sS (deedsAt lr p.1 ++ deedsAt lr' p.2).eraseDups))[k] = .str (pairNames lr lr' p)[k] := by simp [pairNames]
      rw [ed]
      have hd := mem_names.mp (List.getElem_mem hk2)
      have etake : (pairNames lr lr' p).take (k + 1) = (pairNames lr lr' p).take k ++ [(pairNames lr lr' p)[k]] := List.take_succ_eq_append_getElem hk2
      have fresh : (pairNames lr lr' p)[k] ∉ row.map (·.1) := fun z => by
        have nd := nd_names (lr := lr) (lr' := lr') (p := p)
        have h1 := r3.subset z
        obtain ⟨j, hj, e⟩ := List.getElem_of_mem h1
        rw [List.length_take] at hj
        rw [List.getElem_take] at e
        have := (List.getElem_inj nd).mp e
        omega
      generalize (pairNames lr lr' p)[k] = d at hd etake fresh ⊢
      have dl : d ∈ l := hd.elim (deeds_in ra.over) (deeds_in rb.over)
      have dn := strOk_name (ab.nm d dl)
      have rowl : row.length ≤ 20 := by
        have := r3.length_le
        rw [List.length_map, List.length_take] at this
        omega
      simp [eRule, lookF]
      refine ⟨lr, _, d, rfl, okp.1, ra.wf.names, dn, ?_⟩
      refine ⟨lr', _, d, rfl, okp.2, rb.wf.names, dn, ?_⟩
      have e13 : D.tup [oInt (p.1.bind fun k => stepR lr k d), oInt (p.2.bind fun k => stepR lr' k d)] = eOP (stepP lr lr' p d) := rfl
      have ok' : inR lr lr' (stepP lr lr' p d) := ⟨fun k e => step_lt ra.wf e, fun k e => step_lt rb.wf e⟩
      simp only [sx_T_er_1, e13, ix_e0, ix_e1, isN_oInt, keyN_pair]
      have okp : inR lr lr' p := I.ok p (List.mem_of_getElem? hp)
      have nxF : takes b (stepP lr lr' p d) = false → E'.nx [some (T.fz (eRule C lr le)), some (T.fz (eRule C lr' le')), some (T.fz (D.bl b)), some (T.on Pr wd (eFrom 0 (od.map kOP))), some (T.ol (tOPs od)), some (T.ol (tRms rms)), o6, o7, some (T.fz (oInt p.1)), some (T.fz (oInt p.2)), some (tRoom row), some (T.fz (.str d)), o12, some (T.fz (eOP (stepP lr lr' p d)))] := fun z => by
        refine h1 _ ⟨od, row, _, _, _, _, _, rfl, I, q, hp, r1, fun d' hd' t => ?_, r3.trans (by rw [etake]; exact List.sublist_append_left _ _)⟩
        rw [etake, List.mem_append] at hd'
        rcases hd' with hd' | hd'
        · exact r2 d' hd' t
        · simp at hd'
          subst hd'
          rw [z] at t
          cases t
      have nxT : ∀ od', PInv b lr lr' l od' rms → rms.length < od'.length → od'[rms.length]? = some p → (∀ q ∈ row, q.1 ∈ l ∧ q.2 < od'.length ∧ od'[q.2]? = some (stepP lr lr' p q.1)) → stepP lr lr' p d ∈ od' →
          E'.nx [some (T.fz (eRule C lr le)), some (T.fz (eRule C lr' le')), some (T.fz (D.bl b)), some (T.on Pr wd (eFrom 0 (od'.map kOP))), some (T.ol (tOPs od')), some (T.ol (tRms rms)), o6, o7, some (T.fz (oInt p.1)), some (T.fz (oInt p.2)), some (tRoom (putR row d (od'.idxOf (stepP lr lr' p d)))), some (T.fz (.str d)), o12, some (T.fz (eOP (stepP lr lr' p d)))] := fun od' I' q' hp' r1' hin => by
        have ilt := List.idxOf_lt_length_of_mem hin
        have epr : putR row d (od'.idxOf (stepP lr lr' p d)) = row ++ [(d, od'.idxOf (stepP lr lr' p d))] := by
          unfold putR
          rw [if_neg fresh]
        rw [epr]
        refine h1 _ ⟨od', _, _, _, _, _, _, rfl, I', q', hp', fun q hq => ?_, fun d' hd' t => ?_, ?_⟩
        · rcases List.mem_append.mp hq with hq | hq
          · exact r1' q hq
          · simp at hq
            subst hq
            exact ⟨dl, ilt, by rw [List.getElem?_eq_getElem ilt, List.getElem_idxOf]⟩
        · rw [List.map_append, List.mem_append]
          rw [etake, List.mem_append] at hd'
          rcases hd' with hd' | hd'
          · exact .inl (r2 d' hd' t)
          · simp at hd'
            subst hd'
            exact .inr (by simp)
        · rw [etake, List.map_append]
          exact r3.append (List.Sublist.refl _)
      have kl : (kR row).length < sizeLine := by
        simp only [kR, List.length_map]
        exact big_lt (by omega)
      have two' : (True ∧ True) := ⟨trivial, trivial⟩
      have eins : ∀ lr le, D.ins C ["kept_rooms", "kept_ends"] [eLeast lr, eEnds le] = eRule C lr le := fun _ _ => rfl
      have lenO : od.length < sizeLine := big_lt (by omega)
      have both : b = false ∨ b = true ∧ (((stepP lr lr' p d).1.isSome = true ∧ (stepP lr lr' p d).2.isSome = true) ∨ ((stepP lr lr' p d).1.isSome = false ∨ (stepP lr lr' p d).1.isSome = true ∧ (stepP lr lr' p d).2.isSome = false)) := by
        cases b <;> cases (stepP lr lr' p d).1.isSome <;> cases (stepP lr lr' p d).2.isSome <;> simp
      refine ⟨two, ?_⟩
      by_cases z : stepP lr lr' p d ∈ od
      · have lk := look_eFrom (n := 0) (mem_kOP.mpr z)
        rw [idx_map (fun _ _ => kOP_inj)] at lk
        rcases both with rfl | ⟨rfl, ⟨x1, x2⟩ | x1 | ⟨x1, x2⟩⟩
        · simp [lk, keyD, put_room, eins, kl]
          exact nxT od I q hp r1 z
        · simp [lk, keyD, put_room, eins, kl, x1, x2]
          exact nxT od I q hp r1 z
        · simp [x1, eins]
          exact nxF (by simp [takes, comb, x1])
        · simp [x1, x2, eins]
          exact nxF (by simp [takes, comb, x2])
      · have zk : kOP (stepP lr lr' p d) ∉ od.map kOP := fun y => z (mem_kOP.mp y)
        have lkn := look_eFrom_none (n := 0) zk
        have est := store_eFrom zk
        have ecl : od.map kOP ++ [kOP (stepP lr lr' p d)] = (od ++ [stepP lr lr' p d]).map kOP := by simp
        have zin : stepP lr lr' p d ∈ od ++ [stepP lr lr' p d] := by simp
        have lk := look_eFrom (n := 0) (mem_kOP.mpr zin)
        rw [idx_map (fun _ _ => kOP_inj)] at lk
        rw [List.length_map, ecl] at est
        have eOk : tOPs od ++ [T.fz (eOP (stepP lr lr' p d))] = tOPs (od ++ [stepP lr lr' p d]) := by simp
        have fin := nxT (od ++ [stepP lr lr' p d]) (I.app ok' z) (by simp; omega) (getElem?_app hp) (fun q hq => by
          obtain ⟨s1, s2, s3⟩ := r1 q hq
          exact ⟨s1, by simp; omega, getElem?_app s3⟩) zin
        rcases both with rfl | ⟨rfl, ⟨x1, x2⟩ | x1 | ⟨x1, x2⟩⟩
        · simp only [Bool.not_false, lkn, Option.isNone_none, dLen, List.length_map, est, lk, sc_int, eFrom_len, lenO, keyD, put_room, kl, eOk, eins, true_and, Nat.zero_add]
          exact fin
        · simp only [Bool.not_true, x1, x2, lkn, Option.isNone_none, dLen, List.length_map, est, lk, sc_int, eFrom_len, lenO, keyD, put_room, kl, eOk, eins, true_and, Nat.zero_add]
          exact fin
        · simp [x1, eins]
          exact nxF (by simp [takes, comb, x1])
        · simp [x1, x2, eins]
          exact nxF (by simp [takes, comb, x2])
    · rintro m ⟨od', row, o6', o7', o11', o12', o13', rfl, I', q', hp', r1, r2, r3⟩
      have odl' := pairs_le I'.nd I'.ok
      have lenF : rms.length < sizeLine := big_lt (by omega)
      simp [lenF]
      have et : tRms rms ++ [tRoom row] = tRms (rms ++ [row]) := by simp
      rw [et]
      refine ⟨(lr.length + 1) * (lr'.length + 1) - (rms ++ [row]).length, by simp; omega, od', rms ++ [row], _, _, _, _, _, _, _, _, rfl, rfl, ⟨I'.nd, I'.ok, by simp; omega, I'.zero, fun s hs p' hp2 => ?_⟩⟩
      by_cases e : s < rms.length
      · rw [List.getElem_append_left e]
        exact I'.rows s e p' hp2
      · have e2 : s = rms.length := by simp at hs; omega
        subst e2
        rw [List.getElem_append_right (Nat.le_refl _)]
        simp only [Nat.sub_self, List.getElem_cons_zero]
        rw [hp'] at hp2
        cases hp2
        refine ⟨r1, fun d t => r2 d ?_ t, r3.nodup (nd_names.sublist (List.take_sublist _ _))⟩
        rw [List.take_of_length_le (by simp [pairNames])]
        rw [mem_names]
        have : (stepP lr lr' p d).1.isSome = true ∨ (stepP lr lr' p d).2.isSome = true := by
          cases b <;> simp [takes, comb] at t
          · exact t
          · exact .inl t.1
        rcases this with y | y
        · obtain ⟨j, e⟩ := Option.isSome_iff_exists.mp y
          exact .inl (step_deed e)
        · obtain ⟨j, e⟩ := Option.isSome_iff_exists.mp y
          exact .inr (step_deed e)
  · have lenE : rms.length = od.length := by have := I.le; omega
    have lenO : od.length < sizeLine := big_lt (by omega)
    obtain ⟨gd, dl⟩ := good_pairs (le := le) (le' := le') I lenE ab lim
    simp [q, wp_ret, dLen]
    refine ⟨by omega, ?_⟩
    refine forL_at (endsI Pr wd C b lr le lr' le' od rms) ?_ ?_ ⟨_, _, _, _, _, _, _, rfl⟩
    · rintro k hk m ⟨o7, o8, o9, o10, o11, o12, o13, rfl⟩ E' h1 h2 h3 h4 h5
      rw [rngD_at hk]
      rw [rngD_len] at hk
      have hp : od[k]? = some od[k] := List.getElem?_eq_getElem hk
      have ip := ix_OPs hp
      have fl : ((List.range k).filter fun s => match od[s]? with
        | some p => comb b (accO lr le p.1 []) (accO lr' le' p.2 [])
        | none => false).length < sizeLine := by
        have := List.length_filter_le (fun s => match od[s]? with
          | some p => comb b (accO lr le p.1 []) (accO lr' le' p.2 [])
          | none => false) (List.range k)
        rw [List.length_range] at this
        exact big_lt (by omega)
      generalize od[k] = p at hp ip
      have nx : ∀ c, c = comb b (accO lr le p.1 []) (accO lr' le' p.2 []) → ∀ o7 o8 o9 o10 o11 o12 o13, E'.nx [some (.fz (eRule C lr le)), some (.fz (eRule C lr' le')), some (.fz (.bl b)), some (.on Pr wd (eFrom 0 (od.map kOP))), some (.ol (tOPs od)), some (.ol (tRms rms)), some (.ol (tInts ((List.range k).filter fun s => match od[s]? with
          | some p => comb b (accO lr le p.1 []) (accO lr' le' p.2 [])
          | none => false) ++ if c then [T.fz (.int (k : Nat))] else [])), o7, o8, o9, o10, o11, o12, o13] := fun c ec o7 o8 o9 o10 o11 o12 o13 => by
        refine h1 _ ⟨o7, o8, o9, o10, o11, o12, o13, ?_⟩
        rw [List.range_succ, List.filter_append]
        simp only [List.filter_cons, List.filter_nil, hp, ← ec, tInts, List.map_append]
        cases c <;> rfl
      have ne : ¬ (Str.ofString "kept_rooms" = Str.ofString "kept_ends") := by decide +kernel
      have eins : ∀ lr le, D.ins C ["kept_rooms", "kept_ends"] [eLeast lr, eEnds le] = eRule C lr le := fun _ _ => rfl
      have tl : ∀ {l : List Nat}, l.length < sizeLine → (tInts l).length < sizeLine := fun {l} h => by simpa [tInts] using h
      simp [eRule, lookF, dLen, ip, ix_e0, ix_e1, ne]
      simp only [in_ends (lr := lr) (le := le) (i := p.1), in_ends (lr := lr') (le := le') (i := p.2), sc_bl, true_and, dAll, dAny, blsOf]
      refine ⟨two, ?_⟩
      cases b with
      | true =>
        cases q1 : accO lr le p.1 [] <;> cases q2 : accO lr' le' p.2 [] <;> simp [q1, q2, comb, eins] at nx fl ⊢
        · exact nx _ _ _ _ _ _ _
        · exact nx _ _ _ _ _ _ _
        · exact nx _ _ _ _ _ _ _
        · exact ⟨tl fl, nx _ _ _ _ _ _ _⟩
      | false =>
        cases q1 : accO lr le p.1 [] <;> cases q2 : accO lr' le' p.2 [] <;> simp [q1, q2, comb, eins] at nx fl ⊢
        · exact nx _ _ _ _ _ _ _
        · exact ⟨tl fl, nx _ _ _ _ _ _ _⟩
        · exact ⟨tl fl, nx _ _ _ _ _ _ _⟩
        · exact ⟨tl fl, nx _ _ _ _ _ _ _⟩
    · rintro m ⟨o7, o8, o9, o10, o11, o12, o13, rfl⟩
      rw [rngD_len]
      have er1 : (tRms rms).map T.er = rms.map eRoom := by simp only [List.map_map]; exact List.map_congr_left fun r _ => er_room
      have er2 : ∀ r : Room1, D.dct (kR r) (List.map T.er (vR r)) = eRoom r := fun r => by rw [← er_room]; simp
      have er3 : D.lst (List.map (T.er ∘ tRoom) rms) = eRooms rms := congrArg D.lst (List.map_congr_left fun r _ => er_room)
      simp [er_tInts, er3]
      refine ⟨two, h _ _ gd (by omega) dl fun w => ?_⟩
      exact acc_pairs I lenE w 0 _ I.zero
end Pg
set_option Elab.async false
set_option linter.all false
set_option maxRecDepth 100000
set_option maxHeartbeats 2000000
/-! R5: both, either, from behind, within. -/
namespace Pg
open PySem PySem.Spec PyProof.Rows L2 VL
theorem sp_and (C : Addr) (xs : List T) (P : T → Prop) (R : Exn → Prop) (hn : xs.length = 2) (h : o_both C true xs P R) : w_and C (VL.startT 4 xs) (EV P R) := by
  obtain ⟨l, lr, le, lr', le', rfl, ra, rb, ab, lim, h⟩ := h
  simp [w_and]
  refine ⟨l, lr, le, lr', le', true, rfl, ra, rb, ab, lim, fun rs es g len hl lang => ?_⟩
  simp
  refine ⟨rs, es, rfl, g, fun rr re least => ?_⟩
  exact ⟨rfl, h rr re (least.ru hl) (Nat.le_trans least.len len) fun w => (least.lang w).trans (lang w)⟩
theorem sp_or (C : Addr) (xs : List T) (P : T → Prop) (R : Exn → Prop) (hn : xs.length = 2) (h : o_both C false xs P R) : w_or C (VL.startT 4 xs) (EV P R) := by
  obtain ⟨l, lr, le, lr', le', rfl, ra, rb, ab, lim, h⟩ := h
  simp [w_or]
  refine ⟨l, lr, le, lr', le', false, rfl, ra, rb, ab, lim, fun rs es g len hl lang => ?_⟩
  simp
  refine ⟨rs, es, rfl, g, fun rr re least => ?_⟩
  exact ⟨rfl, h rr re (least.ru hl) (Nat.le_trans least.len len) fun w => (least.lang w).trans (lang w)⟩
theorem sp_invert (C : Addr) (xs : List T) (P : T → Prop) (R : Exn → Prop) (hn : xs.length = 1) (h : o_invert C xs P R) : w_invert C (VL.startT 3 xs) (EV P R) := by
  obtain ⟨l, lr, le, rfl, ra, ab, lim, h⟩ := h
  simp [w_invert]
  refine ⟨l, lr, le, rfl, ra, ab, lim, fun rs es g len hl lang => ?_⟩
  simp
  refine ⟨rs, es, rfl, g, fun rr re least => ?_⟩
  exact ⟨rfl, h rr re (least.ru hl) (Nat.le_trans least.len len) fun w => (least.lang w).trans (lang w)⟩
theorem sp_within (C : Addr) (xs : List T) (P : T → Prop) (R : Exn → Prop) (hn : xs.length = 2) (h : o_within C xs P R) : w_within C (VL.startT 2 xs) (EV P R) := by
  obtain ⟨l, lr, le, lr', le', rfl, ra, rb, ab, lim, h⟩ := h
  simp [w_within, eRule]
  refine ⟨l, lr, le, lr', le', rfl, ra, rb, ab, lim, fun rr re hr len lang => ?_⟩
  simp
  refine ⟨l, l, rr, re, lr, le, rfl, hr, ra, fun b hb => h b (hb.trans ?_)⟩
  constructor
  · intro e w hw
    have := e w
    rw [lang w] at this
    simp only [comb, hw, Bool.true_and] at this
    exact this
  · intro e w
    rw [lang w]
    simp only [comb]
    cases q : acc lr le 0 w with
    | false => rfl
    | true => rw [e w q]; rfl
end Pg
set_option Elab.async false
set_option linter.all false
set_option maxRecDepth 100000
set_option maxHeartbeats 2000000
/-! R6: days read from behind. -/
namespace Pg
open PySem PySem.Spec PyProof.Rows L2 VL
def kG (g : List Nat) : NestedKey := .tup (g.map fun (i : Nat) => .num (i : Nat))
theorem dNKL_ints : ∀ g : List Nat, dNKL (eInts g) = some (g.map fun (i : Nat) => NestedKey.num (i : Nat))
  | [] => rfl
  | i :: g => by
    have ih := dNKL_ints g
    unfold eInts at ih ⊢
    simp only [List.map_cons, dNKL, dNK]
    rw [ih]
theorem depth_nums : ∀ g : List Nat, NestedKey.depthAll (g.map fun (i : Nat) => NestedKey.num (i : Nat)) = 0
  | [] => by simp [NestedKey.depthAll]
  | i :: g => by simp [NestedKey.depthAll, NestedKey.depth, depth_nums g]
theorem keyN_ends {g : List Nat} : keyN (eEnds g) = some (kG g) := by
  unfold keyN eEnds kG
  simp only [dNK, dNKL_ints]
  rw [if_pos]
  simp [NestedKey.depth, depth_nums]
theorem kG_inj {a b : List Nat} (h : kG a = kG b) : a = b := by
  simp only [kG, NestedKey.tup.injEq] at h
  induction a generalizing b with
  | nil => cases b with
    | nil => rfl
    | cons _ _ => cases h
  | cons x a ih => cases b with
    | nil => cases h
    | cons y b =>
      simp only [List.map_cons, List.cons.injEq, NestedKey.num.injEq] at h
      rw [ih h.2]
      congr 1
      omega
theorem mem_kG {od : List (List Nat)} {g : List Nat} : kG g ∈ od.map kG ↔ g ∈ od :=
  ⟨fun h => by
    obtain ⟨q, hq, e⟩ := List.mem_map.mp h
    exact kG_inj e ▸ hq, fun h => List.mem_map_of_mem h⟩
/-- whether a step leads from a room into a group -/
def intoG (lr : RM) (g : List Nat) (d : Str) (i : Nat) : Bool := match stepR lr i d with
  | some j => decide (j ∈ g)
  | none => false
def stepG (lr : RM) (g : List Nat) (d : Str) : List Nat := (List.range lr.length).filter (intoG lr g d)
theorem acc_into {lr : RM} (wf : WfL lr) {g : List Nat} {d : Str} : ∀ {v : List Str} {i : Nat}, i < lr.length → acc lr (stepG lr g d) i v = acc lr g i (v ++ [d])
  | [], i, hi => by
    simp only [acc, List.nil_append, stepG, List.mem_filter, List.mem_range, hi, true_and, intoG]
    cases q : stepR lr i d <;> simp
  | e :: v, i, hi => by
    simp only [acc, List.cons_append]
    cases q : stepR lr i e with
    | none => rfl
    | some j =>
      have hj : j < lr.length := by
        rw [stepR_at hi] at q
        exact wf.steps _ (List.getElem_mem hi) _ (lookup_mem q)
      exact acc_into wf hj
theorem acc_nil {lr : RM} : ∀ {v : List Str} {i : Nat}, acc lr [] i v = false
  | [], i => by simp [acc]
  | e :: v, i => by
    simp only [acc]
    cases q : stepR lr i e with
    | none => rfl
    | some j => exact acc_nil
structure BRow (lr : RM) (l : List Str) (od : List (List Nat)) (g : List Nat) (row : Room1) : Prop where
  mem : ∀ q ∈ row, q.1 ∈ l ∧ q.2 < od.length ∧ od[q.2]? = some (stepG lr g q.1)
  all : ∀ d, stepG lr g d ≠ [] → d ∈ row.map (·.1)
  nd : (row.map (·.1)).Nodup
def normG (n : Nat) (g : List Nat) : Prop := (List.range n).filter (fun i => decide (i ∈ g)) = g
structure BInv (lr : RM) (le : List Nat) (l : List Str) (od : List (List Nat)) (rms : RM) : Prop where
  nd : od.Nodup
  ok : ∀ g ∈ od, normG lr.length g
  cnt : rms.length ≤ od.length
  zero : od[0]? = some le
  rows : ∀ s (h : s < rms.length) g, od[s]? = some g → BRow lr l od g rms[s]
def allSub : Nat → List (List Nat)
  | 0 => [[]]
  | n + 1 => allSub n ++ (allSub n).map fun g => g ++ [n]
theorem allSub_len : ∀ n, (allSub n).length = 2 ^ n
  | 0 => rfl
  | n + 1 => by
    simp only [allSub, List.length_append, List.length_map, allSub_len n]
    omega
theorem mem_allSub {p : Nat → Bool} : ∀ n, (List.range n).filter p ∈ allSub n
  | 0 => by simp [allSub]
  | n + 1 => by
    rw [List.range_succ, List.filter_append]
    have ih := mem_allSub (p := p) n
    simp only [allSub, List.mem_append, List.mem_map]
    cases q : p n with
    | true => exact .inr ⟨_, ih, by simp [q]⟩
    | false => exact .inl (by simpa [q] using ih)
theorem groups_le {n : Nat} {od : List (List Nat)} (nd : od.Nodup) (h : ∀ g ∈ od, normG n g) : od.length ≤ 2 ^ n := by
  rw [← allSub_len]
  refine List.Nodup.length_le_of_subset nd fun g hg => ?_
  have := mem_allSub (p := fun i => decide (i ∈ g)) n
  rw [h g hg] at this
  exact this
theorem norm_step {lr : RM} {g : List Nat} {d : Str} : normG lr.length (stepG lr g d) := by
  unfold normG stepG
  apply List.filter_congr
  intro i hi
  rw [List.mem_range] at hi
  simp [hi]
theorem pw_norm : ∀ {n : Nat} {g : List Nat}, (∀ i ∈ g, i < n) → g.Pairwise (· < ·) → normG n g := fun {n g} lt up => by
  unfold normG
  have nd1 : ((List.range n).filter fun i => decide (i ∈ g)).Pairwise (· < ·) := List.Pairwise.sublist List.filter_sublist List.pairwise_lt_range
  have uniq : ∀ {a b : List Nat}, a.Pairwise (· < ·) → b.Pairwise (· < ·) → (∀ x, x ∈ a ↔ x ∈ b) → a = b := by
    intro a
    induction a with
    | nil =>
      intro b _ _ h
      cases b with
      | nil => rfl
      | cons y b => have := (h y).mpr List.mem_cons_self; cases this
    | cons x a ih =>
      intro b ha hb h
      cases b with
      | nil => have := (h x).mp List.mem_cons_self; cases this
      | cons y b =>
        have e : x = y := by
          rcases List.mem_cons.mp ((h x).mp List.mem_cons_self) with e | h1
          · exact e
          · rcases List.mem_cons.mp ((h y).mpr List.mem_cons_self) with e | h2
            · exact e.symm
            · have a1 := (List.pairwise_cons.mp ha).1 y h2
              have b1 := (List.pairwise_cons.mp hb).1 x h1
              omega
        subst e
        rw [ih (List.pairwise_cons.mp ha).2 (List.pairwise_cons.mp hb).2 fun z => ?_]
        constructor
        · intro hz
          rcases List.mem_cons.mp ((h z).mp (List.mem_cons_of_mem _ hz)) with e | q
          · have := (List.pairwise_cons.mp ha).1 z hz
            omega
          · exact q
        · intro hz
          rcases List.mem_cons.mp ((h z).mpr (List.mem_cons_of_mem _ hz)) with e | q
          · have := (List.pairwise_cons.mp hb).1 z hz
            omega
          · exact q
  exact uniq nd1 up fun x => by
    rw [List.mem_filter, List.mem_range]
    simp
    exact lt x
theorem BRow.app {lr : RM} {l : List Str} {od : List (List Nat)} {g : List Nat} {row : Room1} (h : BRow lr l od g row) (m : List (List Nat)) : BRow lr l (od ++ m) g row := by
  refine ⟨fun q hq => ?_, h.all, h.nd⟩
  obtain ⟨h1, h2, h3⟩ := h.mem q hq
  exact ⟨h1, by simp; omega, getElem?_app h3⟩
theorem BInv.app {lr : RM} {le : List Nat} {l : List Str} {od : List (List Nat)} {rms : RM} (h : BInv lr le l od rms) {q : List Nat} (hq : normG lr.length q) (new : q ∉ od) : BInv lr le l (od ++ [q]) rms := by
  refine ⟨?_, fun p hp => ?_, ?_, getElem?_app h.zero, fun s hs p hp => ?_⟩
  · rw [List.nodup_append]
    exact ⟨h.nd, by simp, fun a ha b hb => by
      simp at hb
      subst hb
      exact fun e => new (e ▸ ha)⟩
  · rcases List.mem_append.mp hp with hp | hp
    · exact h.ok p hp
    · simp at hp
      rw [hp]
      exact hq
  · have := h.cnt
    simp
    omega
  · have := h.cnt
    rw [List.getElem?_append_left (by omega)] at hp
    exact (h.rows s hs p hp).app [q]
def endsB (od : List (List Nat)) : List Nat := (List.range od.length).filter fun s => match od[s]? with
  | some g => decide (0 ∈ g)
  | none => false
theorem acc_behind {lr : RM} {le : List Nat} {l : List Str} {od : List (List Nat)} {rms : RM} (wf : WfL lr) (I : BInv lr le l od rms) (e : rms.length = od.length) : ∀ (w : List Str) (s : Nat) (g : List Nat), od[s]? = some g →
    acc rms (endsB od) s w = acc lr g 0 w.reverse
  | [], s, g, hg => by
    obtain ⟨hs, hs2⟩ := List.getElem?_eq_some_iff.mp hg
    simp [acc, endsB, hs, hs2]
  | d :: w, s, g, hg => by
    have hs := (List.getElem?_eq_some_iff.mp hg).1
    have hs' : s < rms.length := by omega
    have row := I.rows s hs' g hg
    rw [List.reverse_cons, ← acc_into wf wf.pos]
    simp only [acc, stepR_at hs']
    cases q : rms[s].lookup d with
    | some i =>
      obtain ⟨_, _, h3⟩ := row.mem _ (lookup_mem q)
      exact acc_behind wf I e w i _ h3
    | none =>
      have z : stepG lr g d = [] := by
        cases z : stepG lr g d with
        | nil => rfl
        | cons a b =>
          obtain ⟨k, hk⟩ := lookup_some (row.all d (by rw [z]; simp))
          rw [q] at hk
          cases hk
      rw [z]
      exact acc_nil.symm
theorem good_behind {lr : RM} {le : List Nat} {l : List Str} {od : List (List Nat)} {rms : RM} (I : BInv lr le l od rms) (e : rms.length = od.length) (ab : Abc l) (lim : 2 ^ lr.length ≤ 100000) : Good rms (endsB od) ∧ ∀ r ∈ rms, ∀ p ∈ r, p.1 ∈ l := by
  have ol := groups_le I.nd I.ok
  have pos : 0 < od.length := (List.getElem?_eq_some_iff.mp I.zero).1
  have rowAt : ∀ r ∈ rms, ∃ p, BRow lr l od p r := fun r hr => by
    obtain ⟨s, hs, rfl⟩ := List.getElem_of_mem hr
    exact ⟨od[s], I.rows s hs _ (List.getElem?_eq_getElem (by omega))⟩
  refine ⟨⟨by omega, by omega, fun r hr => ?_, fun x hx => ?_, ?_⟩, fun r hr p hp => ?_⟩
  · obtain ⟨p, ro⟩ := rowAt r hr
    have sub := List.Nodup.length_le_of_subset ro.nd (l₂ := l) fun d hd => by
      obtain ⟨q, hq, rfl⟩ := List.mem_map.mp hd
      exact (ro.mem q hq).1
    rw [List.length_map] at sub
    have := ab.few
    refine ⟨by omega, ro.nd, fun q hq => ?_⟩
    obtain ⟨h1, h2, _⟩ := ro.mem q hq
    exact ⟨ab.nm _ h1, by omega⟩
  · unfold endsB at hx
    rw [List.mem_filter, List.mem_range] at hx
    omega
  · unfold endsB
    have := List.length_filter_le (fun s => match od[s]? with
      | some g => decide (0 ∈ g)
      | none => false) (List.range od.length)
    rw [List.length_range] at this
    omega
  · obtain ⟨_, ro⟩ := rowAt r hr
    exact (ro.mem p hp).1
end Pg
set_option Elab.async false
set_option linter.all false
set_option maxRecDepth 100000
set_option maxHeartbeats 2000000
/-! R7: from_behind keeps its promise. -/
namespace Pg
open PySem PySem.Spec PyProof.Rows L2 VL
def allDeeds (lr : RM) : List Str := lr.flatMap fun r => r.map (·.1)
theorem lc2_deeds {a0 a1 a2 a3 a4 a5 a6 a7 a8 a9 : Option T} : ∀ {lr : RM} {acc : List T} {Q : List T → Tau → Prop}, acc.length + (allDeeds lr).length ≤ sizeLine →
    Q (acc ++ (allDeeds lr).map fun z => .fz (.str z)) [a0, a1, a2, a3, a4, a5, a6, a7, a8, a9, none, none] →
    wLcL2 (gN 10) wYes (iT (wVar 10)) (gN 11) wYes (w2 oIxH (wVar 11) (wC (.int 0))) [10, 11] [11] (lr.map fun r => .tup (r.map fun p => .tup [.str p.1, .int (p.2 : Nat)])) acc [a0, a1, a2, a3, a4, a5, a6, a7, a8, a9, none, none] Q
  | [], acc, Q, hl, q => by
    simp only [List.map_nil]
    unfold wLcL2
    simpa [allDeeds] using q
  | r :: lr, acc, Q, hl, q => by
    simp only [List.map_cons]
    unfold wLcL2
    simp only [allDeeds, List.flatMap_cons, List.length_append, List.length_map] at hl
    simp
    refine lcL_map (e := fun p : Str × Nat => D.tup [.str p.1, .int (p.2 : Nat)]) (f := fun p => some (.fz (.str p.1))) (ms := fun p => [a0, a1, a2, a3, a4, a5, a6, a7, a8, a9, some (.fz (.tup (r.map fun p => .tup [.str p.1, .int (p.2 : Nat)]))), some (.fz (.tup [.str p.1, .int (p.2 : Nat)]))]) (fun p => rfl) (fun p hp K1 K2 h => ?_) (by omega) ?_
    · have i0 : dIx (.tup [.str p.1, .int (p.2 : Nat)]) (.int 0) = some (.str p.1) := by simp [dIx, atI, ixN]
      simp [i0]
      exact h
    · simp
      refine lc2_deeds (by simp [allDeeds] at hl ⊢; omega) ?_
      simpa [allDeeds, filterMap_some, Function.comp_def] using q
theorem all_few {l : List Str} {lr : RM} (h : ∀ r ∈ lr, r.length ≤ 20) : (allDeeds lr).length ≤ 20 * lr.length := by
  induction lr with
  | nil => simp [allDeeds]
  | cons r lr ih =>
    have := ih fun r hr => h r (List.mem_cons_of_mem _ hr)
    have h1 := h r List.mem_cons_self
    simp [allDeeds] at this ⊢
    omega
theorem rooms_few {l : List Str} {lr : RM} {le : List Nat} (ru : Ru l lr le) (ab : Abc l) : ∀ r ∈ lr, r.length ≤ 20 := fun r hr => by
  have := List.Nodup.length_le_of_subset (ru.canon.nd r hr) (l₂ := l) fun d hd => by
    obtain ⟨p, hp, rfl⟩ := List.mem_map.mp hd
    exact ru.over r hr p hp
  rw [List.length_map] at this
  have := ab.few
  omega
def behNames (lr : RM) : List Str := sS (allDeeds lr).eraseDups
theorem nd_beh {lr : RM} : (behNames lr).Nodup := (List.mergeSort_perm _ _).nodup_iff.mpr (nodup_dups _ _ (Nat.le_refl _))
theorem mem_beh {lr : RM} {d : Str} : d ∈ behNames lr ↔ ∃ r ∈ lr, d ∈ r.map (·.1) := by
  unfold behNames
  rw [mem_sS, mem_dups]
  simp [allDeeds]
theorem beh_step {lr : RM} {g : List Nat} {d : Str} (h : stepG lr g d ≠ []) : d ∈ behNames lr := by
  obtain ⟨i, hi⟩ := List.exists_mem_of_ne_nil _ h
  simp only [stepG, List.mem_filter, List.mem_range, intoG] at hi
  rw [stepR_at hi.1] at hi
  cases q : lr[i].lookup d with
  | none => rw [q] at hi; cases hi.2
  | some j => exact mem_beh.mpr ⟨_, List.getElem_mem hi.1, List.mem_map_of_mem (lookup_mem q)⟩
theorem len_beh {l : List Str} {lr : RM} (ab : Abc l) (over : ∀ r ∈ lr, ∀ p ∈ r, p.1 ∈ l) : (behNames lr).length ≤ 20 := by
  have := List.Nodup.length_le_of_subset (nd_beh (lr := lr)) (l₂ := l) fun d hd => by
    obtain ⟨r, hr, h⟩ := mem_beh.mp hd
    obtain ⟨p, hp, rfl⟩ := List.mem_map.mp h
    exact over r hr p hp
  have := ab.few
  omega
abbrev tGs (od : List (List Nat)) : List T := od.map fun g => .fz (eEnds g)
theorem ix_Gs {od : List (List Nat)} {k : Nat} {p : List Nat} (h : od[k]? = some p) : dIx (.lst (od.map eEnds)) (.int (k : Nat)) = some (eEnds p) := by
  obtain ⟨hk, e⟩ := List.getElem?_eq_some_iff.mp h
  unfold dIx
  simp only
  rw [atI_nat (by simpa using hk)]
  simp [e]
@[simp] theorem flt_ends {g : List Nat} : fltD (eEnds g) = true := by
  unfold eEnds
  have : ∀ g : List Nat, fltL (eInts g) = true := fun g => by
    unfold eInts
    induction g with
    | nil => simp [fltL]
    | cons a g ih => simp [fltL, fltD, ih]
  simp [fltD, this]
def behW (P : Program) (w : World) (C : Addr) (l : List Str) (lr : RM) (le : List Nat) (n : Nat) (m : Tau) : Prop := ∃ (od : List (List Nat)) (rms : RM) (o4 o5 o6 o7 o8 o9 o10 o11 : Option T),
  m = [some (.fz (eRule C lr le)), some (.on P w (eFrom 0 (od.map kG))), some (.ol (tGs od)), some (.ol (tRms rms)), o4, o5, o6, o7, o8, o9, o10, o11] ∧
  n = 2 ^ lr.length - rms.length ∧ BInv lr le l od rms
def behI (P : Program) (w : World) (C : Addr) (l : List Str) (lr : RM) (le : List Nat) (rms : RM) (g : List Nat) (k : Nat) (m : Tau) : Prop := ∃ (od : List (List Nat)) (row : Room1) (o6 o7 o8 o9 o10 o11 : Option T),
  m = [some (.fz (eRule C lr le)), some (.on P w (eFrom 0 (od.map kG))), some (.ol (tGs od)), some (.ol (tRms rms)), some (.fz (eEnds g)), some (tRoom row), o6, o7, o8, o9, o10, o11] ∧
  BInv lr le l od rms ∧ rms.length < od.length ∧ od[rms.length]? = some g ∧ (∀ q ∈ row, q.1 ∈ l ∧ q.2 < od.length ∧ od[q.2]? = some (stepG lr g q.1)) ∧
  (∀ d ∈ (behNames lr).take k, stepG lr g d ≠ [] → d ∈ row.map (·.1)) ∧ (row.map (·.1)).Sublist ((behNames lr).take k)
section
variable (P : Program) (w : World) (C_Rule : Addr)
def wb_ret : WS := (wRet (wTup (wConsL 3 (wCons (wLc (iR1 (wView (wA (oA1 (oR1 dLen)) (wCons (wVar 2) wNil)))) (gN 9) (wViewT (wB (w2 (oR2 (dIn false)) (wC (.int 0)) (w2 oIxH (wVar 2) (wVar 9))))) (wVar 9) [9]) wNil))))
def wb_in : WS := (wSeq (wSet 7 (wLst wNil))
  (wSeq (wFor (iR1 (wA (oA1 (oR1 dLen)) (wCons (w1 (oFld C_Rule "kept_rooms") (wVar 0)) wNil))) (gN 8) (wIfS (wB (w2 (oR2 (dIn false)) (wA (oFn 3 o_room_behind) (wCons (wFz (w1 (oFld C_Rule "kept_rooms") (wVar 0))) (wCons (wVar 8) (wCons (wVar 6) wNil)))) (wVar 4))) (wApp 7 (wVar 8)) wNext))
  (wIfS (wViewT (wB (w2 (oR2 (dEq true)) (wVar 7) (wLst wNil)))) (wSeq (wIfS (wB (wInN P w true (wA (oA1 (oR1 dTup)) (wCons (wFrz 7) wNil)) 1)) (wSeq (wPutN P w 1 (wView (wA (oA1 (oR1 dLen)) (wCons (wVar 2) wNil))) (wA (oA1 (oR1 dTup)) (wCons (wFrz 7) wNil)))
  (wApp 2 (wA (oA1 (oR1 dTup)) (wCons (wFrz 7) wNil)))) wNext)
  (wPut 5 (wIxN P w 1 (wA (oA1 (oR1 dTup)) (wCons (wFrz 7) wNil))) (wVar 6))) wNext)))
def wb_while : WS := (wWhile (wViewT (wB (w2 oLt (wA (oA1 (oR1 dLen)) (wCons (wVar 3) wNil)) (wA (oA1 (oR1 dLen)) (wCons (wVar 2) wNil))))) (wSeq (wSetF 4 (wView2 (w2 oIxH (wVar 2) (wA (oA1 (oR1 dLen)) (wCons (wVar 3) wNil)))))
  (wSeq (wSet 5 wNewD)
  (wSeq (wFor (iL (wSSet (wLc2 (iT (w1 (oFld C_Rule "kept_rooms") (wVar 0))) (gN 10) wYes (iT (wVar 10)) (gN 11) wYes (w2 oIxH (wVar 11) (wC (.int 0))) [10, 11] [11]))) (gN 6) (wb_in P w C_Rule))
  (wApp 3 (wTake 5))))))
def wb_tail : WS := wSeq (wb_while P w C_Rule) wb_ret
def wb_pre : WS := (wSeq (wSet 1 (wDisp1N P w (w1 (oFld C_Rule "kept_ends") (wVar 0)) (wC (.int 0))))
  (wSeq (wSet 2 (wLst (wCons (w1 (oFld C_Rule "kept_ends") (wVar 0)) wNil)))
  (wSeq (wSet 3 (wLst wNil))
  (wb_tail P w C_Rule))))
end
theorem wb_eq {P : Program} {w : World} {C : Addr} : w_from_behind P w C = wb_pre P w C := rfl
theorem dLen_least {lr : RM} : dLen (eLeast lr) = some (.int (lr.length : Nat)) := by simp [dLen, eLeast]
theorem dTup_ints {g : List Nat} : dTup (.lst (eInts g)) = some (eEnds g) := by simp [dTup, eEnds]
theorem eq_nil {g : List Nat} : dEq true (.lst (eInts g)) (.lst []) = some (.bl (!decide (g = []))) := by
  unfold dEq
  simp only [pyD, pyL_ints, pyL]
  have s1 : SeqAt.shaped (PyData.list (g.map fun (i : Nat) => PyData.int (i : Int))) = true := by
    simp [SeqAt.shaped, PyData.canLay0, PyData.depth, lay_ints, depth_ints]
  have s2 : SeqAt.shaped (PyData.list []) = true := by
    simp [SeqAt.shaped, PyData.canLay0, PyData.depth, PyData.canLayAll0, PyData.depthAll]
  cases g <;> simp [s1, s2, PyData.eqv, PyData.eqvAll]
  · simpa using s1
def behJ (P : Program) (w : World) (C : Addr) (lr : RM) (le : List Nat) (rms : RM) (g : List Nat) (d : Str) (od : List (List Nat)) (row : Room1) (o9 o10 o11 : Option T) (k : Nat) (m : Tau) : Prop := ∃ (o8 : Option T),
  m = [some (.fz (eRule C lr le)), some (.on P w (eFrom 0 (od.map kG))), some (.ol (tGs od)), some (.ol (tRms rms)), some (.fz (eEnds g)), some (tRoom row), some (.fz (.str d)), some (.ol (tInts ((List.range k).filter (intoG lr g d)))), o8, o9, o10, o11]
theorem filterMap_if {α β : Type} {p : α → Bool} {f : α → β} : ∀ {is : List α}, (is.filterMap fun i => if p i = true then some (f i) else none) = (is.filter p).map f
  | [] => rfl
  | i :: is => by
    have ih := filterMap_if (p := p) (f := f) (is := is)
    cases h : p i <;> simp [h, ih]
theorem sp_from_behind (Pr : Program) (wd : World) (C : Addr) (xs : List T) (P : T → Prop) (R : Exn → Prop) (hn : xs.length = 1) (h : o_from_behind C xs P R) : w_from_behind Pr wd C (VL.startT 12 xs) (EV P R) := by
  obtain ⟨l, lr, le, rfl, ra, ab, lim, h⟩ := h
  have two : 2 ≤ sizeLine := big_le (by omega)
  have ne : ¬ (Str.ofString "kept_rooms" = Str.ofString "kept_ends") := by decide +kernel
  have eins : ∀ lr le, D.ins C ["kept_rooms", "kept_ends"] [eLeast lr, eEnds le] = eRule C lr le := fun _ _ => rfl
  rw [wb_eq]
  simp [wb_pre, eRule, lookF, ne, keyN_ends]
  refine ⟨by omega, ?_⟩
  have e1 : T.on Pr wd [(kG le, D.int 0)] = .on Pr wd (eFrom 0 ([le].map kG)) := by simp [eFrom]
  have e2 : T.ol [T.fz (eEnds le)] = .ol (tGs [le]) := rfl
  have e3 : T.ol [] = .ol (tRms []) := rfl
  rw [e1, e2, e3]
  unfold wb_tail
  simp only [wSeq]
  unfold wb_while
  refine ⟨behW Pr wd C l lr le, ⟨_, [le], [], _, _, _, _, _, _, _, _, rfl, rfl, ⟨by simp, fun p hp => ?_, by simp, rfl, fun s h => absurd h (Nat.not_lt_zero _)⟩⟩, ?_⟩
  · simp at hp
    subst hp
    exact pw_norm ra.canon.ends ra.canon.up
  rintro n m ⟨od, rms, o4, o5, o6, o7, o8, o9, o10, o11, rfl, rfl, I⟩
  have odl := groups_le I.nd I.ok
  simp [dLen]
  by_cases q : rms.length < od.length
  · obtain ⟨g, hg⟩ : ∃ g, od[rms.length]? = some g := ⟨_, List.getElem?_eq_getElem q⟩
    have ig := ix_Gs hg
    have nle := len_beh ab ra.over
    have few := all_few (l := l) (rooms_few ra ab)
    have n9 : lr.length ≤ 16 := by
      by_cases z : lr.length ≤ 16
      · exact z
      · have := Nat.pow_le_pow_right (n := 2) (by omega) (show 17 ≤ lr.length by omega)
        omega
    simp [q, ig, eRule, lookF]
    refine ⟨by simp [fltT], ?_⟩
    unfold eLeast
    simp only
    refine lc2_deeds (by simp only [List.length_nil]; exact big_le (by omega)) ?_
    have es : strsOf (List.map T.er ((allDeeds lr).map fun z => T.fz (.str z))) = some (allDeeds lr) := by
      rw [List.map_map]
      exact strsOf_map _
    have nl2 : (allDeeds lr).eraseDups.length = (behNames lr).length := by
      unfold behNames sS
      rw [List.length_mergeSort]
    simp only [List.nil_append, es]
    refine ⟨⟨by omega, by omega⟩, ?_⟩
    simp only [List.set]
    have eL : D.ins C ["kept_rooms", "kept_ends"] [D.tup (lr.map fun r => D.tup (r.map fun p => D.tup [.str p.1, .int (p.2 : Nat)])), eEnds le] = eRule C lr le := rfl
    rw [eL]
    generalize (match some o11 with
      | some (some (T.fz d)) => some (T.fz d)
      | x => none) = o11
    generalize (match some o10 with
      | some (some (T.fz d)) => some (T.fz d)
      | x => none) = o10
    refine forL_at (behI Pr wd C l lr le rms g) ?_ ?_ ⟨od, [], _, _, _, _, _, _, rfl, I, q, hg, fun q hq => (List.not_mem_nil hq).elim, fun d hd => by simp at hd, List.Sublist.refl _⟩
    · clear I odl q hg ig es nl2
      rintro k hk m ⟨od, row, o6, o7, o8, o9, o10, o11, rfl, I, q, hp, r1, r2, r3⟩ E' h1 h2 h3 h4 h5
      have odl := groups_le I.nd I.ok
      have hk2 : k < (behNames lr).length := by simpa [behNames] using hk
      have ed : (List.map D.str (sS (allDeeds lr).eraseDups))[k] = .str (behNames lr)[k] := by simp [behNames]
      rw [ed]
      have hd := mem_beh.mp (List.getElem_mem hk2)
      have etake : (behNames lr).take (k + 1) = (behNames lr).take k ++ [(behNames lr)[k]] := List.take_succ_eq_append_getElem hk2
      have fresh : (behNames lr)[k] ∉ row.map (·.1) := fun z => by
        have nd := nd_beh (lr := lr)
        have h1 := r3.subset z
        obtain ⟨j, hj, e⟩ := List.getElem_of_mem h1
        rw [List.length_take] at hj
        rw [List.getElem_take] at e
        have := (List.getElem_inj nd).mp e
        omega
      generalize (behNames lr)[k] = d at hd etake fresh ⊢
      have dl : d ∈ l := by
        obtain ⟨r, hr, h⟩ := hd
        obtain ⟨p, hp, rfl⟩ := List.mem_map.mp h
        exact ra.over r hr p hp
      have dn := strOk_name (ab.nm d dl)
      have rowl : row.length ≤ 20 := by
        have := r3.length_le
        rw [List.length_map, List.length_take] at this
        omega
      unfold wb_in
      simp [eRule, lookF, dLen_least]
      refine ⟨by omega, ?_⟩
      refine forL_at (behJ Pr wd C lr le rms g d od row o9 o10 o11) ?_ ?_ ⟨_, rfl⟩
      · rintro j hj m ⟨o8, rfl⟩ E'' g1 g2 g3 g4 g5
        rw [rngD_at hj]
        rw [rngD_len] at hj
        have fl : ((List.range j).filter (intoG lr g d)).length < sizeLine := by
          have := List.length_filter_le (intoG lr g d) (List.range j)
          rw [List.length_range] at this
          exact big_lt (by omega)
        have fl2 : (tInts ((List.range j).filter (intoG lr g d))).length < sizeLine := by simpa [tInts] using fl
        simp [eRule, lookF]
        refine ⟨lr, some j, d, rfl, fun k e => by cases e; exact hj, ra.wf.names, dn, ?_⟩
        have es : (some j).bind (fun k => stepR lr k d) = stepR lr j d := rfl
        simp only [es, sx_T_er_1, in_ends (lr := lr) (le := g) (i := stepR lr j d)]
        have ei : accO lr g (stepR lr j d) [] = intoG lr g d j := by
          unfold intoG
          cases stepR lr j d <;> simp [accO, acc]
        rw [ei]
        have er : (List.range (j + 1)).filter (intoG lr g d) = (List.range j).filter (intoG lr g d) ++ if intoG lr g d j then [j] else [] := by
          rw [List.range_succ, List.filter_append, List.filter_cons, List.filter_nil]
        have nx := g1 [some (.fz (eRule C lr le)), some (.on Pr wd (eFrom 0 (od.map kG))), some (.ol (tGs od)), some (.ol (tRms rms)), some (.fz (eEnds g)), some (tRoom row), some (.fz (.str d)), some (.ol (tInts ((List.range (j + 1)).filter (intoG lr g d)))), some (.fz (.int (j : Nat))), o9, o10, o11] ⟨_, rfl⟩
        rw [er] at nx
        cases z : intoG lr g d j with
        | true =>
          rw [z] at nx
          refine ⟨fl2, ?_⟩
          rw [eins]
          simpa [tInts] using nx
        | false =>
          rw [z] at nx
          simp only [eins]
          simpa using nx
      · rintro m ⟨o8, rfl⟩
        rw [rngD_len]
        have eg : (List.range lr.length).filter (intoG lr g d) = stepG lr g d := rfl
        rw [eg]
        have nxF : stepG lr g d = [] → ∀ o7, E'.nx [some (.fz (eRule C lr le)), some (.on Pr wd (eFrom 0 (od.map kG))), some (.ol (tGs od)), some (.ol (tRms rms)), some (.fz (eEnds g)), some (tRoom row), some (.fz (.str d)), o7, o8, o9, o10, o11] := fun z o7 => by
          refine h1 _ ⟨od, row, _, _, _, _, _, _, rfl, I, q, hp, r1, fun d' hd' t => ?_, r3.trans (by rw [etake]; exact List.sublist_append_left _ _)⟩
          rw [etake, List.mem_append] at hd'
          rcases hd' with hd' | hd'
          · exact r2 d' hd' t
          · simp at hd'
            subst hd'
            exact (t z).elim
        have nxT : ∀ od', BInv lr le l od' rms → rms.length < od'.length → od'[rms.length]? = some g → (∀ q ∈ row, q.1 ∈ l ∧ q.2 < od'.length ∧ od'[q.2]? = some (stepG lr g q.1)) → stepG lr g d ∈ od' → ∀ o7,
            E'.nx [some (.fz (eRule C lr le)), some (.on Pr wd (eFrom 0 (od'.map kG))), some (.ol (tGs od')), some (.ol (tRms rms)), some (.fz (eEnds g)), some (tRoom (putR row d (od'.idxOf (stepG lr g d)))), some (.fz (.str d)), o7, o8, o9, o10, o11] := fun od' I' q' hp' r1' hin o7 => by
          have ilt := List.idxOf_lt_length_of_mem hin
          have epr : putR row d (od'.idxOf (stepG lr g d)) = row ++ [(d, od'.idxOf (stepG lr g d))] := by
            unfold putR
            rw [if_neg fresh]
          rw [epr]
          refine h1 _ ⟨od', _, _, _, _, _, _, _, rfl, I', q', hp', fun q hq => ?_, fun d' hd' t => ?_, ?_⟩
          · rcases List.mem_append.mp hq with hq | hq
            · exact r1' q hq
            · simp at hq
              subst hq
              exact ⟨dl, ilt, by rw [List.getElem?_eq_getElem ilt, List.getElem_idxOf]⟩
          · rw [List.map_append, List.mem_append]
            rw [etake, List.mem_append] at hd'
            rcases hd' with hd' | hd'
            · exact .inl (r2 d' hd' t)
            · simp at hd'
              subst hd'
              exact .inr (by simp)
          · rw [etake, List.map_append]
            exact r3.append (List.Sublist.refl _)
        have kl : (kR row).length < sizeLine := by
          simp only [kR, List.length_map]
          exact big_lt (by omega)
        have lenO : od.length < sizeLine := big_lt (by omega)
        simp [er_tInts, eq_nil]
        by_cases e0 : stepG lr g d = []
        · simp only [e0, decide_true, Bool.not_true]
          exact nxF e0 (some (.ol (tInts [])))
        · simp only [e0, decide_false, Bool.not_false, dTup_ints, keyN_ends]
          by_cases z : stepG lr g d ∈ od
          · have lk := look_eFrom (n := 0) (mem_kG.mpr z)
            rw [idx_map (fun _ _ => kG_inj)] at lk
            simp [lk, keyD, put_room, kl]
            exact nxT od I q hp r1 z _
          · have zk : kG (stepG lr g d) ∉ od.map kG := fun y => z (mem_kG.mp y)
            have lkn := look_eFrom_none (n := 0) zk
            have est := store_eFrom zk
            have ecl : od.map kG ++ [kG (stepG lr g d)] = (od ++ [stepG lr g d]).map kG := by simp
            have zin : stepG lr g d ∈ od ++ [stepG lr g d] := by simp
            have lk := look_eFrom (n := 0) (mem_kG.mpr zin)
            rw [idx_map (fun _ _ => kG_inj)] at lk
            rw [List.length_map, ecl] at est
            have eOk : tGs od ++ [T.fz (eEnds (stepG lr g d))] = tGs (od ++ [stepG lr g d]) := by simp
            have fin := nxT (od ++ [stepG lr g d]) (I.app norm_step z) (by simp; omega) (getElem?_app hp) (fun q hq => by
              obtain ⟨s1, s2, s3⟩ := r1 q hq
              exact ⟨s1, by simp; omega, getElem?_app s3⟩) zin
            simp only [lkn, Option.isNone_none, dLen, List.length_map, est, lk, sc_int, eFrom_len, lenO, keyD, put_room, kl, eOk, true_and, Nat.zero_add]
            exact fin _
    · rintro m ⟨od', row, o6', o7', o8', o9', o10', o11', rfl, I', q', hp', r1, r2, r3⟩
      have odl' := groups_le I'.nd I'.ok
      have lenF : rms.length < sizeLine := big_lt (by omega)
      simp [lenF]
      have et : tRms rms ++ [tRoom row] = tRms (rms ++ [row]) := by simp
      rw [et]
      refine ⟨2 ^ lr.length - (rms ++ [row]).length, by simp; omega, od', rms ++ [row], _, _, _, _, _, _, _, _, rfl, rfl, ⟨I'.nd, I'.ok, by simp; omega, I'.zero, fun s hs p' hp2 => ?_⟩⟩
      by_cases e : s < rms.length
      · rw [List.getElem_append_left e]
        exact I'.rows s e p' hp2
      · have e2 : s = rms.length := by simp at hs; omega
        subst e2
        rw [List.getElem_append_right (Nat.le_refl _)]
        simp only [Nat.sub_self, List.getElem_cons_zero]
        rw [hp'] at hp2
        cases hp2
        refine ⟨r1, fun d t => r2 d ?_ t, r3.nodup (nd_beh.sublist (List.take_sublist _ _))⟩
        rw [List.take_of_length_le (by simp [behNames])]
        exact beh_step t
  · have lenE : rms.length = od.length := by have := I.cnt; omega
    have lenO : od.length < sizeLine := big_lt (by omega)
    obtain ⟨gd, dl⟩ := good_behind I lenE ab lim
    simp [q, wb_ret, dLen]
    refine ⟨by omega, ?_⟩
    have erng : rngD 0 od.length = (List.range od.length).map fun (i : Nat) => D.int (i : Int) := by simp [rngD]
    rw [erng]
    refine lcL_map (e := fun (i : Nat) => D.int (i : Int)) (f := fun i => if (match od[i]? with | some g => decide (0 ∈ g) | none => false) then some (.fz (.int (i : Nat))) else none)
      (ms := fun (i : Nat) => [some (.fz (eRule C lr le)), some (.on Pr wd (eFrom 0 (od.map kG))), some (.ol (tGs od)), some (.ol (tRms rms)), o4, o5, o6, o7, o8, some (.fz (.int (i : Nat))), o10, o11]) (fun i => rfl) (fun i hi K1 K2 h => ?_) ?_ ?_
    · rw [List.mem_range] at hi
      have hg : od[i]? = some od[i] := List.getElem?_eq_getElem hi
      have ig := ix_Gs hg
      have i0 : dIn false (.int 0) (eEnds od[i]) = some (.bl (decide (0 ∈ od[i]))) := dIn_natT (neg := false) (i := 0)
      simp only [hg] at h
      simp [ig, i0]
      by_cases z : 0 ∈ od[i]
      · simpa [z] using h
      · simpa [z] using h
    · simp
      exact big_le (by omega)
    · have ef : ((List.range od.length).filterMap fun i => if (match od[i]? with | some g => decide (0 ∈ g) | none => false) = true then some (T.fz (.int (i : Nat))) else none) = tInts (endsB od) := by
        exact filterMap_if
      simp only [List.nil_append]
      rw [ef]
      have er3 : (T.ol (tRms rms)).er = eRooms rms := by
        simp only [sx_T_er_2, sx_erL_map, List.map_map]
        exact congrArg D.lst (List.map_congr_left fun r _ => er_room)
      simp only [List.getElem?_cons_succ, List.getElem?_cons_zero, er3, er_tInts]
      exact ⟨two, h _ _ gd (by omega) dl fun w => acc_behind ra.wf I lenE w 0 _ I.zero⟩
end Pg
set_option Elab.async false
set_option linter.all false
set_option maxRecDepth 100000
set_option maxHeartbeats 2000000
/-! R8: first days that are unlike: the plain law. -/
namespace Pg
open PySem PySem.Spec PyProof.Rows L2 VL
theorem lexS_trans : ∀ {a b c : List Str}, lexS a b → lexS b c → lexS a c
  | [], [], _, h, _ => h.elim
  | [], _ :: _, [], _, h => h.elim
  | [], _ :: _, _ :: _, _, _ => trivial
  | _ :: _, [], _, h, _ => h.elim
  | _ :: _, _ :: _, [], _, h => h.elim
  | x :: a, y :: b, z :: c, h, k => by
    simp only [lexS] at h k ⊢
    rcases h with ⟨h1, h2⟩ | ⟨rfl, h⟩
    · rcases k with ⟨k1, k2⟩ | ⟨rfl, k⟩
      · refine .inl ⟨leS_trans _ _ _ h1 k1, fun e => ?_⟩
        subst e
        exact h2 (leS_anti h1 k1)
      · exact .inl ⟨h1, h2⟩
    · rcases k with ⟨k1, k2⟩ | ⟨rfl, k⟩
      · exact .inl ⟨k1, k2⟩
      · exact .inr ⟨rfl, lexS_trans h k⟩
theorem lexS_irr : ∀ {a : List Str}, ¬ lexS a a
  | [], h => h
  | x :: a, h => by
    simp only [lexS] at h
    rcases h with ⟨_, h⟩ | ⟨_, h⟩
    · exact h rfl
    · exact lexS_irr h
theorem lexS_snoc : ∀ {u v : List Str} {e d : Str}, u.length = v.length → (lexS (u ++ [e]) (v ++ [d]) ↔ lexS u v ∨ (u = v ∧ leS e d = true ∧ e ≠ d))
  | [], [], e, d, _ => by simp [lexS]
  | [], _ :: _, _, _, h => by cases h
  | _ :: _, [], _, _, h => by cases h
  | x :: u, y :: v, e, d, h => by
    have ih := lexS_snoc (u := u) (v := v) (e := e) (d := d) (by simpa using h)
    simp only [List.cons_append, lexS, ih, List.cons.injEq]
    clear ih h
    constructor
    · rintro (h | ⟨rfl, h | ⟨rfl, h⟩⟩)
      · exact .inl (.inl h)
      · exact .inl (.inr ⟨rfl, h⟩)
      · exact .inr ⟨⟨rfl, rfl⟩, h⟩
    · rintro ((h | ⟨rfl, h⟩) | ⟨⟨rfl, rfl⟩, h⟩)
      · exact .inl h
      · exact .inr ⟨rfl, .inl h⟩
      · exact .inr ⟨rfl, .inr ⟨rfl, h⟩⟩
section
variable (lr : RM) (le : List Nat) (lr' : RM) (le' : List Nat)
def pairAt (w : List Str) : OP := w.foldl (stepP lr lr') (some 0, some 0)
def unl (p : OP) : Bool := accO lr le p.1 [] != accO lr' le' p.2 []
def deadP : OP := (none, none)
theorem pairAt_snoc {u : List Str} {d : Str} : pairAt lr lr' (u ++ [d]) = stepP lr lr' (pairAt lr lr' u) d := by
  simp [pairAt, List.foldl_append]
theorem pair_fst : ∀ {w : List Str} {p : OP}, accO lr le (w.foldl (stepP lr lr') p).1 [] = accO lr le p.1 w ∧ accO lr' le' (w.foldl (stepP lr lr') p).2 [] = accO lr' le' p.2 w
  | [], p => ⟨rfl, rfl⟩
  | d :: w, p => by
    simp only [List.foldl_cons, accO_step]
    exact pair_fst (w := w) (p := stepP lr lr' p d)
theorem unl_iff {w : List Str} : unl lr le lr' le' (pairAt lr lr' w) = true ↔ acc lr le 0 w ≠ acc lr' le' 0 w := by
  unfold unl pairAt
  rw [(pair_fst lr le lr' le').1, (pair_fst lr le lr' le').2]
  simp [accO, bne_iff_ne]
theorem step_dead {d : Str} : stepP lr lr' deadP d = deadP := rfl
theorem unl_dead : unl lr le lr' le' deadP = false := rfl
theorem live_name {p : OP} {d : Str} (h : stepP lr lr' p d ≠ deadP) : d ∈ pairNames lr lr' p := by
  rw [mem_names]
  cases q : (stepP lr lr' p d).1 with
  | some j => exact .inl (step_deed q)
  | none =>
    cases q2 : (stepP lr lr' p d).2 with
    | some j => exact .inr (step_deed q2)
    | none => exact (h (Prod.ext q q2)).elim
abbrev FI := List (List Str × OP)
structure FInv (n : Nat) (F : FI) (S : List OP) : Prop where
  len : ∀ q ∈ F, q.1.length = n
  pr : ∀ q ∈ F, q.2 = pairAt lr lr' q.1
  asc : F.Pairwise fun a b => lexS a.1 b.1
  rep : ∀ p ∈ S, ∃ r, pairAt lr lr' r = p ∧ r.length ≤ n ∧ (∀ v, pairAt lr lr' v = p → ¬ before v r) ∧ (r.length = n → (r, p) ∈ F)
  cov : ∀ v, v.length ≤ n → pairAt lr lr' v ≠ deadP → pairAt lr lr' v ∈ S
  no : ∀ v, v.length < n → unl lr le lr' le' (pairAt lr lr' v) = false
  min : ∀ q ∈ F, ∀ v, pairAt lr lr' v = q.2 → ¬ before v q.1
  ok : ∀ p ∈ S, inR lr lr' p
  nd : S.Nodup
  sub : ∀ q ∈ F, q.2 ∈ S
  cnt : n ≤ S.length ∧ (F ≠ [] → n + 1 ≤ S.length)
def ahead (F : FI) (i k : Nat) (j : Nat) (p : OP) (e : Str) : Prop := e ∈ pairNames lr lr' p ∧ (j < i ∨ (j = i ∧ e ∈ (pairNames lr lr' p).take k))
structure GInv (n : Nat) (F : FI) (S : List OP) (i k : Nat) (S' : List OP) (L : FI) : Prop where
  sub : ∀ p ∈ S, p ∈ S'
  new : ∀ p ∈ S', p ∈ S ∨ ∃ r, (r, p) ∈ L
  itm : ∀ q ∈ L, q.1.length = n + 1 ∧ q.2 = pairAt lr lr' q.1 ∧ q.2 ∈ S' ∧ (∀ v, pairAt lr lr' v = q.2 → ¬ before v q.1) ∧ ∃ u e j, q.1 = u ++ [e] ∧ F[j]? = some (u, pairAt lr lr' u) ∧ ahead lr lr' F i k j (pairAt lr lr' u) e
  asc : L.Pairwise fun a b => lexS a.1 b.1
  done : ∀ j q, F[j]? = some q → ∀ e, ahead lr lr' F i k j q.2 e → stepP lr lr' q.2 e ∈ S'
  ok : ∀ p ∈ S', inR lr lr' p
  nd : S'.Nodup
  cnt : S'.length = S.length + L.length
variable {lr le lr' le'}
theorem FInv.init (h1 : 0 < lr.length) (h2 : 0 < lr'.length) : FInv lr le lr' le' 0 [([], (some 0, some 0))] [(some 0, some 0)] := by
  refine ⟨by simp, by simp [pairAt], by simp, fun p hp => ?_, fun v hv _ => ?_, fun v hv => absurd hv (Nat.not_lt_zero _), fun q hq v _ => ?_, fun p hp => ?_, by simp, by simp, by simp⟩
  · simp at hp
    subst hp
    refine ⟨[], rfl, Nat.le_refl _, fun v _ h => ?_, fun _ => by simp⟩
    rcases h with h | ⟨h, h2⟩
    · simp at h
    · cases v with
      | nil => exact h2
      | cons _ _ => cases h
  · have : v = [] := by simpa using hv
    subst this
    simp [pairAt]
  · simp at hq
    subst hq
    intro h
    rcases h with h | ⟨h, h2⟩
    · simp at h
    · cases v with
      | nil => exact h2
      | cons _ _ => cases h
  · simp at hp
    subst hp
    exact ⟨fun k e => by cases e; exact h1, fun k e => by cases e; exact h2⟩
theorem GInv.init {n : Nat} {F : FI} {S : List OP} (h : FInv lr le lr' le' n F S) : GInv lr lr' n F S 0 0 S [] := by
  refine ⟨fun p h => h, fun p h => .inl h, fun q hq => (List.not_mem_nil hq).elim, List.Pairwise.nil, fun j q _ e a => ?_, h.ok, h.nd, by simp⟩
  obtain ⟨_, a | ⟨_, a⟩⟩ := a
  · exact absurd a (Nat.not_lt_zero _)
  · simp at a
theorem ahead_mono {F : FI} {i k j : Nat} {p : OP} {e : Str} (h : ahead lr lr' F i k j p e) : ahead lr lr' F i (k + 1) j p e := by
  obtain ⟨h1, h2⟩ := h
  refine ⟨h1, h2.imp id fun ⟨a, b⟩ => ⟨a, ?_⟩⟩
  exact List.take_subset_take_left _ (Nat.le_succ k) b
theorem pair_in {F : FI} {i j : Nat} {a b : List Str × OP} (h : F.Pairwise fun a b => lexS a.1 b.1) (hi : F[i]? = some a) (hj : F[j]? = some b) (lt : i < j) : lexS a.1 b.1 := by
  obtain ⟨h1, e1⟩ := List.getElem?_eq_some_iff.mp hi
  obtain ⟨h2, e2⟩ := List.getElem?_eq_some_iff.mp hj
  rw [List.pairwise_iff_getElem] at h
  have := h i j h1 h2 lt
  rwa [e1, e2] at this
theorem sort_lt {l : List Str} (pw : l.Pairwise fun a b => leS a b = true) (nd : l.Nodup) {k : Nat} (hk : k < l.length) {e : Str} (he : e ∈ l) (lt : leS e l[k] = true) (ne : e ≠ l[k]) : e ∈ l.take k := by
  obtain ⟨j, hj, rfl⟩ := List.getElem_of_mem he
  by_cases z : j < k
  · exact List.mem_take_iff_getElem.mpr ⟨j, by omega, rfl⟩
  · have z2 : k < j := by
      rcases Nat.lt_or_ge k j with y | y
      · exact y
      · have : j = k := by omega
        subst this
        exact (ne rfl).elim
    rw [List.pairwise_iff_getElem] at pw
    have := pw k j hk hj z2
    exact (ne (leS_anti lt this)).elim
theorem take_lt {l : List Str} (pw : l.Pairwise fun a b => leS a b = true) (nd : l.Nodup) {k : Nat} (hk : k < l.length) {e : Str} (he : e ∈ l.take k) : leS e l[k] = true ∧ e ≠ l[k] := by
  obtain ⟨j, hj, rfl⟩ := List.mem_take_iff_getElem.mp he
  have jk : j < k := by omega
  rw [List.pairwise_iff_getElem] at pw
  refine ⟨pw j k (by omega) hk jk, fun e => ?_⟩
  have := (List.getElem_inj nd).mp e
  omega
theorem names_pw {p : OP} : (pairNames lr lr' p).Pairwise fun a b => leS a b = true := sS_pw _
theorem snoc_ex {v : List Str} {n : Nat} (h : v.length = n + 1) : ∃ u e, v = u ++ [e] ∧ u.length = n := by
  have ne : v ≠ [] := fun z => by rw [z] at h; cases h
  exact ⟨v.dropLast, v.getLast ne, (List.dropLast_concat_getLast ne).symm, by simp [h]⟩
/-- a pair that a day of the next length leads to has been seen, or its day is not ahead of what is gone through -/
theorem GInv.key {n : Nat} {F : FI} {S : List OP} {i k : Nat} {S' : List OP} {L : FI} (h : FInv lr le lr' le' n F S) (G : GInv lr lr' n F S i k S' L) {day : List Str} {p : OP} (hi : F[i]? = some (day, p)) (hk : k < (pairNames lr lr' p).length)
    (v : List Str) (hv : before v (day ++ [(pairNames lr lr' p)[k]])) (nd : pairAt lr lr' v ≠ deadP) : pairAt lr lr' v ∈ S' := by
  have dl := h.len _ (List.mem_of_getElem? hi)
  have dl : day.length = n := dl
  by_cases z : v.length ≤ n
  · exact G.sub _ (h.cov v z nd)
  · have vl : v.length = n + 1 := by
      rcases hv with hv | hv
      · simp at hv; omega
      · have := hv.1; simp at this; omega
    obtain ⟨u, e, rfl, ul⟩ := snoc_ex vl
    rw [pairAt_snoc] at nd ⊢
    have ud : pairAt lr lr' u ≠ deadP := fun z => nd (by rw [z]; rfl)
    obtain ⟨r, r1, r2, r3, r4⟩ := h.rep _ (h.cov u (by omega) ud)
    have en := live_name lr lr' nd
    by_cases rl : r.length = n
    · have hr := r4 rl
      obtain ⟨j, hj⟩ := List.mem_iff_getElem?.mp hr
      have lx : lexS (u ++ [e]) (day ++ [(pairNames lr lr' p)[k]]) := by
        rcases hv with hv | hv
        · simp at hv; omega
        · exact hv.2
      rw [lexS_snoc (by omega)] at lx
      refine G.done j _ hj e ⟨en, ?_⟩
      rcases Nat.lt_trichotomy j i with a | a | a
      · exact .inl a
      · subst a
        rw [hj] at hi
        have e0 : (r, pairAt lr lr' u) = (day, p) := Option.some.inj hi
        injection e0 with e1 e2
        subst e1
        refine .inr ⟨rfl, ?_⟩
        rcases lx with lx | ⟨_, lx, ne⟩
        · exact (r3 u rfl (.inr ⟨by omega, lx⟩)).elim
        · rw [e2]
          rw [e2] at en
          exact sort_lt names_pw nd_names hk en lx ne
      · have := pair_in h.asc hi hj a
        have this : lexS day r := this
        exfalso
        rcases lx with lx | ⟨rfl, _⟩
        · exact r3 u rfl (.inr ⟨by omega, lexS_trans lx this⟩)
        · exact r3 u rfl (.inr ⟨by omega, this⟩)
    · have := h.cov (r ++ [e]) (by simp; omega) (by rw [pairAt_snoc, r1]; exact nd)
      rw [pairAt_snoc, r1] at this
      exact G.sub _ this
theorem GInv.old {n : Nat} {F : FI} {S : List OP} {i k : Nat} {S' : List OP} {L : FI} (G : GInv lr lr' n F S i k S' L) {day : List Str} {p : OP} (hi : F[i]? = some (day, p)) (hk : k < (pairNames lr lr' p).length)
    (hin : stepP lr lr' p (pairNames lr lr' p)[k] ∈ S') : GInv lr lr' n F S i (k + 1) S' L := by
  refine ⟨G.sub, G.new, fun q hq => ?_, G.asc, fun j q hj e a => ?_, G.ok, G.nd, G.cnt⟩
  · obtain ⟨a1, a2, a3, a4, u, e, j, b1, b2, b3⟩ := G.itm q hq
    exact ⟨a1, a2, a3, a4, u, e, j, b1, b2, ahead_mono b3⟩
  · obtain ⟨a1, a2⟩ := a
    rcases a2 with a2 | ⟨rfl, a2⟩
    · exact G.done j q hj e ⟨a1, .inl a2⟩
    · rw [hi] at hj
      cases hj
      rw [List.take_succ_eq_append_getElem hk, List.mem_append] at a2
      rcases a2 with a2 | a2
      · exact G.done _ _ hi e ⟨a1, .inr ⟨rfl, a2⟩⟩
      · simp at a2
        subst a2
        exact hin
theorem GInv.add {n : Nat} {F : FI} {S : List OP} {i k : Nat} {S' : List OP} {L : FI} (h : FInv lr le lr' le' n F S) (wf : WfL lr) (wf' : WfL lr') (G : GInv lr lr' n F S i k S' L) {day : List Str} {p : OP} (hi : F[i]? = some (day, p)) (hk : k < (pairNames lr lr' p).length)
    (new : stepP lr lr' p (pairNames lr lr' p)[k] ∉ S') : GInv lr lr' n F S i (k + 1) (S' ++ [stepP lr lr' p (pairNames lr lr' p)[k]]) (L ++ [(day ++ [(pairNames lr lr' p)[k]], stepP lr lr' p (pairNames lr lr' p)[k])]) := by
  have dl : day.length = n := h.len _ (List.mem_of_getElem? hi)
  have pd : p = pairAt lr lr' day := h.pr _ (List.mem_of_getElem? hi)
  have dm := List.getElem_mem hk
  have key := G.key h hi hk
  have dead : stepP lr lr' p (pairNames lr lr' p)[k] ≠ deadP := by
    intro z
    injection z with z1 z2
    rcases mem_names.mp dm with y | y
    · cases q : p.1 with
      | none => rw [q] at y; cases y
      | some a =>
        rw [q] at y z1
        simp only [deedsAt, List.getD_eq_getElem?_getD] at y
        simp only [stepO, Option.bind_some, stepR] at z1
        cases q2 : lr[a]? with
        | none => rw [q2] at y; cases y
        | some r =>
          rw [q2] at y z1
          obtain ⟨j, hj⟩ := lookup_some (r := r) y
          simp only [hj] at z1
          cases z1
    · cases q : p.2 with
      | none => rw [q] at y; cases y
      | some a =>
        rw [q] at y z2
        simp only [deedsAt, List.getD_eq_getElem?_getD] at y
        simp only [stepO, Option.bind_some, stepR] at z2
        cases q2 : lr'[a]? with
        | none => rw [q2] at y; cases y
        | some r =>
          rw [q2] at y z2
          obtain ⟨j, hj⟩ := lookup_some (r := r) y
          simp only [hj] at z2
          cases z2
  generalize ed : (pairNames lr lr' p)[k] = d at dm new key dead ⊢
  have okn : inR lr lr' (stepP lr lr' p d) := ⟨fun k e => step_lt wf e, fun k e => step_lt wf' e⟩
  refine ⟨fun q hq => List.mem_append_left _ (G.sub q hq), fun q hq => ?_, fun q hq => ?_, ?_, fun j q hj e a => ?_, fun q hq => ?_, ?_, by simp [G.cnt]; omega⟩
  · rcases List.mem_append.mp hq with hq | hq
    · exact (G.new q hq).imp id fun ⟨r, hr⟩ => ⟨r, List.mem_append_left _ hr⟩
    · simp at hq
      subst hq
      exact .inr ⟨day ++ [d], by simp⟩
  · rcases List.mem_append.mp hq with hq | hq
    · obtain ⟨a1, a2, a3, a4, u, e, j, b1, b2, b3⟩ := G.itm q hq
      exact ⟨a1, a2, List.mem_append_left _ a3, a4, u, e, j, b1, b2, ahead_mono b3⟩
    · simp at hq
      subst hq
      refine ⟨by simp [dl], by rw [pairAt_snoc, ← pd], by simp, fun v hv hb => ?_, day, d, i, rfl, by rw [hi, pd], ?_⟩
      · have hv : pairAt lr lr' v = stepP lr lr' p d := hv
        have := key v hb (by rw [hv]; exact dead)
        rw [hv] at this
        exact new this
      · rw [← pd]
        refine ⟨dm, .inr ⟨rfl, ?_⟩⟩
        rw [List.take_succ_eq_append_getElem hk, ed]
        simp
  · rw [List.pairwise_append]
    refine ⟨G.asc, by simp, fun a ha b hb => ?_⟩
    simp at hb
    subst hb
    obtain ⟨a1, a2, a3, a4, u, e, j, b1, b2, b3, b4⟩ := G.itm a ha
    have ul : u.length = n := h.len _ (List.mem_of_getElem? b2)
    rw [b1]
    show lexS (u ++ [e]) (day ++ [d])
    rw [lexS_snoc (by omega)]
    rcases b4 with b4 | ⟨rfl, b4⟩
    · exact .inl (pair_in h.asc b2 hi b4)
    · rw [hi] at b2
      have e0 : (day, p) = (u, pairAt lr lr' u) := Option.some.inj b2
      injection e0 with e1 e2
      subst e1
      rw [← e2] at b4
      have := take_lt names_pw nd_names hk b4
      rw [ed] at this
      exact .inr ⟨rfl, this.1, this.2⟩
  · obtain ⟨a1, a2⟩ := a
    rcases a2 with a2 | ⟨rfl, a2⟩
    · exact List.mem_append_left _ (G.done j q hj e ⟨a1, .inl a2⟩)
    · rw [hi] at hj
      cases hj
      rw [List.take_succ_eq_append_getElem hk, List.mem_append] at a2
      rcases a2 with a2 | a2
      · exact List.mem_append_left _ (G.done _ _ hi e ⟨a1, .inr ⟨rfl, a2⟩⟩)
      · simp at a2
        rw [a2, ed]
        simp
  · rcases List.mem_append.mp hq with hq | hq
    · exact G.ok q hq
    · simp at hq
      rw [hq]
      exact okn
  · rw [List.nodup_append]
    exact ⟨G.nd, by simp, fun a ha b hb => by
      simp at hb
      subst hb
      exact fun e => new (e ▸ ha)⟩
theorem GInv.row {n : Nat} {F : FI} {S : List OP} {i : Nat} {S' : List OP} {L : FI} {day : List Str} {p : OP} (hi : F[i]? = some (day, p)) (G : GInv lr lr' n F S i (pairNames lr lr' p).length S' L) : GInv lr lr' n F S (i + 1) 0 S' L := by
  refine ⟨G.sub, G.new, fun q hq => ?_, G.asc, fun j q hj e a => ?_, G.ok, G.nd, G.cnt⟩
  · obtain ⟨a1, a2, a3, a4, u, e, j, b1, b2, b3, b4⟩ := G.itm q hq
    refine ⟨a1, a2, a3, a4, u, e, j, b1, b2, b3, .inl ?_⟩
    rcases b4 with b4 | ⟨b4, _⟩ <;> omega
  · obtain ⟨a1, a2⟩ := a
    have ji : j < i ∨ j = i := by
      rcases a2 with a2 | ⟨_, a2⟩
      · omega
      · simp at a2
    rcases ji with ji | rfl
    · exact G.done j q hj e ⟨a1, .inl ji⟩
    · rw [hi] at hj
      cases hj
      exact G.done _ _ hi e ⟨a1, .inr ⟨rfl, by rw [List.take_of_length_le (Nat.le_refl _)]; exact a1⟩⟩
theorem FInv.next {n : Nat} {F : FI} {S S' : List OP} {L : FI} (h : FInv lr le lr' le' n F S) (ne : F ≠ []) (chk : ∀ q ∈ F, unl lr le lr' le' q.2 = false) (G : GInv lr lr' n F S F.length 0 S' L) : FInv lr le lr' le' (n + 1) L S' := by
  refine ⟨fun q hq => (G.itm q hq).1, fun q hq => (G.itm q hq).2.1, G.asc, fun p hp => ?_, fun v hv nd => ?_, fun v hv => ?_, fun q hq => (G.itm q hq).2.2.2.1, G.ok, G.nd, fun q hq => (G.itm q hq).2.2.1, ?_, fun hL => ?_⟩
  · rcases G.new p hp with hp | ⟨r, hr⟩
    · obtain ⟨r, r1, r2, r3, r4⟩ := h.rep p hp
      exact ⟨r, r1, by omega, r3, fun z => by omega⟩
    · obtain ⟨a1, a2, a3, a4, _⟩ := G.itm _ hr
      exact ⟨r, a2.symm, by have : r.length = n + 1 := a1; omega, a4, fun _ => hr⟩
  · by_cases z : v.length ≤ n
    · exact G.sub _ (h.cov v z nd)
    · obtain ⟨u, e, rfl, ul⟩ := snoc_ex (v := v) (n := n) (by omega)
      rw [pairAt_snoc] at nd ⊢
      have ud : pairAt lr lr' u ≠ deadP := fun z => nd (by rw [z]; rfl)
      obtain ⟨r, r1, r2, r3, r4⟩ := h.rep _ (h.cov u (by omega) ud)
      have en := live_name lr lr' nd
      by_cases rl : r.length = n
      · obtain ⟨j, hj⟩ := List.mem_iff_getElem?.mp (r4 rl)
        exact G.done j _ hj e ⟨en, .inl (List.getElem?_eq_some_iff.mp hj).1⟩
      · have := h.cov (r ++ [e]) (by simp; omega) (by rw [pairAt_snoc, r1]; exact nd)
        rw [pairAt_snoc, r1] at this
        exact G.sub _ this
  · by_cases z : v.length < n
    · exact h.no v z
    · by_cases ud : pairAt lr lr' v = deadP
      · rw [ud]
        rfl
      · obtain ⟨r, r1, r2, r3, r4⟩ := h.rep _ (h.cov v (by omega) ud)
        by_cases rl : r.length = n
        · exact chk _ (r4 rl)
        · have := h.no r (by omega)
          rwa [r1] at this
  · have := h.cnt.2 ne
    have := G.cnt
    omega
  · have := h.cnt.2 ne
    have := G.cnt
    have : 0 < L.length := List.length_pos_iff.mpr hL
    omega
/-- the day told -/
theorem FInv.told {n : Nat} {F : FI} {S : List OP} (h : FInv lr le lr' le' n F S) {i : Nat} {day : List Str} {p : OP} (hi : F[i]? = some (day, p)) (chk : ∀ j, j < i → ∀ q, F[j]? = some q → unl lr le lr' le' q.2 = false) (un : unl lr le lr' le' p = true) :
    acc lr le 0 day ≠ acc lr' le' 0 day ∧ ∀ v, before v day → acc lr le 0 v = acc lr' le' 0 v := by
  have dl : day.length = n := h.len _ (List.mem_of_getElem? hi)
  have pd : p = pairAt lr lr' day := h.pr _ (List.mem_of_getElem? hi)
  refine ⟨unl_iff lr le lr' le' |>.mp (pd ▸ un), fun v hv => ?_⟩
  refine Classical.byContradiction fun ne => ?_
  have uv := unl_iff lr le lr' le' |>.mpr ne
  have vl : ¬ v.length < n := fun z => by
    rw [h.no v z] at uv
    cases uv
  have vn : v.length = n ∧ lexS v day := by
    rcases hv with hv | hv
    · omega
    · exact ⟨by omega, hv.2⟩
  have ud : pairAt lr lr' v ≠ deadP := fun z => by
    rw [z] at uv
    cases uv
  obtain ⟨r, r1, r2, r3, r4⟩ := h.rep _ (h.cov v (by omega) ud)
  by_cases rl : r.length = n
  · obtain ⟨j, hj⟩ := List.mem_iff_getElem?.mp (r4 rl)
    rcases Nat.lt_trichotomy j i with a | a | a
    · have := chk j a _ hj
      have this : unl lr le lr' le' (pairAt lr lr' v) = false := this
      rw [this] at uv
      cases uv
    · subst a
      rw [hj] at hi
      have e0 : (r, pairAt lr lr' v) = (day, p) := Option.some.inj hi
      injection e0 with e1 e2
      subst e1
      exact r3 v rfl hv
    · have := pair_in h.asc hi hj a
      have this : lexS day r := this
      exact r3 v rfl (.inr ⟨by omega, lexS_trans vn.2 this⟩)
  · have := h.no r (by omega)
    rw [r1] at this
    rw [this] at uv
    cases uv
theorem FInv.none {n : Nat} {S : List OP} (h : FInv lr le lr' le' n [] S) : ∀ w, acc lr le 0 w = acc lr' le' 0 w := by
  have main : ∀ m (w : List Str), w.length = m → unl lr le lr' le' (pairAt lr lr' w) = false := by
    intro m
    induction m using Nat.strongRecOn with
    | _ m ih =>
      intro w hw
      by_cases z : w.length < n
      · exact h.no w z
      · by_cases ud : pairAt lr lr' (w.take n) = deadP
        · have : pairAt lr lr' w = deadP := by
            have e : w = w.take n ++ w.drop n := (List.take_append_drop n w).symm
            rw [e]
            unfold pairAt at ud ⊢
            rw [List.foldl_append, ud]
            generalize w.drop n = v
            induction v with
            | nil => rfl
            | cons d v ih => exact ih
          rw [this]
          rfl
        · obtain ⟨r, r1, r2, r3, r4⟩ := h.rep _ (h.cov (w.take n) (by simp; omega) ud)
          have rl : r.length < n := by
            rcases Nat.lt_or_ge r.length n with y | y
            · exact y
            · exact absurd (r4 (by omega)) (List.not_mem_nil)
          have e : pairAt lr lr' w = pairAt lr lr' (r ++ w.drop n) := by
            conv => lhs; rw [← List.take_append_drop n w]
            unfold pairAt at r1 ⊢
            rw [List.foldl_append, List.foldl_append, r1]
          rw [e]
          exact ih _ (by simp; omega) _ rfl
  intro w
  refine Classical.byContradiction fun ne => ?_
  have := unl_iff lr le lr' le' |>.mpr ne
  rw [main _ w rfl] at this
  cases this
end
end Pg
set_option Elab.async false
set_option linter.all false
set_option maxRecDepth 100000
set_option maxHeartbeats 2000000
/-! R9: first_unlike keeps its promise. -/
namespace Pg
open PySem PySem.Spec PyProof.Rows L2 VL
def eFI (q : List Str × OP) : D := .tup [.lst (eStrs q.1), oInt q.2.1, oInt q.2.2]
def eSeen (S : List OP) : ES := S.map fun p => (kOP p, D.bl true)
theorem look_seen {S : List OP} {p : OP} : lookE (eSeen S) (kOP p) = if p ∈ S then some (.bl true) else none := by
  induction S with
  | nil => rfl
  | cons a S ih =>
    unfold eSeen lookE at ih ⊢
    rw [List.map_cons, List.find?_cons]
    by_cases e : a = p
    · subst e
      simp
    · have e2 : ¬ kOP a = kOP p := fun z => e (kOP_inj z)
      have e3 : ¬ p = a := fun z => e z.symm
      simp only [e2, decide_false]
      rw [ih]
      simp [e3]
theorem store_seen {S : List OP} {p : OP} (h : p ∉ S) : storeE (eSeen S) (kOP p) (.bl true) = eSeen (S ++ [p]) := by
  unfold storeE
  rw [look_seen, if_neg h]
  simp [eSeen]
theorem seen_len {S : List OP} : (eSeen S).length = S.length := by simp [eSeen]
section
variable (P : Program) (w : World) (C_Rule : Addr)
def wu_in : WS := (wFor (iL (wSSet (w2 oAdd (wA (oFn 2 o_deeds_of) (wCons (wFz (w1 (oFld C_Rule "kept_rooms") (wVar 0))) (wCons (wVar 6) wNil))) (wA (oFn 2 o_deeds_of) (wCons (wFz (w1 (oFld C_Rule "kept_rooms") (wVar 1))) (wCons (wVar 7) wNil)))))) (gN 8) (wSeq (wSetF 9 (wTup (wCons (wA (oFn 3 o_room_behind) (wCons (wFz (w1 (oFld C_Rule "kept_rooms") (wVar 0))) (wCons (wVar 6) (wCons (wVar 8) wNil)))) (wCons (wA (oFn 3 o_room_behind) (wCons (wFz (w1 (oFld C_Rule "kept_rooms") (wVar 1))) (wCons (wVar 7) (wCons (wVar 8) wNil)))) wNil))))
  (wIfS (wB (wInN P w true (wVar 9) 2)) (wSeq (wPutN P w 2 (wC (.bl true)) (wVar 9))
  (wApp 4 (wTup (wCons (wLst (wStar (wVar 5) (wCons (wVar 8) wNil))) (wCons (w2 oIxH (wVar 9) (wC (.int 0))) (wCons (w2 oIxH (wVar 9) (wC (.int 1))) wNil)))))) wNext)))
def wu_while : WS := (wWhile (wB (w2 (oR2 (dEq true)) (wVar 3) (wLst wNil))) (wSeq (wSet 4 (wLst wNil))
  (wSeq (wFor (iL (wVar 3)) (gT [(gN 5), (gN 6), (gN 7)]) (wSeq (wIfS (wB (w2 (oR2 (dEq true)) (w2 (oR2 (dIn false)) (wVar 6) (w1 (oFld C_Rule "kept_ends") (wVar 0))) (w2 (oR2 (dIn false)) (wVar 7) (w1 (oFld C_Rule "kept_ends") (wVar 1))))) (wRet (wVar 5)) wNext)
  (wu_in P w C_Rule)))
  (wSetF 3 (wTake 4)))))
def wu_tail : WS := wSeq (wu_while P w C_Rule) (wRet (wC .non))
def wu_pre : WS := (wSeq (wPar 2 3 (wCons (wDisp1N P w (wTup (wCons (wC (.int 0)) (wCons (wC (.int 0)) wNil))) (wC (.bl true))) (wCons (wFz (wLst (wCons (wTup (wCons (wLst wNil) (wCons (wC (.int 0)) (wCons (wC (.int 0)) wNil)))) wNil))) wNil)))
  (wu_tail P w C_Rule))
end
theorem wu_eq {P : Program} {w : World} {C : Addr} : w_first_unlike P w C = wu_pre P w C := rfl
def okDays (L : FI) : Prop := ∀ q ∈ L, ∀ d ∈ q.1, PyData.strOk d = true
def pyO : Option Nat → PyData
  | some i => .int (i : Int)
  | none => .none
theorem pyD_oInt (i : Option Nat) : pyD (oInt i) = some (pyO i) := by cases i <;> simp [oInt, pyO, pyD]
theorem pyL_strsF : ∀ l : List Str, pyL (eStrs l) = some (l.map PyData.str)
  | [] => rfl
  | a :: l => by
    have ih := pyL_strsF l
    unfold eStrs at ih ⊢
    simp only [List.map_cons, pyL, pyD]
    rw [ih]
def pyFI (q : List Str × OP) : PyData := .tuple [.list (q.1.map .str), pyO q.2.1, pyO q.2.2]
theorem pyL_FI : ∀ F : FI, pyL (F.map eFI) = some (F.map pyFI)
  | [] => rfl
  | q :: F => by
    simp only [List.map_cons, pyL, pyD, eFI, pyL_strsF, pyD_oInt, pyL_FI F, pyFI]
theorem lay_strsF : ∀ {l : List Str}, (∀ d ∈ l, PyData.strOk d = true) → PyData.canLayAll0 (l.map PyData.str) = true
  | [], _ => rfl
  | d :: l, h => by
    simp only [List.map_cons, PyData.canLayAll0, PyData.canLay0, h d List.mem_cons_self, lay_strsF fun e he => h e (List.mem_cons_of_mem _ he), Bool.and_self]
theorem lay_O (i : Option Nat) : PyData.canLay0 (pyO i) = true := by cases i <;> simp [pyO, PyData.canLay0]
theorem lay_FI : ∀ {F : FI}, okDays F → PyData.canLayAll0 (F.map pyFI) = true
  | [], _ => rfl
  | q :: F, h => by
    simp only [List.map_cons, PyData.canLayAll0, PyData.canLay0, pyFI, lay_strsF (h q List.mem_cons_self), lay_O, lay_FI fun e he => h e (List.mem_cons_of_mem _ he), Bool.and_self]
theorem depth_strsF : ∀ l : List Str, PyData.depthAll (l.map PyData.str) = 0
  | [] => by simp [PyData.depthAll]
  | a :: l => by simp [PyData.depthAll, PyData.depth, depth_strsF l]
theorem depth_O (i : Option Nat) : PyData.depth (pyO i) = 0 := by cases i <;> simp [pyO, PyData.depth]
theorem depth_FI : ∀ F : FI, PyData.depthAll (F.map pyFI) ≤ 2
  | [] => by simp [PyData.depthAll]
  | q :: F => by
    have := depth_FI F
    simp only [List.map_cons, PyData.depthAll, PyData.depth, pyFI, depth_strsF, depth_O] at *
    omega
theorem eq_front {F : FI} (h : okDays F) : dEq true (.lst (F.map eFI)) (.lst []) = some (.bl (!decide (F = []))) := by
  unfold dEq
  simp only [pyD, pyL_FI, pyL]
  have s1 : SeqAt.shaped (PyData.list (F.map pyFI)) = true := by
    have := depth_FI F
    simp [SeqAt.shaped, PyData.canLay0, PyData.depth, lay_FI h]
    omega
  have s2 : SeqAt.shaped (PyData.list []) = true := by
    simp [SeqAt.shaped, PyData.canLay0, PyData.depth, PyData.canLayAll0, PyData.depthAll]
  cases F with
  | nil => simp [s2, PyData.eqv, PyData.eqvAll]
  | cons q F =>
    simp only [s1, s2]
    simp [PyData.eqv, PyData.eqvAll]
theorem neq_bl {a b : Bool} : dEq true (.bl a) (.bl b) = some (.bl (a != b)) := by
  cases a <;> cases b <;> simp [dEq, pyD, SeqAt.shaped, PyData.canLay0, PyData.depth, PyData.eqv]
abbrev tFI (L : FI) : List T := L.map fun q => .fz (eFI q)
def unlW (P : Program) (w : World) (C : Addr) (lr : RM) (le : List Nat) (lr' : RM) (le' : List Nat) (N : Nat) (t : Nat) (m : Tau) : Prop := ∃ (n : Nat) (F : FI) (S : List OP) (o4 o5 o6 o7 o8 o9 : Option T),
  m = [some (.fz (eRule C lr le)), some (.fz (eRule C lr' le')), some (.on P w (eSeen S)), some (.fz (.lst (F.map eFI))), o4, o5, o6, o7, o8, o9] ∧
  t = 2 * (N - S.length) + (if F = [] then 0 else 1) ∧ FInv lr le lr' le' n F S ∧ okDays F
def unlI (P : Program) (w : World) (C : Addr) (lr : RM) (le : List Nat) (lr' : RM) (le' : List Nat) (n : Nat) (F : FI) (S : List OP) (i : Nat) (m : Tau) : Prop := ∃ (S' : List OP) (L : FI) (o5 o6 o7 o8 o9 : Option T),
  m = [some (.fz (eRule C lr le)), some (.fz (eRule C lr' le')), some (.on P w (eSeen S')), some (.fz (.lst (F.map eFI))), some (.ol (tFI L)), o5, o6, o7, o8, o9] ∧
  GInv lr lr' n F S i 0 S' L ∧ (∀ j, j < i → ∀ q, F[j]? = some q → unl lr le lr' le' q.2 = false) ∧ okDays L
def unlJ (P : Program) (w : World) (C : Addr) (lr : RM) (le : List Nat) (lr' : RM) (le' : List Nat) (n : Nat) (F : FI) (S : List OP) (i : Nat) (day : List Str) (p : OP) (k : Nat) (m : Tau) : Prop := ∃ (S' : List OP) (L : FI) (o8 o9 : Option T),
  m = [some (.fz (eRule C lr le)), some (.fz (eRule C lr' le')), some (.on P w (eSeen S')), some (.fz (.lst (F.map eFI))), some (.ol (tFI L)), some (.fz (.lst (eStrs day))), some (.fz (oInt p.1)), some (.fz (oInt p.2)), o8, o9] ∧
  GInv lr lr' n F S i k S' L ∧ okDays L
theorem sp_first_unlike (Pr : Program) (wd : World) (C : Addr) (xs : List T) (P : T → Prop) (R : Exn → Prop) (hn : xs.length = 2) (h : o_first_unlike C xs P R) : w_first_unlike Pr wd C (VL.startT 10 xs) (EV P R) := by
  obtain ⟨l, lr, le, lr', le', rfl, ra, rb, ab, lim, hno, hw⟩ := h
  have two : 2 ≤ sizeLine := big_le (by omega)
  have three : 3 ≤ sizeLine := big_le (by omega)
  have ne : ¬ (Str.ofString "kept_rooms" = Str.ofString "kept_ends") := by decide +kernel
  have eins : ∀ lr le, D.ins C ["kept_rooms", "kept_ends"] [eLeast lr, eEnds le] = eRule C lr le := fun _ _ => rfl
  have k0 : keyN (.tup [.int 0, .int 0]) = some (kOP (some 0, some 0)) := keyN_pair (some 0, some 0)
  rw [wu_eq]
  simp [wu_pre, k0]
  refine ⟨two, three, by omega, ?_⟩
  have e1 : T.on Pr wd [(kOP (some 0, some 0), D.bl true)] = .on Pr wd (eSeen [(some 0, some 0)]) := rfl
  have e2 : D.lst [D.tup [D.lst [], D.int 0, D.int 0]] = .lst (([([], (some 0, some 0))] : FI).map eFI) := rfl
  rw [e1, e2]
  unfold wu_tail
  simp only [wSeq]
  unfold wu_while
  refine ⟨unlW Pr wd C lr le lr' le' ((lr.length + 1) * (lr'.length + 1)), ⟨_, 0, [([], (some 0, some 0))], [(some 0, some 0)], _, _, _, _, _, _, rfl, rfl, FInv.init ra.wf.pos rb.wf.pos, fun q hq => by simp at hq; subst hq; exact fun d hd => (List.not_mem_nil hd).elim⟩, ?_⟩
  rintro t m ⟨n, F, S, o4, o5, o6, o7, o8, o9, rfl, rfl, I, okF⟩
  have sl := pairs_le I.nd I.ok
  simp [eq_front okF]
  by_cases q : F = []
  · subst q
    simp
    exact hno I.none
  · simp [q]
    refine forL_at (unlI Pr wd C lr le lr' le' n F S) ?_ ?_ ⟨S, [], _, _, _, _, _, rfl, GInv.init I, fun j hj => absurd hj (Nat.not_lt_zero _), fun q hq => (List.not_mem_nil hq).elim⟩
    · rintro i hi m ⟨S', L, o5, o6, o7, o8, o9, rfl, G, chk, okL⟩ E' h1 h2 h3 h4 h5
      have hi' : i < F.length := by simpa using hi
      have hF : F[i]? = some F[i] := List.getElem?_eq_getElem hi'
      have ed : (F.map eFI)[i] = eFI F[i] := by simp
      rw [ed]
      generalize F[i] = x at hF ⊢
      obtain ⟨day, p⟩ := x
      simp [eFI, eRule, lookF, ne]
      simp only [in_ends (lr := lr) (le := le) (i := p.1), in_ends (lr := lr') (le := le') (i := p.2)]
      simp only [neq_bl, eins]
      have eu : (accO lr le p.1 [] != accO lr' le' p.2 []) = unl lr le lr' le' p := rfl
      rw [eu]
      have dF := okF _ (List.mem_of_getElem? hF)
      cases un : unl lr le lr' le' p with
      | true =>
        obtain ⟨t1, t2⟩ := I.told hF chk un
        exact h4 _ _ (hw day t1 t2)
      | false =>
        have chk' : ∀ j, j < i + 1 → ∀ q, F[j]? = some q → unl lr le lr' le' q.2 = false := fun j hj q hq => by
          by_cases e : j = i
          · subst e
            rw [hF] at hq
            cases hq
            exact un
          · exact chk j (by omega) q hq
        have pS := I.sub _ (List.mem_of_getElem? hF)
        have okp : inR lr lr' p := I.ok p pS
        obtain ⟨f1, g1⟩ := deeds_few ra ab p.1
        obtain ⟨f2, g2⟩ := deeds_few rb ab p.2
        have nle := len_names (p := p) ab ra.over rb.over
        have dlen : day.length = n := I.len _ (List.mem_of_getElem? hF)
        have ncnt := I.cnt.1
        simp [wu_in, eRule, lookF]
        refine ⟨lr, _, rfl, okp.1, g1, ?_⟩
        refine ⟨lr', _, rfl, okp.2, g2, ?_⟩
        have es : strsOf (List.map D.str (deedsAt lr p.1) ++ List.map D.str (deedsAt lr' p.2)) = some (deedsAt lr p.1 ++ deedsAt lr' p.2) := by
          rw [← List.map_append]
          exact strsOf_map _
        have nl2 : (deedsAt lr p.1 ++ deedsAt lr' p.2).eraseDups.length = (pairNames lr lr' p).length := by
          unfold pairNames sS
          rw [List.length_mergeSort]
        simp [es]
        refine ⟨big_le (by omega), ⟨by omega, by omega⟩, ?_⟩
        refine forL_at (unlJ Pr wd C lr le lr' le' n F S i day p) ?_ ?_ ⟨S', L, _, _, rfl, G, okL⟩
        · clear G okL es nl2
          rintro k hk m ⟨S', L, o8, o9, rfl, G, okL⟩ E'' g1 g2 g3 g4 g5
          have sl' := pairs_le G.nd G.ok
          have hk2 : k < (pairNames lr lr' p).length := by simpa [pairNames] using hk
          have ed : (List.map D.str (sS (deedsAt lr p.1 ++ deedsAt lr' p.2).eraseDups))[k] = .str (pairNames lr lr' p)[k] := by simp [pairNames]
          rw [ed]
          have hd := mem_names.mp (List.getElem_mem hk2)
          have gOld := G.old hF hk2
          have gAdd := G.add I ra.wf rb.wf hF hk2
          generalize (pairNames lr lr' p)[k] = d at hd gOld gAdd ⊢
          have dl : d ∈ l := hd.elim (deeds_in ra.over) (deeds_in rb.over)
          have dn := strOk_name (ab.nm d dl)
          simp [eRule, lookF]
          refine ⟨lr, _, d, rfl, okp.1, ra.wf.names, dn, ?_⟩
          refine ⟨lr', _, d, rfl, okp.2, rb.wf.names, dn, ?_⟩
          have e13 : D.tup [oInt (p.1.bind fun k => stepR lr k d), oInt (p.2.bind fun k => stepR lr' k d)] = eOP (stepP lr lr' p d) := rfl
          have Ll : L.length < sizeLine := by
            have := G.cnt
            exact big_lt (by omega)
          have Sl : S'.length < sizeLine := big_lt (by omega)
          simp only [sx_T_er_1, e13, ix_e0, ix_e1, keyN_pair, look_seen, eins]
          by_cases z : stepP lr lr' p d ∈ S'
          · simp [z]
            refine ⟨two, ?_⟩
            exact g1 _ ⟨S', L, _, _, rfl, gOld z, okL⟩
          · have est := store_seen z
            simp [z, est, seen_len, Sl, eStrs]
            refine ⟨two, big_le (by omega), three, Ll, ?_⟩
            have el : tFI L ++ [T.fz (.tup [.lst (day.map D.str ++ [.str d]), oInt (stepP lr lr' p d).1, oInt (stepP lr lr' p d).2])] = tFI (L ++ [(day ++ [d], stepP lr lr' p d)]) := by
              simp [eFI, eStrs]
            rw [el]
            refine g1 _ ⟨_, _, _, _, rfl, gAdd z, fun q hq => ?_⟩
            rcases List.mem_append.mp hq with hq | hq
            · exact okL q hq
            · simp at hq
              subst hq
              intro e he
              rcases List.mem_append.mp he with he | he
              · exact dF e he
              · simp at he
                rw [he]
                exact dn
        · rintro m ⟨S', L, o8, o9, rfl, G, okL⟩
          have el : (List.map D.str (sS (deedsAt lr p.1 ++ deedsAt lr' p.2).eraseDups)).length = (pairNames lr lr' p).length := by simp [pairNames]
          rw [el] at G
          exact h1 _ ⟨S', L, _, _, _, _, _, rfl, G.row hF, chk', okL⟩
    · rintro m ⟨S', L, o5, o6, o7, o8, o9, rfl, G, chk, okL⟩
      have sl' := pairs_le G.nd G.ok
      rw [List.length_map] at G chk
      have chk : ∀ q ∈ F, unl lr le lr' le' q.2 = false := fun q hq => by
        obtain ⟨j, hj⟩ := List.mem_iff_getElem?.mp hq
        exact chk j (List.getElem?_eq_some_iff.mp hj).1 q hj
      have nx := I.next q chk G
      have el : (tFI L).map T.er = L.map eFI := by simp
      simp [el]
      refine ⟨_, ?_, n + 1, L, S', _, _, _, _, _, _, rfl, rfl, nx, okL⟩
      have cn := G.cnt
      by_cases z : L = []
      · subst z
        simp at cn ⊢
        omega
      · have := List.length_pos_iff.mpr z
        rw [if_neg z]
        omega
end Pg
set_option Elab.async false
set_option linter.all false
set_option maxRecDepth 100000
set_option maxHeartbeats 2000000
/-! R10: rules of no day and of the empty day; what expressions of rules tell. -/
namespace Pg
open PySem PySem.Spec PyProof.Rows L2 VL
/-- n times the empty day -/
def o_of_days0 (C : Addr) : OX := fun xs P _ => ∃ n : Nat, xs = [.fz (.lst (List.replicate n (.lst [])))] ∧ n ≤ 900 ∧ ∀ rr re, (∀ l, Ru l rr re) → rr.length ≤ 1 → (∀ w, acc rr re 0 w = decide (w = [] ∧ 0 < n)) → P (tRule C rr re)
def ofW (n : Nat) (k : Nat) (m : Tau) : Prop := ∃ (o1 o4 o5 : Option T), m = [some (.fz (.lst (List.replicate n (.lst [])))), o1, some (.ol [.od [] []]), some (.ol (tInts (List.replicate k 0))), o4, o5]
theorem sp_of_days0 (C : Addr) (xs : List T) (P : T → Prop) (R : Exn → Prop) (hn : xs.length = 1) (h : o_of_days0 C xs P R) : w_of_days C (VL.startT 6 xs) (EV P R) := by
  obtain ⟨n, rfl, hl, h⟩ := h
  simp [w_of_days]
  refine forL_at (fun _ m => ∃ o, m = [some (.fz (.lst (List.replicate n (.lst [])))), o, none, none, none, none]) ?_ ?_ ⟨_, rfl⟩
  · rintro k hk m ⟨o, rfl⟩ E' h1 h2 h3 h4 h5
    have ed : (List.replicate n (D.lst []))[k] = .lst (eStrs []) := by simp [eStrs]
    rw [ed]
    simp
    refine ⟨[], rfl, fun z hz => (List.not_mem_nil hz).elim, ?_⟩
    exact h1 _ ⟨_, rfl⟩
  · rintro m ⟨o, rfl⟩
    simp
    refine ⟨big_le (by omega), ?_⟩
    refine forL_at (ofW n) ?_ ?_ ⟨_, _, _, rfl⟩
    · rintro k hk m ⟨o1, o4, o5, rfl⟩ E' h1 h2 h3 h4 h5
      have ed : (List.replicate n (D.lst []))[k] = .lst [] := by simp
      rw [ed]
      rw [List.length_replicate] at hk
      have kl : (tInts (List.replicate k 0)).length < sizeLine := by simp [tInts]; exact big_lt (by omega)
      simp [kl]
      unfold wForL
      simp [kl]
      have et : tInts (List.replicate k 0) ++ [T.fz (.int 0)] = tInts (List.replicate (k + 1) 0) := by simp [tInts, List.replicate_succ']
      rw [et]
      exact h1 _ ⟨_, _, _, rfl⟩
    · rintro m ⟨o1, o4, o5, rfl⟩
      rw [List.length_replicate]
      have er : (tInts (List.replicate n 0)).map T.er = eInts (List.replicate n 0) := er_tInts
      simp [er]
      refine ⟨[[]], List.replicate n 0, rfl, ⟨by simp, by simp, by simp, fun e he => by simp at he; simp [he.2], by simp; omega⟩, fun rr re least => ⟨rfl, ?_⟩⟩
      refine h rr re (fun l => least.ru fun r hr p hp => by simp at hr; subst hr; cases hp) least.len fun w => ?_
      rw [least.lang]
      cases w with
      | nil => simp [acc, List.mem_replicate]; cases n <;> simp
      | cons d w => simp [acc, stepR]
/-! ### what expressions tell -/
def RV (C : Addr) (l : List Str) (k : Nat) (L : List Str → Bool) (we : WE) (m : Tau) : Prop := ∀ Q : T → Tau → Prop, (∀ lr le, Ru l lr le → lr.length ≤ k → (∀ w, acc lr le 0 w = L w) → Q (.fz (eRule C lr le)) m) → we m Q
def BV (we : WE) (m : Tau) (φ : Prop) : Prop := ∀ Q : T → Tau → Prop, (∀ b : Bool, (b = true ↔ φ) → Q (.fz (.bl b)) m) → we m Q
section
variable {C : Addr} {l : List Str} {k k1 k2 : Nat} {L L1 L2 : List Str → Bool} {a b : WE} {m : Tau} {φ ψ : Prop}
theorem rv_var {i : Nat} {lr : RM} {le : List Nat} (e : m[i]? = some (some (.fz (eRule C lr le)))) (r : Ru l lr le) (hk : lr.length ≤ k) (hL : ∀ w, acc lr le 0 w = L w) : RV C l k L (wVar i) m := fun Q q => by
  simp [e]
  exact q lr le r hk hL
theorem rv_both {c : Bool} (ab : Abc l) (ha : RV C l k1 L1 a m) (hb : RV C l k2 L2 b m) (lim : (k1 + 1) * (k2 + 1) ≤ 100000) : RV C l ((k1 + 1) * (k2 + 1)) (fun w => comb c (L1 w) (L2 w)) (wFz (w2 (oOwn2 C (oFn 2 (o_both C c))) a b)) m := fun Q q => by
  simp only [sx_wFz, sx_w2]
  refine ha _ fun lr le r1 n1 e1 => ?_
  refine hb _ fun lr' le' r2 n2 e2 => ?_
  have mul : (lr.length + 1) * (lr'.length + 1) ≤ (k1 + 1) * (k2 + 1) := Nat.mul_le_mul (by omega) (by omega)
  simp [eRule]
  refine ⟨l, lr, le, lr', le', rfl, r1, r2, ab, by omega, fun rr re hr len lang => ?_⟩
  show Q (T.fz (tRule C rr re).er) m
  rw [er_rule]
  exact q rr re hr (by omega) fun w => by rw [lang, e1, e2]
theorem rv_inv (ab : Abc l) (ha : RV C l k L a m) (lim : 2 ^ k ≤ 100000) : RV C l (2 ^ k) (fun w => L w.reverse) (wFz (w1 (oOwn1 C (oFn 1 (o_invert C))) a)) m := fun Q q => by
  simp only [sx_wFz, sx_w1]
  refine ha _ fun lr le r1 n1 e1 => ?_
  have pw : 2 ^ lr.length ≤ 2 ^ k := Nat.pow_le_pow_right (by omega) n1
  simp [eRule]
  refine ⟨l, lr, le, rfl, r1, ab, by omega, fun rr re hr len lang => ?_⟩
  show Q (T.fz (tRule C rr re).er) m
  rw [er_rule]
  exact q rr re hr (by omega) fun w => by rw [lang, e1]
theorem bv_eq (ha : RV C l k1 L1 a m) (hb : RV C l k2 L2 b m) : BV (w2 (oEqO C (oFn 2 (o_eq C))) a b) m (∀ w, L1 w = L2 w) := fun Q q => by
  simp only [sx_w2]
  refine ha _ fun lr le r1 n1 e1 => ?_
  refine hb _ fun lr' le' r2 n2 e2 => ?_
  simp [eRule]
  refine ⟨l, l, lr, le, lr', le', rfl, r1, r2, fun c hc => q c (hc.trans ?_)⟩
  simp only [e1, e2]
theorem bv_within (ab : Abc l) (ha : RV C l k1 L1 a m) (hb : RV C l k2 L2 b m) (lim : (k1 + 1) * (k2 + 1) ≤ 100000) : BV (wMeth C "within" (oFn 2 (o_within C)) a (wCons b wNil)) m (∀ w, L1 w = true → L2 w = true) := fun Q q => by
  simp only [sx_wMeth]
  refine ha _ fun lr le r1 n1 e1 => ?_
  simp only [eRule, sx_wCons, sx_wNil]
  refine ⟨trivial, by decide +kernel, ?_⟩
  refine hb _ fun lr' le' r2 n2 e2 => ?_
  have mul : (lr.length + 1) * (lr'.length + 1) ≤ (k1 + 1) * (k2 + 1) := Nat.mul_le_mul (by omega) (by omega)
  simp [eRule]
  refine ⟨l, lr, le, lr', le', rfl, r1, r2, ab, by omega, fun c hc => q c (hc.trans ?_)⟩
  simp only [e1, e2]
theorem bl_iff {x y : Bool} (h1 : x = true ↔ φ) (h2 : y = true ↔ ψ) : ((x == y) = true ↔ (φ ↔ ψ)) := by
  rw [← h1, ← h2]
  cases x <;> cases y <;> simp
theorem eq_bl2 {x y : Bool} : dEq false (.bl x) (.bl y) = some (.bl (x == y)) := by
  cases x <;> cases y <;> simp [dEq, pyD, SeqAt.shaped, PyData.canLay0, PyData.depth, PyData.eqv]
theorem bv_eqb {oA : OA} (ha : BV a m φ) (hb : BV b m ψ) : BV (w2 (oEqO C oA) (wFz a) (wFz b)) m (φ ↔ ψ) := fun Q q => by
  simp only [sx_w2, sx_wFz]
  refine ha _ fun x hx => ?_
  refine hb _ fun y hy => ?_
  simp [eq_bl2]
  exact q _ (bl_iff hx hy)
theorem bv_and (ha : BV a m φ) (hb : BV b m ψ) : BV (wAndV a b) m (φ ∧ ψ) := fun Q q => by
  simp only [sx_wAndV]
  refine ha _ fun x hx => ?_
  cases x with
  | false => simp; exact q false ⟨fun z => (Bool.false_ne_true z).elim, fun z => (Bool.false_ne_true (hx.mpr z.1)).elim⟩
  | true =>
    simp
    refine hb _ fun y hy => q y (hy.trans ⟨fun z => ⟨hx.mp rfl, z⟩, fun z => z.2⟩)
end
end Pg
set_option Elab.async false
set_option linter.all false
set_option maxRecDepth 100000
set_option maxHeartbeats 1000000
/-! BW1: a web with one change; what fits and the law promise. -/
namespace Pg
open PySem PySem.Spec PyProof.Rows L2 VL
def o_bent_web : OIO := fun xs P _ => ∃ (n : Nat) (t : T) (rs : RM) (es : List Nat) (l : List Str), xs = [t, .fz (eWeb rs es), .fz (.lst (eStrs l))] ∧ Jar (n + 10) t ∧ Good rs es ∧ rs.length ≤ 50 ∧ (∀ r ∈ rs, r.length ≤ 20 ∧ ∀ p ∈ r, p.1 ∈ l) ∧ Names l ∧ l ≠ [] ∧ l.length ≤ 20 ∧ es.length ≤ 100 ∧
  ∀ rs' es' t', Good rs' es' → rs'.length = rs.length → (∀ r ∈ rs', ∀ p ∈ r, p.1 ∈ l) → es'.length ≤ es.length + 1 → Jar n t' → P (.fz (eWeb rs' es')) t'
def o_fits : OX := fun xs P _ => ∃ t : T, xs = [t] ∧ Jar 100000 t ∧ P (.fz (.bl true))
def o_law (K : PySem.W.Frag) : OX := fun xs P _ => ∃ ns : List Int, xs = [.fz (.scr K ns)] ∧ ns.length ≤ 63 ∧ (∀ z ∈ ns, bits z ≤ 1048576) ∧ P (.fz (.bl true))
-- _law_bent_web: 0 _law_jar_here, 1 _law_web_here, 2 _law_callings_here, 3 _law_found, 4 _law_stops, 5 _law_at, 6 _law_way, 7 _law_names_here, 8 _law_gone, 9 _law_steps_here, 10 _law_stop, 11 _law_deed, 12 _law_goal
def w__law_bent_web : WS := (wSeq (wPar 3 4 (wCons (wLc (iL (w2 oIxH (wVar 1) (wC (.int 0)))) (gN 9) wYes (wA (oA1 oDict) (wCons (w1 (oL1 dListItems) (wVar 9)) wNil)) [9]) (wCons (wFz (wA (oA1 (oL1 dItems)) (wCons (w2 oIxH (wVar 1) (wC (.int 1))) wNil))) wNil)))
  (wSeq (wParL [5, 6] (wCons (wFz (wIO 0 2 o_grab (wCons (wFz (wView (wA (oA1 (oR1 dLen)) (wCons (wVar 3) wNil)))) wNil))) (wCons (wFz (wIO 0 2 o_grab (wCons (wC (.int 4)) wNil))) wNil)))
  (wSeq (wIfS (wB (w2 (oR2 (dEq false)) (wVar 6) (wC (.int 0)))) (wSetF 4 (wIf (wB (w2 (oR2 (dIn false)) (wVar 5) (wVar 4))) (wLc (iL (wVar 4)) (gN 10) (wB (w2 (oR2 (dEq true)) (wVar 10) (wVar 5))) (wVar 10) [10]) (w2 oAdd (wVar 4) (wLst (wCons (wVar 5) wNil))))) (wIfS (wViewT (wAnd (wB (w2 (oR2 (dEq false)) (wVar 6) (wC (.int 1)))) (wB (w2 (oR2 dNeE) (w2 oIxH (wVar 3) (wVar 5)) wNewD)))) (wSeq (wSetF 7 (wView (wA (oA1 (oL1 dSort)) (wCons (w2 oIxH (wVar 3) (wVar 5)) wNil))))
  (wSeq (wSetF 8 (w2 oIxH (wVar 7) (wIO 0 2 o_grab (wCons (wFz (wA (oA1 (oR1 dLen)) (wCons (wVar 7) wNil))) wNil))))
  (wPut 3 (wView (wA (oA1 oDict) (wCons (wLcK (pIx (pVar 3) (pVar 5)) pairD (gT [(gN 11), (gN 12)]) (wB (w2 (oR2 (dEq true)) (wVar 11) (wVar 8))) (wTup (wCons (wVar 11) (wCons (wVar 12) wNil))) [11, 12]) wNil))) (wVar 5)))) (wPut2 3 (wVar 5) (wIO 0 2 o_grab (wCons (wFz (wView (wA (oA1 (oR1 dLen)) (wCons (wVar 3) wNil)))) wNil)) (w2 oIxH (wVar 2) (wIO 0 2 o_grab (wCons (wFz (wA (oA1 (oR1 dLen)) (wCons (wVar 2) wNil))) wNil))))))
  (wRet (wTup (wConsL 3 (wCons (wVar 4) wNil)))))))
end Pg
set_option Elab.async false
set_option linter.all false
set_option maxRecDepth 100000
set_option maxHeartbeats 2000000
/-! BW2: a web with one change. -/
namespace Pg
open PySem PySem.Spec PyProof.Rows L2 VL
theorem pairD_room : ∀ {r : Room1}, VL.pairD (r.map fun p => .inr p.1) (r.map fun p => D.int (p.2 : Nat)) = r.map fun p => .tup [.str p.1, .int (p.2 : Nat)]
  | [] => rfl
  | p :: r => by
    have ih := pairD_room (r := r)
    unfold VL.pairD at ih ⊢
    simp only [List.map_cons, List.zip_cons_cons, ih]
    rfl
theorem sc_strs : ∀ {l : List Str}, scL ((eStrs l).map T.fz) = true
  | [] => by simp [eStrs]
  | z :: l => by
    have ih := sc_strs (l := l)
    simp only [eStrs, List.map_cons, sc_cons, sc_str, Bool.true_and] at ih ⊢
    exact ih
theorem sp_bent_web (xs : List T) (P : T → T → Prop) (R : Exn → T → Prop) (hn : xs.length = 3) (h : o_bent_web xs P R) : w__law_bent_web (VL.startT 13 xs) (EI P R) := by
  obtain ⟨n, t, rs, es, l, rfl, jt, gd, few, over, nm, lne, ll, el, h⟩ := h
  unfold w__law_bent_web
  have elen : dLen (.lst (eStrs l)) = some (.int (l.length : Nat)) := by simp [dLen]
  have lp : 0 < l.length := List.length_pos_iff.mpr lne
  simp [eRooms]
  refine lcL_map (e := eRoom) (ms := fun r => [some t, some (.fz (eWeb rs es)), some (.fz (.lst (eStrs l))), none, none, none, none, none, none, some (.fz (eRoom r)), none, none, none]) (f := fun r => some (tRoom r)) (fun r => rfl) (fun r hr K1 K2 h => ?_) ?_ ?_
  · have nd := (gd.room r hr).2.1
    have eT : T.od (r.map fun p => .inr p.1) (r.map fun p => .fz (.int (p.2 : Nat))) = tRoom r := rfl
    simp [eRoom, dListItems, oDict, pairs_room, mrg_room (r := r) (ks := []) (l := []) (fun p _ z => (List.not_mem_nil z)) nd]
    exact h
  · simp only [List.length_nil]
    have := gd.small
    exact big_le (by omega)
  · simp only [List.nil_append, filterMap_some]
    have er1 : (tRms rs).map T.er = rs.map eRoom := by
      rw [List.map_map]
      exact List.map_congr_left fun r _ => er_room
    have dl : dItems (.lst (eInts es)) = some (eInts es) := rfl
    have fin : ∀ rs' es' t', Good rs' es' → rs'.length = rs.length → (∀ r ∈ rs', ∀ p ∈ r, p.1 ∈ l) → es'.length ≤ es.length + 1 → Jar n t' → P (.fz (.tup [.lst (rs'.map eRoom), .lst (eInts es')])) t' := fun rs' es' t' a b c d e => h rs' es' t' a b c d e
    have two : 2 ≤ sizeLine := big_le (by omega)
    have gp := gd.pos
    simp [dl, er1, dLen]
    refine ⟨n + 9, t, rs.length, rfl, jt, gp, by omega, fun at_ t1 hat j1 => ?_⟩
    refine ⟨n + 8, t1, 4, rfl, j1, by omega, by omega, fun way t2 hw j2 => ?_⟩
    have gE : ∀ es', (∀ e ∈ es', e < rs.length) → es'.length ≤ 100000 → Good rs es' := fun es' a b => ⟨gd.pos, gd.small, gd.room, a, b⟩
    have few' : ∀ r ∈ rs, ∀ p ∈ r, p.1 ∈ l := fun r hr => (over r hr).2
    simp only [sx_T_er_1, eq_int, dIn_nat]
    by_cases w0 : way = 0
    · have e0 : decide ((way : Int) = 0) = true := by rw [w0]; rfl
      simp only [e0, if_false, Bool.false_eq_true]
      by_cases hin : at_ ∈ es
      · simp only [hin, decide_true]
        refine lcL_map (e := fun (i : Nat) => D.int (i : Int)) (f := fun i => if (decide (i ≠ at_)) = true then some (.fz (.int (i : Nat))) else none)
          (ms := fun (i : Nat) => [some t2, some (.fz (eWeb rs es)), some (.fz (.lst (eStrs l))), some (.ol (List.map tRoom rs)), some (.fz (.lst (eInts es))), some (.fz (.int (at_ : Nat))), some (.fz (.int (way : Nat))), none, none, none, some (.fz (.int (i : Nat))), none, none]) (fun i => rfl) (fun i hi K1 K2 h => ?_) ?_ ?_
        · simp [eq_int]
          by_cases z : i = at_
          · have z2 : ((i : Int) = at_) := by omega
            simpa [z] using h
          · have z2 : ¬ ((i : Int) = at_) := by omega
            simpa [z, z2] using h
        · simp only [List.length_nil]
          exact big_le (by omega)
        · rw [filterMap_if]
          simp only [List.nil_append]
          have er2 : ((es.filter fun i => decide (i ≠ at_)).map fun (i : Nat) => T.fz (.int (i : Int))).map T.er = eInts (es.filter fun i => decide (i ≠ at_)) := by simp [eInts]
          rw [er2]
          have fl := List.length_filter_le (fun i => !decide (i = at_)) es
          simp [er1]
          exact ⟨two, fin rs _ t2 (gE _ (fun e he => gd.ends e (List.mem_filter.mp he).1) (by omega)) rfl (fun r hr => (few' r hr)) (by omega) (j2.less (by omega))⟩
      · simp only [hin, decide_false]
        refine ⟨by omega, ?_⟩
        refine ⟨big_le (by omega), two, ?_⟩
        have ea : eInts es ++ [D.int (at_ : Nat)] = eInts (es ++ [at_]) := by simp [eInts]
        rw [ea]
        refine fin rs _ t2 (gE _ (fun e he => ?_) (by simp; omega)) rfl few' (by simp) (j2.less (by omega))
        rcases List.mem_append.mp he with he | he
        · exact gd.ends e he
        · simp at he
          omega
    · have e0 : decide ((way : Int) = 0) = false := decide_eq_false (by omega)
      have ixr : dIx (D.lst (rs.map eRoom)) (.int (at_ : Nat)) = some (eRoom rs[at_]) := ix_rooms hat
      have hm := List.getElem_mem hat
      obtain ⟨g1, g2, g3⟩ := gd.room _ hm
      simp only [e0, if_false, Bool.false_eq_true, ixr, sx_T_er_1]
      have ene : dNeE (eRoom rs[at_]) (.dct [] []) = some (.bl (!rs[at_].isEmpty)) := by simp [dNeE, eRoom]
      have nat1 : ixN rs.length (at_ : Nat) = some at_ := by
        unfold ixN
        simp
        omega
      have setR : ∀ r' : Room1, r'.length < 64 → (r'.map (·.1)).Nodup → (∀ p ∈ r', isName p.1 = true ∧ p.2 < rs.length) → (∀ p ∈ r', p.1 ∈ l) → ∀ t', Jar n t' → P (T.fz (D.tup [D.lst ((List.map (T.er ∘ tRoom) rs).set at_ (eRoom r')), D.lst (eInts es)])) t' := fun r' a b c d t' j => by
        have e1 : List.map (T.er ∘ tRoom) rs = rs.map eRoom := List.map_congr_left fun r _ => er_room
        rw [e1, ← List.map_set]
        refine fin _ es t' ⟨by simpa using gp, by simpa using gd.small, fun r hr => ?_, fun e he => by rw [List.length_set]; exact gd.ends e he, gd.few⟩ (by simp) (fun r hr => ?_) (by omega) j
        · rw [List.length_set]
          rcases List.mem_or_eq_of_mem_set hr with hr | rfl
          · exact gd.room r hr
          · exact ⟨a, b, c⟩
        · rcases List.mem_or_eq_of_mem_set hr with hr | rfl
          · exact few' r hr
          · exact d
      have o20 := (over _ hm).1
      have last : o_grab [t2, T.fz (D.int (rs.length : Nat))] (fun t t' => match ixN rs.length (at_ : Nat) with
          | some n => match Option.map tRoom rs[n]? with
            | some (T.od ks l_1) => o_grab [t', T.fz (D.int (l.length : Nat))] (fun t_1 t' => match t_1 with
              | T.fz b => match dIx (D.lst (eStrs l)) b with
                | some d => match keyD d with
                  | some kk => ks.length < sizeLine ∧ 2 ≤ sizeLine ∧ P (T.fz (D.tup [D.lst ((List.map (T.er ∘ tRoom) rs).set n (D.dct (putL ks l_1 kk t).fst (List.map T.er (putL ks l_1 kk t).snd))), D.lst (eInts es)])) t'
                  | none => False
                | none => False
              | x => False) fun x x_1 => False
            | x => False
          | none => False) fun x x_1 => False := by
        refine ⟨n + 7, t2, rs.length, rfl, j2, gp, by omega, fun v t3 hv j3 => ?_⟩
        have er : rs[at_]? = some rs[at_] := List.getElem?_eq_getElem hat
        simp only [nat1, er, Option.map_some]
        refine ⟨n + 6, t3, l.length, rfl, j3, lp, by omega, fun d t4 hd j4 => ?_⟩
        simp only [ix_strs hd, keyD, put_room]
        have pl : (putR rs[at_] l[d] v).length ≤ rs[at_].length + 1 := ((⟨g2, fun p hp => ⟨(over _ hm).2 p hp, (g3 p hp).2⟩⟩ : RowG l rs.length rs[at_]).put (List.getElem_mem hd) hv).2
        have pg := ((⟨g2, fun p hp => ⟨(over _ hm).2 p hp, (g3 p hp).2⟩⟩ : RowG l rs.length rs[at_]).put (List.getElem_mem hd) hv).1
        have ee : D.dct (kR (putR rs[at_] l[d] v)) ((vR (putR rs[at_] l[d] v)).map T.er) = eRoom (putR rs[at_] l[d] v) := by rw [← er_room]; simp
        rw [ee]
        refine ⟨by simp only [kR, List.length_map]; exact big_lt (by omega), two, setR _ (by omega) pg.nd (fun p hp => ⟨nm _ (pg.mem p hp).1, (pg.mem p hp).2⟩) (fun p hp => (pg.mem p hp).1) _ (j4.less (by omega))⟩
      simp [ene]
      by_cases w1 : (way : Int) = 1
      · simp only [w1, decide_true]
        by_cases em : rs[at_].isEmpty = true
        · simp only [em, Bool.not_true]
          exact last
        · have em' : rs[at_].isEmpty = false := by simpa using em
          simp only [em', Bool.not_false, sort_room g1, sc_strs, true_and]
          have sl : (sS (rs[at_].map (·.1))).length = rs[at_].length := by rw [len_sS]; simp
          have rp : 0 < rs[at_].length := by
            cases hz : rs[at_] with
            | nil => rw [hz] at em'; cases em'
            | cons _ _ => simp
          have esl : (eStrs (sS (rs[at_].map (·.1)))).length = (sS (rs[at_].map (·.1))).length := by simp [eStrs]
          rw [esl]
          refine ⟨n + 7, t2, _, rfl, j2, by omega, by omega, fun g t3 hg j3 => ?_⟩
          simp only [ix_strs hg]
          have gone := mem_sS.mp (List.getElem_mem hg)
          have gs : PyData.strOk (sS (rs[at_].map (·.1)))[g] = true := by
            obtain ⟨p, hp, e⟩ := List.mem_map.mp gone
            rw [← e]
            exact strOk_name (g3 p hp).1
          generalize (sS (rs[at_].map (·.1)))[g] = d at gs ⊢
          have ep : ∀ (a b c e f h i j k : Option T), pIx (pVar 3) (pVar 5) [a, b, c, some (T.fz (D.lst (rs.map eRoom))), e, some (T.fz (D.int (at_ : Nat))), f, h, i, j, k, none, none] = some (eRoom rs[at_]) := fun a b c e f h i j k => by
            simp [pIx, pVar]
            rw [atI_nat (by simpa using hat)]
            simp
          have er0 : eRoom rs[at_] = .dct (rs[at_].map fun p => .inr p.1) (rs[at_].map fun p => .int (p.2 : Nat)) := rfl
          rw [ep, er0]
          simp only [pairD_room]
          refine lcL_map (e := fun p : Str × Nat => D.tup [.str p.1, .int (p.2 : Nat)]) (f := fun p => if (decide (p.1 ≠ d)) = true then some (.fz (.tup [.str p.1, .int (p.2 : Nat)])) else none)
            (ms := fun p => [some (T.fz t3.er), some (T.fz (eWeb rs es)), some (T.fz (D.lst (eStrs l))), some (T.fz (D.lst (rs.map eRoom))), some (T.fz (D.lst (eInts es))), some (T.fz (D.int (at_ : Nat))), some (T.fz (D.int 1)), some (T.fz (D.lst (eStrs (sS (rs[at_].map (·.1)))))), some (T.fz (.str d)), none, none, some (.fz (.str p.1)), some (.fz (.int (p.2 : Nat)))]) (fun i => rfl) (fun p hp K1 K2 h => ?_) ?_ ?_
          · have ps := strOk_name (g3 p hp).1
            simp [eq_str ps gs]
            by_cases z : p.1 = d
            · simpa [z] using h
            · simp [z] at h ⊢
              exact ⟨two, h⟩
          · simp only [List.length_nil]
            exact big_le (by omega)
          · rw [filterMap_if]
            simp only [List.nil_append]
            generalize hr' : (rs[at_].filter fun p => decide (p.1 ≠ d)) = r'
            have sub : r'.Sublist rs[at_] := hr' ▸ List.filter_sublist
            have len' := sub.length_le
            have nd' : (r'.map (·.1)).Nodup := (sub.map (·.1)).nodup g2
            have el' : (r'.map fun p => T.fz (.tup [.str p.1, .int (p.2 : Nat)])).map T.er = VL.pairD (r'.map fun p => .inr p.1) (r'.map fun p => D.int (p.2 : Nat)) := by
              rw [pairD_room, List.map_map]
              rfl
            have eo : ∀ Q : T → Prop, Q (tRoom r') → oDict (T.ol (r'.map fun p => T.fz (.tup [.str p.1, .int (p.2 : Nat)]))) Q := fun Q q => by
              unfold oDict
              simp only [sx_T_er_2, sx_erL_map, el', pairs_room, mrg_room (r := r') (ks := []) (l := []) (fun p _ z => (List.not_mem_nil z)) nd', List.nil_append, List.map_map]
              exact q
            refine eo _ ?_
            have st : scT (tRoom r') = true := by
              simp only [sc_od, vR]
              clear eo el' nd' len' sub hr'
              induction r' with
              | nil => simp
              | cons p r' ih => simpa using ih
            simp only [nat1, er_room]
            exact ⟨st, two, setR r' (by omega) nd' (fun p hp => g3 p (sub.subset hp)) (fun p hp => (over _ hm).2 p (sub.subset hp)) _ (j3.less (by omega))⟩
      · simp only [w1, decide_false]
        exact last
theorem row_few {rs : RM} {es : List Nat} {l : List Str} (g : Good rs es) (over : ∀ r ∈ rs, ∀ p ∈ r, p.1 ∈ l) : ∀ r ∈ rs, r.length ≤ l.length := fun r hr => by
  have := List.Nodup.length_le_of_subset (g.room r hr).2.1 (l₂ := l) fun d hd => by
    obtain ⟨p, hp, rfl⟩ := List.mem_map.mp hd
    exact over r hr p hp
  simpa using this
end Pg
set_option Elab.async false
set_option linter.all false
set_option maxRecDepth 100000
set_option maxHeartbeats 2000000
/-! B2: a web with each room twice: the plain law. -/
namespace Pg
open PySem PySem.Spec PyProof.Rows L2 VL
/-- a room's steps, led to either copy -/
structure CopyR (c : Nat) (r r' : Room1) : Prop where
  same : r'.map (fun p => (p.1, p.2 % c)) = r
  lt : ∀ p ∈ r', p.2 < 2 * c
theorem lookup_map2 {f : Nat → Nat} {d : Str} : ∀ {r : Room1}, (r.map fun p => (p.1, f p.2)).lookup d = (r.lookup d).map f
  | [] => rfl
  | (a, b) :: r => by
    have ih := lookup_map2 (f := f) (d := d) (r := r)
    simp only [List.map_cons, List.lookup_cons, ih]
    cases d == a <;> rfl
theorem CopyR.keys {c : Nat} {r r' : Room1} (h : CopyR c r r') : r'.map (·.1) = r.map (·.1) := by
  rw [← h.same, List.map_map]
  rfl
theorem CopyR.nil {c : Nat} : CopyR c [] [] := ⟨rfl, fun p hp => (List.not_mem_nil hp).elim⟩
theorem CopyR.snoc {c : Nat} {r r' : Room1} (h : CopyR c r r') {d : Str} {v g : Nat} (hv : v < c) (hg : g < 2) : CopyR c (r ++ [(d, v)]) (r' ++ [(d, v + c * g)]) := by
  have e : (v + c * g) % c = v := by rw [Nat.add_mul_mod_self_left, Nat.mod_eq_of_lt hv]
  refine ⟨?_, fun p hp => ?_⟩
  · rw [List.map_append, h.same]
    simp [e]
  · rcases List.mem_append.mp hp with hp | hp
    · exact h.lt p hp
    · simp at hp
      subst hp
      have : c * g ≤ c * 1 := Nat.mul_le_mul_left c (by omega)
      show v + c * g < 2 * c
      omega
/-- the copies of a web; a step more in one room, into the room behind them -/
structure Blown (rs : RM) (es : List Nat) (l : List Str) (rms : RM) (S : List Nat) : Prop where
  len : rms.length = 2 * rs.length
  row : ∀ i (h : i < rms.length), (rms[i].map (·.1)).Nodup ∧ rms[i].length ≤ 21 ∧ ∀ p ∈ rms[i], p.1 ∈ l ∧ p.2 ≤ 2 * rs.length
  look : ∀ i (h : i < rms.length) d, match rms[i].lookup d with
    | some v => (v < 2 * rs.length ∧ stepR rs (i % rs.length) d = some (v % rs.length)) ∨ (v = 2 * rs.length ∧ stepR rs (i % rs.length) d = none)
    | none => stepR rs (i % rs.length) d = none
  ends : ∀ x, x ∈ S ↔ x < 2 * rs.length ∧ x % rs.length ∈ es
  few : S.length ≤ 2 * rs.length
theorem blown_ok {rs rms : RM} {es S : List Nat} {l : List Str} {last : Room1} (g : Good rs es) (c16 : rs.length ≤ 16) (nm : Names l) (B : Blown rs es l rms S) (ls : last = [] ∨ ∃ d ∈ l, last = [(d, 0)]) :
    Good (rms ++ [[], last]) (S ++ [2 * rs.length + 1]) ∧ (rms ++ [[], last]).length = 2 * rs.length + 2 ∧ (∀ r ∈ rms ++ [[], last], ∀ p ∈ r, p.1 ∈ l) ∧ ∀ w, acc (rms ++ [[], last]) (S ++ [2 * rs.length + 1]) 0 w = acc rs es 0 w := by
  have bl := B.len
  have gp := g.pos
  have lastN : last.length < 64 ∧ (last.map (·.1)).Nodup ∧ ∀ p ∈ last, p.1 ∈ l ∧ p.2 = 0 := by
    rcases ls with rfl | ⟨d, hd, rfl⟩
    · exact ⟨by simp, by simp, fun p hp => (List.not_mem_nil hp).elim⟩
    · exact ⟨by simp, by simp, fun p hp => by simp at hp; subst hp; exact ⟨hd, rfl⟩⟩
  have over : ∀ r ∈ rms ++ [[], last], ∀ p ∈ r, p.1 ∈ l := fun r hr p hp => by
    rcases List.mem_append.mp hr with hr | hr
    · obtain ⟨i, hi, rfl⟩ := List.getElem_of_mem hr
      exact ((B.row i hi).2.2 p hp).1
    · simp at hr
      rcases hr with rfl | rfl
      · cases hp
      · exact (lastN.2.2 p hp).1
  have len : (rms ++ [[], last]).length = 2 * rs.length + 2 := by simp [bl]
  refine ⟨⟨by omega, by omega, fun r hr => ?_, fun x hx => ?_, ?_⟩, len, over, ?_⟩
  · rw [len]
    refine ⟨?_, ?_, fun p hp => ⟨nm _ (over r hr p hp), ?_⟩⟩
    all_goals
      rcases List.mem_append.mp hr with hr | hr
      · obtain ⟨i, hi, rfl⟩ := List.getElem_of_mem hr
        have := B.row i hi
        first | exact this.1 | omega | (have := (this.2.2 p hp).2; omega)
      · simp at hr
        rcases hr with rfl | rfl
        · first | simp | cases hp
        · first | exact lastN.1 | exact lastN.2.1 | (have := (lastN.2.2 p hp).2; omega)
  · rw [len]
    rcases List.mem_append.mp hx with hx | hx
    · have := (B.ends x).mp hx
      omega
    · simp at hx
      omega
  · have := B.few
    simp
    omega
  · have dead : ∀ w, acc (rms ++ [[], last]) (S ++ [2 * rs.length + 1]) (2 * rs.length) w = false := fun w => by
      cases w with
      | nil =>
        simp only [acc]
        apply decide_eq_false
        intro z
        rcases List.mem_append.mp z with z | z
        · have := (B.ends _).mp z
          omega
        · simp at z
      | cons d w =>
        simp only [acc, stepR]
        rw [List.getElem?_append_right (by omega)]
        have : 2 * rs.length - rms.length = 0 := by omega
        rw [this]
        simp
    have main : ∀ (w : List Str) (i : Nat), i < 2 * rs.length → acc (rms ++ [[], last]) (S ++ [2 * rs.length + 1]) i w = acc rs es (i % rs.length) w := by
      intro w
      induction w with
      | nil =>
        intro i hi
        simp only [acc]
        apply decide_eq_decide.mpr
        rw [List.mem_append, B.ends]
        simp
        constructor
        · rintro (z | z)
          · exact z.2
          · omega
        · exact fun z => .inl ⟨hi, z⟩
      | cons d w ih =>
        intro i hi
        have hi' : i < rms.length := by omega
        have lk := B.look i hi' d
        simp only [acc]
        have es : stepR (rms ++ [[], last]) i d = rms[i].lookup d := by
          unfold stepR
          rw [List.getElem?_append_left hi', List.getElem?_eq_getElem hi']
        rw [es]
        cases q : rms[i].lookup d with
        | none =>
          rw [q] at lk
          simp only at lk
          rw [lk]
        | some v =>
          rw [q] at lk
          simp only at lk
          rcases lk with ⟨h1, h2⟩ | ⟨h1, h2⟩
          · rw [h2]
            exact ih v h1
          · rw [h2, h1]
            exact dead w
    intro w
    rw [main w 0 (by omega), Nat.zero_mod]
end Pg
set_option Elab.async false
set_option linter.all false
set_option maxRecDepth 100000
set_option maxHeartbeats 2000000
/-! B3: blown_web keeps its promise. -/
namespace Pg
open PySem PySem.Spec PyProof.Rows L2 VL
/-- copies so far -/
structure Half (rs : RM) (es : List Nat) (rms : RM) (S : List Nat) (k : Nat) : Prop where
  len : rms.length = k
  row : ∀ i (h : i < rms.length), CopyR rs.length (rs.getD (i % rs.length) []) rms[i]
  ends : ∀ x, x ∈ S ↔ x < k ∧ x % rs.length ∈ es
  few : S.length ≤ k
theorem Half.next {rs rms : RM} {es S : List Nat} {k : Nat} (h : Half rs es rms S k) (hk : k < 2 * rs.length) {r' : Room1} (hr : CopyR rs.length (rs.getD (k % rs.length) []) r') {S' : List Nat} (hS : S' = S ++ (if k % rs.length ∈ es then [k] else [])) : Half rs es (rms ++ [r']) S' (k + 1) := by
  refine ⟨by simp [h.len], fun i hi => ?_, fun x => ?_, ?_⟩
  · by_cases z : i < rms.length
    · rw [List.getElem_append_left z]
      exact h.row i z
    · have e : i = rms.length := by simp at hi; omega
      subst e
      rw [List.getElem_append_right (Nat.le_refl _)]
      simp only [Nat.sub_self, List.getElem_cons_zero]
      rw [h.len]
      exact hr
  · rw [hS, List.mem_append, h.ends]
    by_cases z : k % rs.length ∈ es
    · rw [if_pos z]
      simp
      constructor
      · rintro (y | rfl)
        · exact ⟨by omega, y.2⟩
        · exact ⟨by omega, z⟩
      · rintro ⟨y1, y2⟩
        by_cases e : x = k
        · exact .inr e
        · exact .inl ⟨by omega, y2⟩
    · rw [if_neg z]
      simp
      intro y2
      refine ⟨fun y => by omega, fun y => ?_⟩
      by_cases e : x = k
      · subst e
        exact (z y2).elim
      · omega
  · rw [hS]
    have := h.few
    split <;> simp <;> omega
abbrev blSt (t : T) (rs : RM) (es : List Nat) (rms : RM) (S : List Nat) (o5 o6 o7 o8 o9 o10 o11 o12 : Option T) : Tau := [some t, some (.fz (eWeb rs es)), some (.fz (.int (rs.length : Nat))), some (.ol (tRms rms)), some (.ol (tInts S)), o5, o6, o7, o8, o9, o10, o11, o12]
def blT (n : Nat) (rs : RM) (es : List Nat) (k : Nat) (m : Tau) : Prop := ∃ (t : T) (rms : RM) (S : List Nat) (o5 o7 o8 o10 o11 o12 : Option T), m = blSt t rs es rms S o5 none o7 o8 none o10 o11 o12 ∧
  Jar (n + 10 + (2 - k) * 400) t ∧ Half rs es rms S (k * rs.length)
def blA (n : Nat) (rs : RM) (es : List Nat) (turn k : Nat) (m : Tau) : Prop := ∃ (t : T) (rms : RM) (S : List Nat) (o7 o8 o10 o11 o12 : Option T), m = blSt t rs es rms S (some (.fz (.int (turn : Nat)))) none o7 o8 none o10 o11 o12 ∧
  Jar (n + (20 - k) * 20) t ∧ Half rs es rms S (turn * rs.length + k)
def blR (n : Nat) (rs : RM) (es : List Nat) (rms : RM) (S : List Nat) (turn at_ : Nat) (r : Room1) (k : Nat) (m : Tau) : Prop := ∃ (t : T) (r' : Room1) (o11 o12 : Option T), m = blSt t rs es rms S (some (.fz (.int (turn : Nat)))) none (some (.fz (eRoom r))) (some (.fz (.int (at_ : Nat)))) none (some (tRoom r')) o11 o12 ∧
  Jar (n + (20 - k)) t ∧ CopyR rs.length (r.take k) r'
theorem enumD_at {ds : List D} {i : Nat} (h : i < (enumD ds).length) : (enumD ds)[i] = .tup [.int (i : Nat), ds[i]'(by rw [enumD_len] at h; exact h)] := by
  have e : (enumD ds)[i]? = some (enumD ds)[i] := List.getElem?_eq_getElem h
  obtain ⟨d, e1, e2⟩ := enumD_get e
  rw [e2]
  have := (List.getElem?_eq_some_iff.mp e1).2
  rw [this]
theorem bits_lt {v : Nat} (h : v < 1024) : bits (v : Int) ≤ 10 := bits_of (by
  simp
  omega)
theorem flat_strs {l : List Str} : (eStrs l).all flatD = true := by
  rw [List.all_eq_true]
  intro x hx
  obtain ⟨i, _, rfl⟩ := List.mem_map.mp hx
  simp [flatD]
theorem dIn_strs {neg : Bool} {d : Str} {l : List Str} : dIn neg (.str d) (.lst (eStrs l)) = some (.bl (if neg then !decide (d ∈ l) else decide (d ∈ l))) := by
  have : inD (.str d) (eStrs l) = decide (d ∈ l) := by
    unfold inD eStrs
    induction l with
    | nil => simp
    | cons a l ih =>
      simp only [List.map_cons, List.any_cons, ih, eqD]
      by_cases e : d = a
      · subst e
        simp
      · have e4 : ¬ a = d := fun z => e z.symm
        have e3 : (a == d) = false := by simpa using e4
        simp only [eqD] at ih
        rw [e3, Bool.false_or, ih]
        simp [e]
  unfold dIn
  simp only
  rw [flat_strs]
  simp [flatD, this]
theorem half_look {rs rms : RM} {es S : List Nat} (gp : 0 < rs.length) (h : Half rs es rms S (2 * rs.length)) {i : Nat} (hi : i < rms.length) (d : Str) : (rms[i].lookup d).map (· % rs.length) = stepR rs (i % rs.length) d := by
  have c := (h.row i hi).same
  have m := Nat.mod_lt i gp
  rw [stepR_at m]
  rw [List.getD_eq_getElem?_getD, List.getElem?_eq_getElem m] at c
  rw [← lookup_map2, c]
  rfl
theorem half_blown {rs rms : RM} {es S : List Nat} {l : List Str} (g : Good rs es) (over : ∀ r ∈ rs, r.length ≤ 20 ∧ ∀ p ∈ r, p.1 ∈ l) (h : Half rs es rms S (2 * rs.length)) : Blown rs es l rms S := by
  have row : ∀ i (hi : i < rms.length), (rms[i].map (·.1)).Nodup ∧ rms[i].length ≤ 20 ∧ ∀ p ∈ rms[i], p.1 ∈ l ∧ p.2 < 2 * rs.length := fun i hi => by
    have c := h.row i hi
    have m := Nat.mod_lt i g.pos
    rw [List.getD_eq_getElem?_getD, List.getElem?_eq_getElem m] at c
    have hm := List.getElem_mem m
    have ck := c.keys
    have ov := over _ hm
    refine ⟨by rw [ck]; exact (g.room _ hm).2.1, ?_, fun p hp => ⟨?_, c.lt p hp⟩⟩
    · have := congrArg List.length ck
      simp at this
      have := ov.1
      omega
    · have : p.1 ∈ rms[i].map (·.1) := List.mem_map_of_mem hp
      rw [ck] at this
      obtain ⟨q, hq, e⟩ := List.mem_map.mp this
      rw [← e]
      exact ov.2 q hq
  refine ⟨h.len, fun i hi => ⟨(row i hi).1, by have := (row i hi).2.1; omega, fun p hp => ⟨((row i hi).2.2 p hp).1, by have := ((row i hi).2.2 p hp).2; omega⟩⟩, fun i hi d => ?_, h.ends, h.few⟩
  have lk := half_look g.pos h hi d
  cases q : rms[i].lookup d with
  | none =>
    rw [q] at lk
    exact lk.symm
  | some v =>
    rw [q] at lk
    exact .inl ⟨((row i hi).2.2 _ (lookup_mem q)).2, lk.symm⟩
theorem blown_add {rs rms : RM} {es S : List Nat} {l : List Str} (B : Blown rs es l rms S) {a : Nat} (ha : a < rms.length) {d : Str} (hd : d ∈ l) (fresh : d ∉ rms[a].map (·.1)) (len : rms[a].length ≤ 20) : Blown rs es l (rms.set a (rms[a] ++ [(d, 2 * rs.length)])) S := by
  refine ⟨by simp [B.len], fun i hi => ?_, fun i hi e => ?_, B.ends, B.few⟩
  · rw [List.length_set] at hi
    rw [List.getElem_set]
    split
    · refine ⟨?_, by simp; omega, fun p hp => ?_⟩
      · rw [List.map_append, List.nodup_append]
        exact ⟨(B.row a ha).1, by simp, fun x hx y hy => by
          simp at hy
          subst hy
          exact fun z => fresh (z ▸ hx)⟩
      · rcases List.mem_append.mp hp with hp | hp
        · exact (B.row a ha).2.2 p hp
        · simp at hp
          subst hp
          exact ⟨hd, Nat.le_refl _⟩
    · exact B.row i hi
  · rw [List.length_set] at hi
    rw [List.getElem_set]
    have old := B.look i hi e
    by_cases ai : a = i
    · subst ai
      simp only [if_true]
      have app : ∀ r : Room1, (r ++ [(d, 2 * rs.length)]).lookup e = (r.lookup e).or (if e = d then some (2 * rs.length) else none) := fun r => by
        induction r with
        | nil =>
          simp only [List.nil_append, List.lookup_cons, List.lookup_nil, Option.none_or]
          by_cases z : e = d
          · simp [z]
          · have : (e == d) = false := by simpa using z
            rw [this, if_neg z]
        | cons p r ih =>
          obtain ⟨x, y⟩ := p
          simp only [List.cons_append, List.lookup_cons]
          cases e == x
          · exact ih
          · rfl
      rw [app]
      cases q : rms[a].lookup e with
      | some v =>
        rw [q] at old
        exact old
      | none =>
        rw [q] at old
        simp only [Option.none_or]
        by_cases z : e = d
        · rw [if_pos z]
          exact .inr ⟨rfl, old⟩
        · rw [if_neg z]
          exact old
    · simp only [if_neg ai]
      exact old
theorem cut_one {ds : List Str} : cutL (eStrs ds) none (some 1) = eStrs (ds.take 1) := by
  have h : cutL (eStrs ds) none (some ((1 : Nat) : Int)) = eStrs (ds.take 1) := by
    unfold cutL
    rw [HT.sIx_nat, HT.sIx_none]
    cases ds with
    | nil => simp [eStrs]
    | cons d ds => simp [eStrs]
  exact h
theorem lc_first {a0 a1 a2 a3 a4 a5 a6 a7 a8 a9 a10 a12 : Option T} {ds : List Str} {K : List T → Tau → Prop} (two : 2 ≤ sizeLine) (h : K ((ds.take 1).map fun d => T.fz (.tup [.str d, .int 0])) [a0, a1, a2, a3, a4, a5, a6, a7, a8, a9, a10, none, a12]) :
    wLcL (gN 11) wYes (wTup (wCons (wVar 11) (wCons (wC (.int 0)) wNil))) [11] (cutL (eStrs ds) none (some 1)) [] [a0, a1, a2, a3, a4, a5, a6, a7, a8, a9, a10, none, a12] K := by
  rw [cut_one]
  cases ds with
  | nil =>
    unfold wLcL
    exact h
  | cons d ds =>
    have e : eStrs ((d :: ds).take 1) = [.str d] := by simp [eStrs]
    rw [e]
    unfold wLcL
    simp
    refine ⟨two, by omega, ?_⟩
    unfold wLcL
    simpa using h
theorem dict_first {ds : List Str} {Q : T → Prop} (h : Q (tRoom ((ds.take 1).map fun d => (d, 0)))) : oDict (.ol ((ds.take 1).map fun d => T.fz (.tup [.str d, .int 0]))) Q := by
  have el : ((ds.take 1).map fun d => T.fz (.tup [.str d, .int 0])).map T.er = VL.pairD (((ds.take 1).map fun d => (d, 0)).map fun p : Str × Nat => .inr p.1) (((ds.take 1).map fun d => (d, 0)).map fun p : Str × Nat => D.int (p.2 : Nat)) := by
    rw [pairD_room]
    simp only [List.map_map]
    rfl
  have nd : (((ds.take 1).map fun d => (d, 0)).map fun p : Str × Nat => p.1).Nodup := by
    cases ds <;> simp
  unfold oDict
  simp only [sx_T_er_2, sx_erL_map, el, pairs_room, mrg_room (ks := []) (l := []) (fun p _ z => (List.not_mem_nil z)) nd, List.nil_append]
  have e2 : (((ds.take 1).map fun d => (d, 0)).map (fun p : Str × Nat => D.int (p.2 : Nat))).map T.fz = vR ((ds.take 1).map fun d => (d, 0)) := by
    simp only [vR, List.map_map]
    rfl
  rw [e2]
  exact h
theorem sp_blown_web (xs : List T) (P : T → T → Prop) (R : Exn → T → Prop) (hn : xs.length = 2) (h : o_blown_web xs P R) : w__law_blown_web (VL.startT 13 xs) (EI P R) := by
  obtain ⟨n, t, rs, es, l, rfl, jt, gd, c16, over, ll, el, nm, h⟩ := h
  have gp := gd.pos
  unfold w__law_blown_web
  have elen : dLen (eRooms rs) = some (.int (rs.length : Nat)) := by simp [dLen, eRooms]
  have elen : dLen (eRooms rs) = some (.int (rs.length : Nat)) := by simp [dLen, eRooms]
  have w0 : dIx (eWeb rs es) (.int 0) = some (eRooms rs) := ix_web0
  have w1 : dIx (eWeb rs es) (.int 1) = some (.lst (eInts es)) := ix_web1
  simp [elen]
  refine forL_at (blT n rs es) ?_ ?_ ⟨t, [], [], _, _, _, _, _, _, rfl, jt.less (by omega), ⟨by simp, fun i hi => absurd hi (Nat.not_lt_zero _), fun x => by simp, by simp⟩⟩
  · rintro turn ht m ⟨t, rms, S, o5, o7, o8, o10, o11, o12, rfl, jt, H⟩ E' h1 h2 h3 h4 h5
    rw [rngD_at ht]
    rw [rngD_len] at ht
    simp [eRooms]
    have t2 : 2 - turn = 2 - (turn + 1) + 1 := by omega
    have tc : (turn + 1) * rs.length = turn * rs.length + rs.length := by rw [Nat.add_mul, Nat.one_mul]
    have tm : turn * rs.length ≤ 1 * rs.length := Nat.mul_le_mul_right _ (by omega)
    refine forL_at (blA (n + 10 + (2 - (turn + 1)) * 400) rs es turn) ?_ ?_ ⟨t, rms, S, _, _, _, _, _, rfl, jt.less (by omega), H⟩
    · clear H jt
      rintro at_ ha m ⟨t, rms, S, o7, o8, o10, o11, o12, rfl, jt, H⟩ E2 g1 g2 g3 g4 g5
      have ha' : at_ < rs.length := by simpa [enumD_len] using ha
      rw [enumD_at ha]
      have er : (rs.map eRoom)[at_]'(by simpa using ha') = eRoom rs[at_] := by simp
      rw [er]
      have hm := List.getElem_mem ha'
      have o20 := (over _ hm).1
      have mod : (turn * rs.length + at_) % rs.length = at_ := by rw [Nat.add_comm, Nat.add_mul_mod_self_right, Nat.mod_eq_of_lt ha']
      have getD : rs.getD ((turn * rs.length + at_) % rs.length) [] = rs[at_] := by rw [mod, List.getD_eq_getElem?_getD, List.getElem?_eq_getElem ha']; rfl
      have j20 : 20 - at_ = 20 - (at_ + 1) + 1 := by omega
      obtain ⟨q1, q2, q3⟩ := gd.room _ hm
      have gD2 := getD
      generalize hr : rs[at_] = r at gD2 q1 q2 q3 o20 hm
      have ep : ∀ m7 : Tau, m7[7]? = some (some (.fz (eRoom r))) → pVar 7 m7 = some (eRoom r) := fun m7 e => by simp [pVar, e]
      simp [eRoom, pairD_room]
      refine forL_at (blR (n + 10 + (2 - (turn + 1)) * 400 + (20 - (at_ + 1)) * 20) rs es rms S turn at_ r) ?_ ?_ ⟨t, [], _, _, rfl, jt.less (by omega), CopyR.nil⟩
      · rintro k hk m ⟨t, r', o11, o12, rfl, jt, H2⟩ E3 f1 f2 f3 f4 f5
        have hk' : k < r.length := by simpa using hk
        have ek : (r.map fun p => D.tup [.str p.1, .int (p.2 : Nat)])[k] = .tup [.str r[k].1, .int (r[k].2 : Nat)] := by simp
        rw [ek]
        have k20 : 20 - k = 20 - (k + 1) + 1 := by omega
        obtain ⟨n1, n2⟩ := q3 _ (List.getElem_mem hk')
        have fresh : r[k].1 ∉ r'.map (·.1) := by
          rw [H2.keys]
          intro z
          obtain ⟨p, hp, e⟩ := List.mem_map.mp z
          obtain ⟨i, hi, rfl⟩ := List.mem_take_iff_getElem.mp hp
          have e1 : (r.map (·.1))[i]'(by simp; omega) = (r.map (·.1))[k]'(by simpa using hk') := by simpa using e
          have := (List.getElem_inj q2).mp e1
          omega
        have len' : r'.length = k := by
          have := congrArg List.length H2.keys
          simp at this
          omega
        have tk : r.take (k + 1) = r.take k ++ [(r[k].1, r[k].2)] := List.take_succ_eq_append_getElem hk'
        generalize r[k].1 = d at n1 fresh tk ⊢
        generalize r[k].2 = v at n2 tk ⊢
        simp
        refine ⟨n + 10 + (2 - (turn + 1)) * 400 + (20 - (at_ + 1)) * 20 + (20 - (k + 1)), t, 2, rfl, jt.less (by omega), by omega, by omega, fun g t2 hg j2 => ?_⟩
        simp
        have cb : CMulB (rs.length : Nat) (g : Nat) := by
          unfold CMulB
          have b1 := bits_lt (v := rs.length) (by omega)
          have b2 := bits_lt (v := g) (by omega)
          omega
        have kl : (kR r').length < sizeLine := by simp only [kR, List.length_map]; exact big_lt (by omega)
        have ev : (v : Int) + (rs.length : Nat) * (g : Nat) = ((v + rs.length * g : Nat) : Int) := by simp
        rw [ev]
        simp only [keyD, put_room]
        have epr : putR r' d (v + rs.length * g) = r' ++ [(d, v + rs.length * g)] := by
          unfold putR
          rw [if_neg fresh]
        rw [epr]
        refine ⟨cb, kl, f1 _ ⟨t2, _, _, _, rfl, j2, ?_⟩⟩
        rw [tk]
        exact H2.snoc n2 hg
      · rintro m ⟨t, r', o11, o12, rfl, jt, H2⟩
        have el : (r.map fun p => D.tup [.str p.1, .int (p.2 : Nat)]).length = r.length := by simp
        rw [el] at jt H2
        rw [List.take_length] at H2
        have fl : (tRms rms).length < sizeLine := by
          have := H.len
          simp
          exact big_lt (by omega)
        have sl : (tInts S).length < sizeLine := by
          have := H.few
          simp [tInts]
          exact big_lt (by omega)
        have cb : CMulB (turn : Nat) (rs.length : Nat) := by
          unfold CMulB
          have b1 := bits_lt (v := rs.length) (by omega)
          have b2 := bits_lt (v := turn) (by omega)
          omega
        have et : tRms rms ++ [tRoom r'] = tRms (rms ++ [r']) := by simp
        have fl2 : (tInts S).length < sizeLine := sl
        have ei : ((turn : Nat) : Int) * (rs.length : Nat) + (at_ : Nat) = ((turn * rs.length + at_ : Nat) : Int) := by simp
        have jn : Jar (n + 10 + (2 - (turn + 1)) * 400 + (20 - (at_ + 1)) * 20) t := jt.less (by omega)
        have klt : turn * rs.length + at_ < 2 * rs.length := by omega
        have hr2 : CopyR rs.length (rs.getD ((turn * rs.length + at_) % rs.length) []) r' := by
          rw [gD2]
          exact H2
        simp [w1, dIn_nat]
        rw [ei, et]
        refine ⟨by simpa using fl, ?_⟩
        by_cases hin : at_ ∈ es
        · simp only [hin, decide_true]
          have es1 : tInts S ++ [T.fz (.int ((turn * rs.length + at_ : Nat) : Int))] = tInts (S ++ [turn * rs.length + at_]) := by simp [tInts]
          rw [es1]
          exact ⟨cb, sl, g1 _ ⟨t, _, _, _, _, _, _, _, rfl, jn, by
            rw [← Nat.add_assoc]
            exact H.next klt hr2 (by rw [mod, if_pos hin])⟩⟩
        · simp only [hin, decide_false]
          exact g1 _ ⟨t, _, _, _, _, _, _, _, rfl, jn, by
            rw [← Nat.add_assoc]
            exact H.next klt hr2 (by rw [mod, if_neg hin, List.append_nil])⟩
    · rintro m ⟨t, rms, S, o7, o8, o10, o11, o12, rfl, jt, H⟩
      rw [enumD_len, List.length_map] at jt H
      refine h1 _ ⟨t, rms, S, _, _, _, _, _, _, rfl, jt.less (by omega), by rw [tc]; exact H⟩
  · rintro m ⟨t, rms, S, o5, o7, o8, o10, o11, o12, rfl, jt, H⟩
    rw [rngD_len] at jt H
    simp [eRooms]
    refine forL_at (fun k m => ∃ (ds : List Str) (o7 o11 : Option T), m = blSt t rs es rms S o5 (some (.fz (.lst (eStrs ds)))) o7 o8 none o10 o11 o12 ∧ ds.Nodup ∧ ∀ d ∈ ds, d ∈ l ∧ isName d = true) ?_ ?_ ⟨[], _, _, rfl, List.nodup_nil, fun d hd => (List.not_mem_nil hd).elim⟩
    · rintro k hk m ⟨ds, o7, o11, rfl, nd, dl⟩ E2 g1 g2 g3 g4 g5
      have hk' : k < rs.length := by simpa using hk
      have ek : (rs.map eRoom)[k] = eRoom rs[k] := by simp
      rw [ek]
      have hm := List.getElem_mem hk'
      obtain ⟨q1, q2, q3⟩ := gd.room _ hm
      have ov := (over _ hm).2
      generalize rs[k] = r at hm q1 q2 q3 ov
      have dnames : ∀ d ∈ ds, PyData.strOk d = true := fun d hd => strOk_name (dl d hd).2
      have rnames : ∀ p ∈ r, PyData.strOk p.1 = true := fun p hp => strOk_name (q3 p hp).1
      have dlen : ds.length ≤ 20 := by
        have := List.Nodup.length_le_of_subset nd (l₂ := l) fun d hd => (dl d hd).1
        omega
      simp
      have er : eRoom r = .dct (r.map fun p => .inr p.1) (r.map fun p => .int (p.2 : Nat)) := rfl
      rw [er]
      simp only [List.map_map]
      have ek2 : r.map (kD ∘ fun p => (Sum.inr p.1 : Key)) = (r.map (·.1)).map D.str := by
        rw [List.map_map]
        rfl
      rw [ek2]
      refine lcL_map (e := D.str) (f := fun d => if (!decide (d ∈ ds)) = true then some (.fz (.str d)) else none)
        (ms := fun d => blSt t rs es rms S o5 (some (.fz (.lst (eStrs ds)))) (some (.fz (eRoom r))) o8 none o10 (some (.fz (.str d))) o12) (fun i => rfl) (fun d hd K1 K2 h => ?_) ?_ ?_
      · simp [dIn_strs]
        by_cases z : d ∈ ds
        · simp [z] at h ⊢
          exact h
        · simp [z] at h ⊢
          exact h
      · simp
        exact big_le (by omega)
      · rw [filterMap_if]
        have fl := List.length_filter_le (fun d => !decide (d ∈ ds)) (r.map (·.1))
        rw [List.length_map] at fl
        simp
        have e1 : eStrs ds ++ List.map D.str (List.filter (fun d => !decide (d ∈ ds)) (r.map (·.1))) = eStrs (ds ++ List.filter (fun d => !decide (d ∈ ds)) (r.map (·.1))) := by simp [eStrs]
        rw [e1]
        refine ⟨big_le (by omega), g1 _ ⟨_, _, _, rfl, ?_, fun d hd => ?_⟩⟩
        · rw [List.nodup_append]
          refine ⟨nd, q2.filter _, fun a ha b hb e => ?_⟩
          subst e
          have := (List.mem_filter.mp hb).2
          simp [ha] at this
        · rcases List.mem_append.mp hd with hd | hd
          · exact dl d hd
          · obtain ⟨p, hp, rfl⟩ := List.mem_map.mp (List.mem_filter.mp hd).1
            exact ⟨ov p hp, (q3 p hp).1⟩
    · rintro m ⟨ds, o7, o11, rfl, nd, dl⟩
      have dlen : ds.length ≤ 20 := by
        have := List.Nodup.length_le_of_subset nd (l₂ := l) fun d hd => (dl d hd).1
        omega
      have cb : CMulB 2 (rs.length : Nat) := by
        unfold CMulB
        have b1 := bits_lt (v := rs.length) (by omega)
        have b2 := bits_lt (v := 2) (by omega)
        have e2 : bits 2 ≤ 10 := b2
        omega
      have e2c : (2 : Int) * (rs.length : Nat) = ((2 * rs.length : Nat) : Int) := by simp
      simp
      rw [e2c]
      refine ⟨cb, n + 5, t, 2 * rs.length, rfl, jt.less (by omega), by omega, by omega, fun at_ t2 hat j2 => ?_⟩
      have hl := H.len
      have hat' : at_ < rms.length := by omega
      have er1 : (tRms rms).map T.er = rms.map eRoom := by
        rw [List.map_map]
        exact List.map_congr_left fun r _ => er_room
      have ixr : dIx (D.lst (rms.map eRoom)) (.int (at_ : Nat)) = some (eRoom rms[at_]) := ix_rooms hat'
      have row := H.row at_ hat'
      refine lcL_map (e := D.str) (f := fun d => if (!decide (d ∈ rms[at_].map (·.1))) = true then some (.fz (.str d)) else none)
        (ms := fun d => blSt t2 rs es rms S o5 (some (.fz (.lst (eStrs ds)))) o7 (some (.fz (.int (at_ : Nat)))) none o10 (some (.fz (.str d))) o12) (fun i => rfl) (fun d hd K1 K2 h => ?_) ?_ ?_
      · have hin : dIn true (.str d) (eRoom rms[at_]) = some (.bl (!decide (d ∈ rms[at_].map (·.1)))) := by
          unfold eRoom dIn
          simp only [keyD]
          have := memK_kR (r := rms[at_]) (d := d)
          unfold kR at this
          rw [this]
          simp
        simp [er1, ixr, hin]
        by_cases z : d ∈ rms[at_].map (·.1)
        · simp only [z, decide_true, Bool.not_true] at h ⊢
          exact h
        · simp only [z, decide_false, Bool.not_false] at h ⊢
          exact h
      · simp
        exact big_le (by omega)
      · rw [filterMap_if]
        have two : 2 ≤ sizeLine := big_le (by omega)
        have dnames : ∀ d ∈ ds, PyData.strOk d = true := fun d hd => strOk_name (dl d hd).2
        have nat1 : ixN rms.length (at_ : Nat) = some at_ := ixN_nat hat'
        generalize hL : ds.filter (fun d => !decide (d ∈ rms[at_].map (·.1))) = L0
        have lsub : ∀ d ∈ L0, d ∈ ds ∧ d ∉ rms[at_].map (·.1) := fun d hd => by
          rw [← hL] at hd
          have := List.mem_filter.mp hd
          exact ⟨this.1, by simpa using this.2⟩
        have eqL : dEq true (D.lst (List.map D.str L0)) (D.lst []) = some (.bl (!decide (L0 = []))) := by
          have := eq_strs (neg := true) (a := L0) (b := []) (fun z hz => dnames z (lsub z hz).1) (fun z hz => (List.not_mem_nil hz).elim)
          simpa [eStrs] using this
        have B := half_blown gd over H
        have lastOk : (ds.take 1).map (fun d => (d, 0)) = [] ∨ ∃ d ∈ l, (ds.take 1).map (fun d => (d, 0)) = [(d, 0)] := by
          cases hds : ds with
          | nil => exact .inl rfl
          | cons d ds' => exact .inr ⟨d, (dl d (by rw [hds]; simp)).1, rfl⟩
        have es2 : (tInts S).map T.er = eInts S := er_tInts
        have fin2 : ∀ rms' : RM, Blown rs es l rms' S → P (T.fz (.tup [.lst (rms'.map eRoom ++ [.dct [] [], eRoom ((ds.take 1).map fun d => (d, 0))]), .lst (eInts S ++ [.int ((2 : Int) * (rs.length : Nat) + 1)])])) t2 := fun rms' B' => by
          obtain ⟨b1, b2, b3, b4⟩ := blown_ok gd c16 nm B' lastOk
          have := h _ _ t2 b1 b2 b3 b4 (j2.less (by omega))
          simpa [eWeb, eRooms, eInts, eRoom] using this
        have sl : S.length ≤ 32 := by have := H.few; omega
        have scI : scL (tInts S ++ [T.fz (.int ((2 : Int) * (rs.length : Nat) + 1))]) = true := by
          have gen : ∀ (l : List Nat) (x : T), scT x = true → scL (tInts l ++ [x]) = true := fun l x hx => by
            induction l with
            | nil => simp [tInts, hx]
            | cons a l ih => simpa [tInts] using ih
          exact gen S _ (by simp)
        have eS : (eInts S).map T.fz = tInts S := by simp [eInts, tInts]
        have er7 : (List.map (T.er ∘ tRoom) rms) = rms.map eRoom := List.map_congr_left fun r _ => er_room
        have e1 : List.map (T.er ∘ T.fz ∘ T.er ∘ tRoom) rms = rms.map eRoom := List.map_congr_left fun r _ => er_room
        have e3 : ∀ X : Room1, D.dct (kR X) ((vR X).map T.er) = eRoom X := fun X => by rw [← er_room]; simp
        have lI : (tInts S).length + 1 ≤ sizeLine := by
          simp [tInts]
          exact big_le (by omega)
        simp [eqL]
        by_cases z : L0 = []
        · simp only [z, decide_true, Bool.not_true]
          refine lc_first two ?_
          refine dict_first ?_
          simp [es2, eS]
          refine ⟨two, big_le (by omega), cb, by omega, lI, scI, two, ?_⟩
          rw [e1, e3, ← List.map_take]
          exact fin2 rms B
        · obtain ⟨d, L1, hL1⟩ := List.exists_cons_of_ne_nil z
          obtain ⟨dd, df⟩ := lsub d (by rw [hL1]; simp)
          have rl : rms[at_].length ≤ 20 := by
            have ck := row.keys
            have := congrArg List.length ck
            rw [List.length_map, List.length_map] at this
            rw [this, List.getD_eq_getElem?_getD, List.getElem?_eq_getElem (Nat.mod_lt _ gp)]
            exact (over _ (List.getElem_mem (Nat.mod_lt at_ gp))).1
          have B2 := blown_add B hat' (dl d dd).1 df rl
          have i0 : dIx (D.lst (List.map D.str L0)) (.int 0) = some (.str d) := by
            have := ix_strs (l := L0) (i := 0) (by rw [hL1]; simp)
            simpa [eStrs, hL1] using this
          have er : rms[at_]? = some rms[at_] := List.getElem?_eq_getElem hat'
          have epr : putR rms[at_] d (2 * rs.length) = rms[at_] ++ [(d, 2 * rs.length)] := by
            unfold putR
            rw [if_neg df]
          have kl : (kR rms[at_]).length < sizeLine := by simp only [kR, List.length_map]; exact big_lt (by omega)
          have e2i : (2 : Int) * (rs.length : Nat) = ((2 * rs.length : Nat) : Int) := by simp
          simp only [z, decide_false, Bool.not_false, nat1, er, Option.map_some, i0, keyD]
          rw [e2i]
          simp only [put_room, epr]
          refine ⟨cb, kl, ?_⟩
          refine lc_first two ?_
          refine dict_first ?_
          simp [es2, eS]
          refine ⟨two, big_le (by omega), cb, by omega, lI, scI, two, ?_⟩
          rw [e1, e3, e3, ← List.map_take, ← List.map_set]
          exact fin2 _ B2
end Pg
set_option Elab.async false
set_option linter.all false
set_option maxRecDepth 100000
set_option maxHeartbeats 4000000
/-! VL32: sorted(x) of data of any kind that can be compared. -/
namespace VL
open PySem PySem.Spec PyProof.Rows L2
/-- sorted(xs), xs a list of data -/
def rSortG (K : PySem.W.Frag) : List V → Hp → VK → Prop := fun vs H Q => ∃ (a : Addr) (zs : List (V × PyData)), vs = [V.ref a] ∧ SqL K H a (zs.map (·.1)) ∧ DpAll K H (zs.map (·.1)) (zs.map (·.2)) ∧ PySem.W.AllAlike (zs.map (·.2)) ∧ PySem.W.Sortable (zs.map (·.2)) ∧ (∀ z ∈ zs, z.2.depth ≤ 60) ∧
  ∀ p, H p = none → Q (.ref p) (upd H p (.lst ((zs.mergeSort (PySem.W.dataLe false fun z => z.2)).map (·.1))))
theorem each_vals {zs : List (V × PyData)} : ∀ {us : List Value}, Vals (zs.map (·.1)) us → PySem.W.EachIs (fun (u : Value) (z : V × PyData) => RelV z.1 u) us zs := by
  induction zs with
  | nil =>
    intro us h
    cases h
    exact .nil
  | cons z zs ih =>
    intro us h
    cases h with
    | cons h1 h2 => exact .cons h1 (ih h2)
theorem vals_each {zs : List (V × PyData)} : ∀ {us : List Value}, PySem.W.EachIs (fun (u : Value) (z : V × PyData) => RelV z.1 u) us zs → Vals (zs.map (·.1)) us := by
  induction zs with
  | nil =>
    intro us h
    cases h
    exact .nil
  | cons z zs ih =>
    intro us h
    cases h with
    | cons h1 h2 => exact .cons h1 (ih h2)
theorem each_reads {X : Cx} {pins : List (Addr × Obj)} {σ : L2.St} {H : Hp} {s : Shared} (I : Inv X pins σ H s) : ∀ {zs : List (V × PyData)} {us : List Value}, Vals (zs.map (·.1)) us → DpAll X.K H (zs.map (·.1)) (zs.map (·.2)) → PySem.W.EachIs (fun (u : Value) (z : V × PyData) => ∃ as, PySem.Reads s.heap u z.2 as) us zs
  | [], us, h, _ => by
    cases h
    exact .nil
  | z :: zs, us, h, d => by
    cases h with
    | cons h1 h2 =>
      cases d with
      | cons d1 d2 => exact .cons (Dp.reads I _ _ _ d1 h1) (each_reads I h2 d2)
theorem cr_sortG {X : Cx} (hu : X.A.units + 64 < cLine) : CallR X (.builtin "sorted") (rSortG X.K) := by
  intro pins s σ H vs us Q I r h
  obtain ⟨a, zs, rfl, hs, hd, hal, hk, dp, q⟩ := h
  obtain ⟨its, rv, hl, hz⟩ := I.list hs
  rw [Vals.ref1 r]
  rw [List.length_map] at hz
  refine PySem.W.sorted_data (enc := fun z : V × PyData => z.2) hl.isList (each_vals rv) (each_reads I rv hd) hal hk hz (fun z hm => by have := dp z hm; omega) fun out h1 h2 => ?_
  obtain ⟨ep, he'⟩ := PyProof.Rows.sortedAll_at s.heap its out.toArray
  have hlen : ((zs.mergeSort (PySem.W.dataLe false fun z => z.2)).map (·.1)).length ≤ sizeLine := by
    rw [List.length_map, List.length_mergeSort]
    exact hz
  exact ⟨.ref _, upd H (s.heap.objs.size + 1) (.lst ((zs.mergeSort (PySem.W.dataLe false fun z => z.2)).map (·.1))), I.laid (t' := s.toks) (fun _ _ => PyProof.Rows.sortedAll_old) (Nat.le_succ _) ⟨hlen, out, ep, vals_each h2, he'⟩, rfl, q _ (I.hok.fresh (Nat.le_succ _))⟩
/-- what frozen data is for the library -/
def pyF (d : D) : PyData := (pyD d).getD .none
def isTup1 : PyData → Bool
  | .tuple (_ :: _) => true
  | _ => false
def isOther : PyData → Bool
  | .tuple _ => false
  | .none => false
  | _ => true
def sortableB (ps : List PyData) : Bool := (ps.all isTup1 || ps.all isOther) && (ps.all fun p => decide (p.depth ≤ 60)) && ps.all fun p => ps.all fun q => PySem.W.alike p q
def dSortG (a : D) : Option (List D) := match a with
  | .lst l => match pyL l with
    | some ps => if sortableB ps then some (l.mergeSort (PySem.W.dataLe false pyF)) else none
    | none => none
  | _ => none
theorem sortable_ok {ps : List PyData} (h : sortableB ps = true) : PySem.W.AllAlike ps ∧ PySem.W.Sortable ps ∧ ∀ p ∈ ps, p.depth ≤ 60 := by
  unfold sortableB at h
  rw [Bool.and_eq_true, Bool.and_eq_true, Bool.or_eq_true] at h
  obtain ⟨⟨h1, h2⟩, h3⟩ := h
  refine ⟨fun d hd d' hd' => ?_, ?_, fun p hp => ?_⟩
  · have := List.all_eq_true.mp h3 d hd
    exact List.all_eq_true.mp this d' hd'
  · rcases h1 with h1 | h1
    · refine .inl fun d hd => ?_
      have := List.all_eq_true.mp h1 d hd
      unfold isTup1 at this
      split at this
      · exact ⟨_, _, rfl⟩
      · cases this
    · refine .inr fun d hd => ?_
      have := List.all_eq_true.mp h1 d hd
      unfold isOther at this
      split at this
      · cases this
      · cases this
      · rename_i a b
        exact ⟨b, a⟩
  · exact of_decide_eq_true (List.all_eq_true.mp h2 p hp)
theorem pyL_F : ∀ {l : List D} {ps : List PyData}, pyL l = some ps → ps = l.map pyF
  | [], ps, h => by
    simp only [pyL, Option.some.injEq] at h
    exact h.symm
  | d :: l, ps, h => by
    simp only [pyL] at h
    split at h
    · rename_i x xs e1 e2
      cases h
      rw [List.map_cons, ← pyL_F e2]
      simp [pyF, e1]
    · cases h
theorem dataLe_map {α β : Type} (f : α → β) (k : β → PyData) (l : List α) : (l.mergeSort (PySem.W.dataLe false fun a => k (f a))).map f = (l.map f).mergeSort (PySem.W.dataLe false k) := List.map_mergeSort fun a _ b _ => rfl
theorem fzl_zip {F : Hp} : ∀ {l : List D} {vs : List V}, FzL F l vs → (l.zip vs).map (·.1) = l ∧ (l.zip vs).map (·.2) = vs ∧ ∀ p ∈ l.zip vs, Fz F p.1 p.2
  | [], vs, h => by
    simp only [FzL] at h
    subst h
    exact ⟨rfl, rfl, fun p hp => by cases hp⟩
  | d :: l, vs, h => by
    simp only [FzL] at h
    obtain ⟨v, vr, rfl, h1, h2⟩ := h
    obtain ⟨e1, e2, e3⟩ := fzl_zip h2
    refine ⟨by simp [e1], by simp [e2], fun p hp => ?_⟩
    rw [List.zip_cons_cons] at hp
    rcases List.mem_cons.mp hp with rfl | hp
    · exact h1
    · exact e3 p hp
theorem fzl_of {F : Hp} : ∀ {zs : List (D × V)}, (∀ p ∈ zs, Fz F p.1 p.2) → FzL F (zs.map (·.1)) (zs.map (·.2))
  | [], _ => by simp only [List.map_nil, FzL]
  | z :: zs, h => by
    simp only [List.map_cons, FzL]
    exact ⟨_, _, rfl, h z List.mem_cons_self, fzl_of fun p hp => h p (List.mem_cons_of_mem _ hp)⟩
theorem rd_sortG {K : PySem.W.Frag} : RdL1 (fun v H Q => rSortG K [v] H Q) dSortG := by
  intro lk B F H s m vs ts a l v Q st ha e q
  unfold dSortG at e
  split at e
  · rename_i l0
    obtain ⟨p, ws, rfl, e1, e2, e3⟩ := st.lst ha
    split at e
    · rename_i ps eps
      split at e
      · rename_i hs
        cases e
        obtain ⟨h1, h2, h3⟩ := sortable_ok hs
        obtain ⟨z1, z2, z3⟩ := fzl_zip e3
        have pe := pyL_F eps
        have f1 : ((l0.zip ws).map fun z => (z.2, pyF z.1)).map (·.1) = ws := by
          rw [List.map_map]
          exact z2
        have f2 : ((l0.zip ws).map fun z => (z.2, pyF z.1)).map (·.2) = ps := by
          rw [List.map_map, pe]
          have : ((fun x : V × PyData => x.2) ∘ fun z : D × V => (z.2, pyF z.1)) = pyF ∘ fun z : D × V => z.1 := rfl
          rw [this, ← List.map_map, z1]
        refine ⟨p, (l0.zip ws).map fun z => (z.2, pyF z.1), rfl, by rw [f1]; exact SqL.of e2, by rw [f1, f2]; exact pyL_ok st.sf e3 eps, by rw [f2]; exact h1, by rw [f2]; exact h2, fun z hz => ?_, fun p' hp => ?_⟩
        · have : z.2 ∈ ps := by
            rw [← f2]
            exact List.mem_map_of_mem hz
          exact h3 _ this
        · have g1 : ((l0.zip ws).mergeSort (PySem.W.dataLe false fun z => pyF z.1)).map (·.1) = l0.mergeSort (PySem.W.dataLe false pyF) := by
            rw [dataLe_map (fun z : D × V => z.1) pyF, z1]
          have g2 : (((l0.zip ws).map fun z => (z.2, pyF z.1)).mergeSort (PySem.W.dataLe false fun z => z.2)).map (·.1) = ((l0.zip ws).mergeSort (PySem.W.dataLe false fun z => pyF z.1)).map (·.2) := by
            rw [← dataLe_map (fun z : D × V => (z.2, pyF z.1)) (fun z => z.2), List.map_map]
            rfl
          rw [g2]
          refine q _ p' ?_ hp
          rw [← g1]
          refine fzl_of fun z hz => z3 z ?_
          exact List.mem_mergeSort.mp hz
      · cases e
    · cases e
  · cases e
section
variable {X : Cx} {e : Expr} {es : List Expr} {wa : WA} {lk : Lk} {pos p : Pos} {x : Str}
theorem v_sortG (hu : X.A.units + 64 < cLine) (hm : X.mg "sorted" = none) (ha : PA X [e] (LA lk wa)) (hg : Gl X "sorted" := by rfl) (he : starEach [e] X.env = (false, eval e X.env) :: starEach [] X.env := by rfl) (hpl : (backTo pos (starEach [] X.env)).any (·.1) = false := by rfl) :
    PE X (.Call (.Name "sorted" p) [e] [] pos) (LE lk (wA (oA1 (oL1 dSortG)) wa)) := v_callB (cr_sortG hu) (sA_of1 (s_L1 rd_sortG)) hm (by decide +kernel) ha hg (by decide) (by decide) he hpl
end
end VL
set_option Elab.async false
set_option linter.all false
set_option maxRecDepth 100000
set_option maxHeartbeats 4000000
/-! VL33: list(range(n)); a number as a way into what is read. -/
namespace VL
open PySem PySem.Spec PyProof.Rows L2
def pC (i : Int) : Tau → Option D := fun _ => some (.int i)
theorem pth_int (i : Int) : Pth (tC (.int i)) (pC i) := by
  intro lk B F H s m vs ts d st e
  cases e
  exact ⟨.int i, fzi, fun lk' B' H' vs' ts' st' Q q => q⟩
def wLstRg (wa : WE) : WE := fun m Q => wa m fun x m1 => match x.er with
  | .int j => (0 ≤ j ∧ j ≤ 16777216) ∧ Q (.ol ((rngD 0 j.toNat).map T.fz)) m1
  | _ => False
theorem fz_rgV {F : Hp} {j : Int} : FzL F (rngD 0 j.toNat) (rgV 0 j) := by
  unfold rngD rgV
  have : ∀ l : List Nat, FzL F (l.map fun (i : Nat) => D.int (0 + (i : Nat))) (l.map fun i => V.int (0 + (i : Nat))) := fun l => by
    induction l with
    | nil => simp only [List.map_nil, FzL]
    | cons a l ih =>
      simp only [List.map_cons, FzL]
      exact ⟨_, _, rfl, fzi, ih⟩
  rw [show j - 0 = j by omega]
  exact this _
theorem v_listRg {X : Cx} {e : Expr} {we : WE} {lk : Lk} {p p2 pos pos2 : Pos} (hc : X.calm = true) (hm : X.mg "list" = none) (hm2 : X.mg "range" = none) (he : PE X e (LE lk we)) (hg : Gl X "list" := by rfl) (hg2 : Gl X "range" := by rfl)
    (na : starEach [e] X.env = (false, eval e X.env) :: starEach [] X.env := by rfl) (na2 : starEach [.Call (.Name "range" p2) [e] [] pos2] X.env = (false, eval (.Call (.Name "range" p2) [e] [] pos2) X.env) :: starEach [] X.env := by rfl) :
    PE X (.Call (.Name "list" p) [.Call (.Name "range" p2) [e] [] pos2] [] pos) (LE lk (wLstRg we)) := pe_mono (pe_listRg hc hg hm (prg_1 hg2 hm2 he na) na2) fun s H Q q => by
  obtain ⟨B, F, m, vs, ts, P, st, hw, k⟩ := q
  refine ⟨B, F, m, vs, ts, _, st, hw, fun x m1 hx v F1 H1 g1 st1 => ?_⟩
  split at hx
  · rename_i j el
    obtain ⟨F2, g2, st2⟩ := st1.freeze
    obtain ⟨hb, st3⟩ := st2.tfz
    rw [el] at hb
    rw [fz_int hb]
    refine ⟨j, rfl, RgOk.of_le (Int.le_refl 0) hx.1.2 (by decide) hx.1.1, fun q hq => ?_⟩
    refine k _ m1 hx.2 (.ref q) F2 _ (g1.trans g2) (st3.own0 hq fun H' e' => ?_)
    simp only [Rp]
    exact ⟨q, rgV 0 j, fun _ => False, rfl, e', RpL.fz fz_rgV, id, rfl⟩
  · exact hx.elim
end VL
set_option Elab.async false
set_option linter.all false
set_option maxRecDepth 100000
set_option maxHeartbeats 1000000
/-! W1: the laws' own looks at webs: promises; their meanings as the generator prints them. -/
namespace Pg
open PySem PySem.Spec PyProof.Rows L2 VL
@[simp ↓] theorem sx_wLstRg : type_of% @wLstRg.eq_def := @wLstRg.eq_def
@[simp ↓] theorem sx_pC : type_of% @pC.eq_def := @pC.eq_def
/-- whether all days from a room on are alike, none for no room -/
def sameO (rs : RM) (es : List Nat) (p : OP) : Prop := ∀ w, accO rs es p.1 w = accO rs es p.2 w
/-- the beginnings of a length, with the rooms they lead to -/
def sortR (rs : RM) (i : Nat) : Room1 := (sS ((rs.getD i []).map (·.1))).map fun d => (d, (stepR rs i d).getD 0)
def rowsAt (rs : RM) : Nat → List (List Str × Nat)
  | 0 => [([], 0)]
  | n + 1 => (rowsAt rs n).flatMap fun q => (sortR rs q.2).map fun p => (q.1 ++ [p.1], p.2)
def eLeastW (lr : RM) (le : List Nat) : D := .tup [.lst (lr.map fun r => .lst (r.map fun p => .tup [.str p.1, .int (p.2 : Nat)])), .lst (eInts le)]
def o_unlike_rooms (Pr : Program) (wd : World) : OX := fun xs P _ => ∃ rs es, xs = [.fz (eWeb rs es)] ∧ Good rs es ∧ rs.length ≤ 200 ∧ (rs.map (·.length)).sum ≤ 2000 ∧
  ∀ S : List OP, S.Nodup → (∀ p, p ∈ S ↔ inR rs rs p ∧ ¬ sameO rs es p) → P (.on Pr wd (S.map fun p => (kOP p, D.int 1)))
def o_least_web : OX := fun xs P _ => ∃ rs es, xs = [.fz (eWeb rs es)] ∧ Good rs es ∧ rs.length ≤ 200 ∧ (rs.map (·.length)).sum ≤ 2000 ∧ ∀ lr le, Least rs es lr le → P (.fz (eLeastW lr le))
def o_web_of : OX := fun xs P _ => ∃ lr le, xs = [.fz (eLeastW lr le)] ∧ lr.length ≤ 100000 ∧ (∀ r ∈ lr, (r.map (·.1)).Nodup) ∧ P (.fz (eWeb lr le))
def o_days_to : OX := fun xs P _ => ∃ (rs : RM) (es : List Nat) (n : Nat), xs = [.fz (eWeb rs es), .fz (.int (n : Nat))] ∧ Good rs es ∧ n ≤ 60 ∧ (∀ k, k ≤ n + 1 → (rowsAt rs k).length ≤ 5000) ∧
  ∀ ws : List (List Str), (∀ w, w ∈ ws ↔ w.length ≤ n ∧ acc rs es 0 w = true) → ws.Pairwise before → P (.fz (.lst (eDays ws)))
def o_inside : OX := fun xs P _ => ∃ rs es rs' es', xs = [.fz (eWeb rs es), .fz (eWeb rs' es')] ∧ Good rs es ∧ Good rs' es' ∧ rs.length ≤ 60 ∧ rs'.length ≤ 60 ∧
  ∀ b : Bool, (b = true ↔ ∀ w, acc rs es 0 w = true → acc rs' es' 0 w = true) → P (.fz (.bl b))
-- _law_unlike_rooms: 0 _law_web_here, 1 _law_rooms_here, 2 _law_marked, 3 _law_many, 4 _law_deeds_here, 5 _law_steps_here, 6 _law_left, 7 _law_right, 8 _law_deed, 9 _law_goals, 10 _law_at
def w__law_unlike_rooms (P : Program) (w : World) : WS := (wSeq (wPar3 1 2 3 (wCons (wFz (w2 oAdd (wLst (wCons (wC .non) wNil)) (wLstRg (wA (oA1 (oR1 dLen)) (wCons (w2 oIxH (wVar 0) (wC (.int 0))) wNil))))) (wCons (wNewN P w) (wCons (wFz (w1 oNeg (wC (.int 1)))) wNil))))
  (wSeq (wSetF 4 (wLst wNil))
  (wSeq (wFor (iL (w2 oIxH (wVar 0) (wC (.int 0)))) (gN 5) (wSetF 4 (w2 oAdd (wVar 4) (wLcK (pVar 5) selK (gN 8) (wB (w2 (oR2 (dIn true)) (wVar 8) (wVar 4))) (wVar 8) [8]))))
  (wSeq (wWhile (wB (w2 oGt (wLenN P w 2) (wVar 3))) (wSeq (wSetF 3 (wLenN P w 2))
  (wFor (iL (wVar 1)) (gN 6) (wFor (iL (wVar 1)) (gN 7) (wSeq (wIfS (wB (w2 (oR2 (dEq true)) (wAndV (w2 (oR2 (dIsN true)) (wVar 6) (wC .non)) (w2 (oR2 (dIn false)) (wVar 6) (w2 oIxH (wVar 0) (wC (.int 1))))) (wAndV (w2 (oR2 (dIsN true)) (wVar 7) (wC .non)) (w2 (oR2 (dIn false)) (wVar 7) (w2 oIxH (wVar 0) (wC (.int 1))))))) (wPutN P w 2 (wC (.int 1)) (wTup (wCons (wVar 6) (wCons (wVar 7) wNil)))) wNext)
  (wFor (iL (wVar 4)) (gN 8) (wSeq (wSetF 9 (wLc (iT (wTup (wCons (wVar 6) (wCons (wVar 7) wNil)))) (gN 10) wYes (wIf (wB (w2 (oR2 (dIsN false)) (wVar 10) (wC .non))) (wC .non) (wGet (w2 oIxH (w2 oIxH (wVar 0) (wC (.int 0))) (wVar 10)) (wVar 8))) [10]))
  (wIfS (wB (wInN P w false (wTup (wCons (w2 oIxH (wVar 9) (wC (.int 0))) (wCons (w2 oIxH (wVar 9) (wC (.int 1))) wNil))) 2)) (wPutN P w 2 (wC (.int 1)) (wTup (wCons (wVar 6) (wCons (wVar 7) wNil)))) wNext))))))))
  (wRet (wVar 2))))))
-- _law_least_web: 0 _law_web_here, 1 _law_marked, 2 _law_order, 3 _law_found, 4 _law_turn, 5 _law_row, 6 _law_deed, 7 _law_goal, 8 _law_place, 9 _law_rank, 10 _law_known
def w__law_least_web (P : Program) (w : World) : WS := (wSeq (wPar3 1 2 3 (wCons (wA (oFn 1 (o_unlike_rooms P w)) (wCons (wVar 0) wNil)) (wCons (wLst (wCons (wC (.int 0)) wNil)) (wCons (wLst wNil) wNil))))
  (wSeq (wFor (iR1 (wA (oA1 (oR1 dLen)) (wCons (w2 oIxH (wVar 0) (wC (.int 0))) wNil))) (gN 4) (wIfS (wViewT (wB (w2 oLt (wVar 4) (wA (oA1 (oR1 dLen)) (wCons (wVar 2) wNil))))) (wSeq (wSet 5 (wLst wNil))
  (wSeq (wFor (iL (wView (wA (oA1 (oL1 dSort)) (wCons (w2 oIxH (w2 oIxH (wVar 0) (wC (.int 0))) (w2 oIxH (wVar 2) (wVar 4))) wNil)))) (gN 6) (wSeq (wPar 7 8 (wCons (wFz (wView (w2 oIxH (w2 oIxH (w2 oIxH (wVar 0) (wC (.int 0))) (w2 oIxH (wVar 2) (wVar 4))) (wVar 6)))) (wCons (wC .non) wNil)))
  (wIfS (wB (wInN P w false (wTup (wCons (wVar 7) (wCons (wC .non) wNil))) 1)) (wSeq (wFor (iE (wView (wVar 2))) (gT [(gN 9), (gN 10)]) (wIfS (wB (wInN P w true (wTup (wCons (wVar 10) (wCons (wVar 7) wNil))) 1)) (wSetF 8 (wVar 9)) wNext))
  (wSeq (wIfS (wB (w2 (oR2 (dIsN false)) (wVar 8) (wC .non))) (wSeq (wSetF 8 (wView (wA (oA1 (oR1 dLen)) (wCons (wVar 2) wNil))))
  (wApp 2 (wVar 7))) wNext)
  (wApp 5 (wTup (wCons (wVar 6) (wCons (wVar 8) wNil)))))) wNext)))
  (wApp 3 (wTake 5)))) wNext))
  (wRet (wTup (wConsL 3 (wCons (wLc (iE (wView (wVar 2))) (gT [(gN 9), (gN 10)]) (wB (w2 (oR2 (dIn false)) (wVar 10) (w2 oIxH (wVar 0) (wC (.int 1))))) (wVar 9) [9, 10]) wNil))))))
-- _law_web_of: 0 _law_least, 1 _law_steps_here
def w__law_web_of : WS := (wRet (wTup (wCons (wLc (iL (w2 oIxH (wVar 0) (wC (.int 0)))) (gN 1) wYes (wA (oA1 oDict) (wCons (wVar 1) wNil)) [1]) (wCons (w2 oIxH (wVar 0) (wC (.int 1))) wNil))))
-- _law_days_to: 0 _law_web_here, 1 _law_most, 2 _law_found, 3 _law_front, 4 _law_turn, 5 _law_later, 6 _law_day, 7 _law_at, 8 _law_deed
def w__law_days_to : WS := (wSeq (wPar 2 3 (wCons (wFz (wLst wNil)) (wCons (wFz (wLst (wCons (wTup (wCons (wLst wNil) (wCons (wC (.int 0)) wNil))) wNil))) wNil)))
  (wSeq (wFor (iR1 (w2 oAdd (wVar 1) (wC (.int 1)))) (gN 4) (wSeq (wSetF 2 (w2 oAdd (wVar 2) (wLc (iL (wVar 3)) (gT [(gN 6), (gN 7)]) (wB (w2 (oR2 (dIn false)) (wVar 7) (w2 oIxH (wVar 0) (wC (.int 1))))) (wVar 6) [6, 7])))
  (wSeq (wSet 5 (wLst wNil))
  (wSeq (wFor (iL (wVar 3)) (gT [(gN 6), (gN 7)]) (wFor (iL (wA (oA1 (oL1 dSort)) (wCons (w2 oIxH (w2 oIxH (wVar 0) (wC (.int 0))) (wVar 7)) wNil))) (gN 8) (wApp 5 (wTup (wCons (w2 oAdd (wVar 6) (wLst (wCons (wVar 8) wNil))) (wCons (w2 oIxH (w2 oIxH (w2 oIxH (wVar 0) (wC (.int 0))) (wVar 7)) (wVar 8)) wNil))))))
  (wSetF 3 (wA (oA1 (oL1 dSortG)) (wCons (wFrz 5) wNil)))))))
  (wRet (wVar 2))))
-- _law_inside: 0 _law_left, 1 _law_right, 2 _law_live, 3 _law_many, 4 _law_order, 5 _law_seen, 6 _law_turn, 7 _law_at, 8 _law_steps_here, 9 _law_mine, 10 _law_its, 11 _law_deed, 12 _law_goal, 13 _law_goals
def w__law_inside (P : Program) (w : World) : WS := (wSeq (wParL [2, 3] (wCons (wA (oA1 oDict) (wCons (wLc (iL (w2 oIxH (wVar 0) (wC (.int 1)))) (gN 7) wYes (wTup (wCons (wVar 7) (wCons (wC (.int 1)) wNil))) [7]) wNil)) (wCons (wFz (w1 oNeg (wC (.int 1)))) wNil)))
  (wSeq (wWhile (wViewT (wB (w2 oGt (wA (oA1 (oR1 dLen)) (wCons (wVar 2) wNil)) (wVar 3)))) (wSeq (wSetF 3 (wView (wA (oA1 (oR1 dLen)) (wCons (wVar 2) wNil))))
  (wFor (iE (w2 oIxH (wVar 0) (wC (.int 0)))) (gT [(gN 7), (gN 8)]) (wIfS (wViewT (wB (w2 (oR2 (dEq true)) (wLcK (pVar 8) selV (gN 12) (wB (w2 (oR2 (dIn false)) (wVar 12) (wVar 2))) (wVar 12) [12]) (wLst wNil)))) (wPut 2 (wC (.int 1)) (wVar 7)) wNext))))
  (wSeq (wPar 4 5 (wCons (wLst (wCons (wTup (wCons (wC (.int 0)) (wCons (wC (.int 0)) wNil))) wNil)) (wCons (wDisp1N P w (wTup (wCons (wC (.int 0)) (wCons (wC (.int 0)) wNil))) (wC (.int 1))) wNil)))
  (wSeq (wFor (iR1 (w2 oMul (wA (oA1 (oR1 dLen)) (wCons (w2 oIxH (wVar 0) (wC (.int 0))) wNil)) (w2 oAdd (wA (oA1 (oR1 dLen)) (wCons (w2 oIxH (wVar 1) (wC (.int 0))) wNil)) (wC (.int 1))))) (gN 6) (wIfS (wViewT (wB (w2 oLt (wVar 6) (wA (oA1 (oR1 dLen)) (wCons (wVar 4) wNil))))) (wSeq (wAsg (wView2 (w2 oIxH (wVar 4) (wVar 6))) (gT [(gN 9), (gN 10)]))
  (wSeq (wIfS (wAnd (wB (w2 (oR2 (dIn false)) (wVar 9) (w2 oIxH (wVar 0) (wC (.int 1))))) (wOr (wB (w2 (oR2 (dIsN false)) (wVar 10) (wC .non))) (wB (w2 (oR2 (dIn true)) (wVar 10) (w2 oIxH (wVar 1) (wC (.int 1))))))) (wRet (wC (.bl false))) wNext)
  (wForK (pIx (pIx (pVar 0) (pC 0)) (pVar 9)) pairD (gT [(gN 11), (gN 12)]) (wSeq (wSetF 13 (wTup (wCons (wVar 12) (wCons (wIf (wB (w2 (oR2 (dIsN false)) (wVar 10) (wC .non))) (wC .non) (wGet (w2 oIxH (w2 oIxH (wVar 1) (wC (.int 0))) (wVar 10)) (wVar 11))) wNil))))
  (wIfS (wAnd (wViewT (wB (w2 (oR2 (dIn false)) (wVar 12) (wVar 2)))) (wB (wInN P w true (wVar 13) 5))) (wSeq (wPutN P w 5 (wC (.int 1)) (wVar 13))
  (wApp 4 (wVar 13))) wNext))))) wNext))
  (wRet (wC (.bl true)))))))
end Pg
set_option Elab.async false
set_option linter.all false
set_option maxRecDepth 100000
set_option maxHeartbeats 2000000
/-! W2: whether all days of a web are in another one: the plain law. -/
namespace Pg
open PySem PySem.Spec PyProof.Rows L2 VL
section
variable (rs : RM) (es : List Nat) (rs' : RM) (es' : List Nat)
/-- what a pair of rooms has against it -/
def badI (p : OP) : Bool := accO rs es p.1 [] && !accO rs' es' p.2 []
/-- pairs met so far, the first k gone through -/
structure NInv (k : Nat) (od : List OP) : Prop where
  nd : od.Nodup
  ok : ∀ p ∈ od, p.1.isSome = true ∧ inR rs rs' p
  zero : od[0]? = some (some 0, some 0)
  way : ∀ p ∈ od, ∃ u, ∀ w, acc rs es 0 (u ++ w) = accO rs es p.1 w ∧ acc rs' es' 0 (u ++ w) = accO rs' es' p.2 w
  fine : ∀ s, s < k → ∀ p, od[s]? = some p → badI rs es rs' es' p = false
  next : ∀ s, s < k → ∀ p, od[s]? = some p → ∀ d j, stepO rs p.1 d = some j → live rs es j → stepP rs rs' p d ∈ od
/-- .. within a room: the first k steps gone through -/
structure MInv (row : Room1) (p : OP) (s k : Nat) (od : List OP) : Prop where
  base : NInv rs es rs' es' s od
  here : od[s]? = some p
  fine : badI rs es rs' es' p = false
  next : ∀ q ∈ row.take k, live rs es q.2 → stepP rs rs' p q.1 ∈ od
end
section
variable {rs : RM} {es : List Nat} {rs' : RM} {es' : List Nat}
theorem accO_app {lr : RM} {le : List Nat} : ∀ {u : List Str} {i : Option Nat} {w : List Str}, accO lr le i (u ++ w) = accO lr le (u.foldl (stepO lr) i) w
  | [], i, w => rfl
  | d :: u, i, w => by
    rw [List.cons_append, accO_step, List.foldl_cons]
    exact accO_app
theorem NInv.init (h : 0 < rs.length) (h' : 0 < rs'.length) : NInv rs es rs' es' 0 [(some 0, some 0)] := by
  refine ⟨by simp, fun p hp => ?_, rfl, fun p hp => ?_, fun s hs => absurd hs (Nat.not_lt_zero _), fun s hs => absurd hs (Nat.not_lt_zero _)⟩
  · simp at hp
    subst hp
    exact ⟨rfl, fun k e => by cases e; exact h, fun k e => by cases e; exact h'⟩
  · simp at hp
    subst hp
    exact ⟨[], fun w => ⟨rfl, rfl⟩⟩
theorem NInv.few {k : Nat} {od : List OP} (h : NInv rs es rs' es' k od) : od.length ≤ rs.length * (rs'.length + 1) := by
  have nd2 : (od.map (codeP rs'.length)).Nodup := by
    rw [List.Nodup, List.pairwise_map]
    refine h.nd.imp_of_mem fun {a b} ha hb ne e => ne ?_
    have a2 := (h.ok a ha).2.2
    have b2 := (h.ok b hb).2.2
    unfold codeP at e
    have ca : cO a.2 ≤ rs'.length := by
      cases q : a.2 with
      | none => simp [cO]
      | some z => have := a2 z q; simp [cO]; omega
    have cb : cO b.2 ≤ rs'.length := by
      cases q : b.2 with
      | none => simp [cO]
      | some z => have := b2 z q; simp [cO]; omega
    have m1 : cO a.1 = cO b.1 := by
      have := congrArg (· / (rs'.length + 1)) e
      rw [Nat.mul_comm, Nat.mul_add_div (by omega), Nat.mul_comm (cO b.1), Nat.mul_add_div (by omega), Nat.div_eq_of_lt (by omega), Nat.div_eq_of_lt (by omega)] at this
      omega
    have m2 : cO a.2 = cO b.2 := by rw [m1] at e; omega
    exact Prod.ext (cO_inj m1) (cO_inj m2)
  have sub := List.Nodup.length_le_of_subset nd2 (l₂ := (List.range (rs.length * (rs'.length + 1))).map (· + (rs'.length + 1))) fun x hx => by
    obtain ⟨p, hp, rfl⟩ := List.mem_map.mp hx
    obtain ⟨s1, o1, o2⟩ := h.ok p hp
    obtain ⟨i, hi⟩ := Option.isSome_iff_exists.mp s1
    have il := o1 i hi
    rw [List.mem_map]
    have c2 : cO p.2 ≤ rs'.length := by
      cases q : p.2 with
      | none => simp [cO]
      | some z => have := o2 z q; simp [cO]; omega
    have mul : i * (rs'.length + 1) + (rs'.length + 1) ≤ rs.length * (rs'.length + 1) := by
      have := Nat.mul_le_mul_right (rs'.length + 1) (show i + 1 ≤ rs.length by omega)
      rw [Nat.add_mul, Nat.one_mul] at this
      exact this
    refine ⟨i * (rs'.length + 1) + cO p.2, by rw [List.mem_range]; omega, ?_⟩
    unfold codeP
    rw [hi]
    simp only [cO]
    rw [Nat.add_mul, Nat.one_mul]
    omega
  simpa using sub
/-- a room is begun -/
theorem NInv.begin {s : Nat} {od : List OP} {p : OP} {row : Room1} (h : NInv rs es rs' es' s od) (hp : od[s]? = some p) (fine : badI rs es rs' es' p = false) : MInv rs es rs' es' row p s 0 od :=
  ⟨h, hp, fine, fun q hq => by simp at hq⟩
theorem NInv.app {s : Nat} {od : List OP} {p : OP} {d : Str} {j : Nat} (h : NInv rs es rs' es' s od) (wf' : ∀ r ∈ rs', ∀ q ∈ r, q.2 < rs'.length) (wf : ∀ r ∈ rs, ∀ q ∈ r, q.2 < rs.length) (hp : p ∈ od) (hd : stepO rs p.1 d = some j) (new : stepP rs rs' p d ∉ od) (hs : s < od.length) : NInv rs es rs' es' s (od ++ [stepP rs rs' p d]) := by
  have lt : ∀ {x : RM} (wx : ∀ r ∈ x, ∀ q ∈ r, q.2 < x.length) {i : Option Nat} {k : Nat}, stepO x i d = some k → k < x.length := fun {x} wx {i k} e => by
    cases i with
    | none => cases e
    | some a =>
      simp only [stepO, Option.bind_some, stepR] at e
      cases q : x[a]? with
      | none => rw [q] at e; cases e
      | some r =>
        rw [q] at e
        exact wx r (List.mem_of_getElem? q) _ (lookup_mem e)
  refine ⟨?_, fun q hq => ?_, getElem?_app h.zero, fun q hq => ?_, fun t ht q hq => ?_, fun t ht q hq e k hk hl => ?_⟩
  · rw [List.nodup_append]
    exact ⟨h.nd, by simp, fun a ha b hb => by
      simp at hb
      subst hb
      exact fun e => new (e ▸ ha)⟩
  · rcases List.mem_append.mp hq with hq | hq
    · exact h.ok q hq
    · simp at hq
      subst hq
      exact ⟨by simp [stepP, hd], fun k e => lt wf e, fun k e => lt wf' e⟩
  · rcases List.mem_append.mp hq with hq | hq
    · exact h.way q hq
    · simp at hq
      subst hq
      obtain ⟨u, hu⟩ := h.way p hp
      refine ⟨u ++ [d], fun w => ?_⟩
      rw [List.append_assoc]
      have := hu ([d] ++ w)
      rw [this.1, this.2]
      exact ⟨accO_step, accO_step⟩
  · rw [List.getElem?_append_left (by omega)] at hq
    exact h.fine t ht q hq
  · rw [List.getElem?_append_left (by omega)] at hq
    exact List.mem_append_left _ (h.next t ht q hq e k hk hl)
theorem lookup_take {row : Room1} {k : Nat} (hk : k < row.length) : row.take (k + 1) = row.take k ++ [row[k]] := List.take_succ_eq_append_getElem hk
/-- one step is gone through -/
theorem MInv.old {row : Room1} {p : OP} {s k : Nat} {od : List OP} (h : MInv rs es rs' es' row p s k od) (hk : k < row.length) (old : live rs es row[k].2 → stepP rs rs' p row[k].1 ∈ od) : MInv rs es rs' es' row p s (k + 1) od := by
  refine ⟨h.base, h.here, h.fine, fun q hq hl => ?_⟩
  rw [lookup_take hk] at hq
  rcases List.mem_append.mp hq with hq | hq
  · exact h.next q hq hl
  · simp at hq
    subst hq
    exact old hl
theorem MInv.add {row : Room1} {p : OP} {s k : Nat} {od : List OP} (h : MInv rs es rs' es' row p s k od) (wf' : ∀ r ∈ rs', ∀ q ∈ r, q.2 < rs'.length) (wf : ∀ r ∈ rs, ∀ q ∈ r, q.2 < rs.length) (hk : k < row.length) (hd : stepO rs p.1 row[k].1 = some row[k].2) (new : stepP rs rs' p row[k].1 ∉ od) : MInv rs es rs' es' row p s (k + 1) (od ++ [stepP rs rs' p row[k].1]) := by
  have hs := (List.getElem?_eq_some_iff.mp h.here).1
  refine ⟨h.base.app wf' wf (List.mem_of_getElem? h.here) hd new hs, getElem?_app h.here, h.fine, fun q hq hl => ?_⟩
  rw [lookup_take hk] at hq
  rcases List.mem_append.mp hq with hq | hq
  · exact List.mem_append_left _ (h.next q hq hl)
  · simp at hq
    subst hq
    simp
/-- a room is gone through -/
theorem MInv.done {row : Room1} {p : OP} {s : Nat} {od : List OP} (h : MInv rs es rs' es' row p s row.length od) (all : ∀ d j, stepO rs p.1 d = some j → (d, j) ∈ row) : NInv rs es rs' es' (s + 1) od := by
  refine ⟨h.base.nd, h.base.ok, h.base.zero, h.base.way, fun t ht q hq => ?_, fun t ht q hq d j hd hl => ?_⟩
  · by_cases e : t < s
    · exact h.base.fine t e q hq
    · have : t = s := by omega
      subst this
      rw [h.here] at hq
      cases hq
      exact h.fine
  · by_cases e : t < s
    · exact h.base.next t e q hq d j hd hl
    · have : t = s := by omega
      subst this
      rw [h.here] at hq
      cases hq
      have := all d j hd
      refine h.next (d, j) ?_ hl
      rw [List.take_length]
      exact this
/-- nothing is left -/
theorem NInv.past {s : Nat} {od : List OP} (h : NInv rs es rs' es' s od) (hs : od.length ≤ s) (n : Nat) : NInv rs es rs' es' n od :=
  ⟨h.nd, h.ok, h.zero, h.way, fun t _ p hp => h.fine t (by have := (List.getElem?_eq_some_iff.mp hp).1; omega) p hp, fun t _ p hp => h.next t (by have := (List.getElem?_eq_some_iff.mp hp).1; omega) p hp⟩
theorem NInv.yes {s : Nat} {od : List OP} (h : NInv rs es rs' es' s od) (hs : od.length ≤ s) : ∀ w, acc rs es 0 w = true → acc rs' es' 0 w = true := by
  have main : ∀ (w : List Str) (p : OP), p ∈ od → accO rs es p.1 w = true → accO rs' es' p.2 w = true := by
    intro w
    induction w with
    | nil =>
      intro p hp hw
      obtain ⟨t, ht, e⟩ := List.getElem_of_mem hp
      have := h.fine t (by omega) p (by rw [List.getElem?_eq_getElem ht, e])
      unfold badI at this
      rw [hw] at this
      simpa using this
    | cons d w ih =>
      intro p hp hw
      rw [accO_step] at hw ⊢
      cases q : stepO rs p.1 d with
      | none => rw [q] at hw; cases hw
      | some j =>
        obtain ⟨t, ht, e⟩ := List.getElem_of_mem hp
        have := h.next t (by omega) p (by rw [List.getElem?_eq_getElem ht, e]) d j q ⟨w, by rw [q] at hw; exact hw⟩
        exact ih _ this hw
  intro w hw
  exact main w _ (List.mem_of_getElem? h.zero) hw
theorem NInv.no {s : Nat} {od : List OP} (h : NInv rs es rs' es' s od) {p : OP} (hp : p ∈ od) (bad : badI rs es rs' es' p = true) : ¬ ∀ w, acc rs es 0 w = true → acc rs' es' 0 w = true := by
  intro z
  obtain ⟨u, hu⟩ := h.way p hp
  obtain ⟨h1, h2⟩ := hu []
  have := z (u ++ [])
  unfold badI at bad
  rw [h1, h2] at this
  cases q1 : accO rs es p.1 [] <;> cases q2 : accO rs' es' p.2 [] <;> simp_all
end
end Pg
set_option Elab.async false
set_option linter.all false
set_option maxRecDepth 100000
set_option maxHeartbeats 2000000
/-! W4: the days to a length, layer by layer: the plain law. -/
namespace Pg
open PySem PySem.Spec PyProof.Rows L2 VL
section
variable {rs : RM} {es : List Nat}
theorem mem_sortR {i : Nat} {p : Str × Nat} : p ∈ sortR rs i ↔ stepR rs i p.1 = some p.2 := by
  unfold sortR
  rw [List.mem_map]
  have key : ∀ d, d ∈ (rs.getD i []).map (·.1) ↔ (stepR rs i d).isSome = true := fun d => by
    unfold stepR
    rw [List.getD_eq_getElem?_getD]
    cases q : rs[i]? with
    | none => simp
    | some r =>
      simp only [Option.getD_some]
      constructor
      · intro h
        obtain ⟨j, hj⟩ := lookup_some h
        simp [hj]
      · intro h
        obtain ⟨j, hj⟩ := Option.isSome_iff_exists.mp h
        exact List.mem_map_of_mem (lookup_mem hj)
  constructor
  · rintro ⟨d, hd, rfl⟩
    rw [mem_sS, key] at hd
    obtain ⟨j, hj⟩ := Option.isSome_iff_exists.mp hd
    simp [hj]
  · intro h
    refine ⟨p.1, by rw [mem_sS, key, h]; rfl, by rw [h]; rfl⟩
theorem mem_rowsAt : ∀ {n : Nat} {q : List Str × Nat}, q ∈ rowsAt rs n ↔ q.1.length = n ∧ q.1.foldl (stepO rs) (some 0) = some q.2
  | 0, (u, i) => by
    simp only [rowsAt, List.mem_singleton, Prod.mk.injEq]
    constructor
    · rintro ⟨rfl, rfl⟩
      exact ⟨rfl, rfl⟩
    · rintro ⟨h1, h2⟩
      have := List.eq_nil_of_length_eq_zero h1
      subst this
      simp at h2
      exact ⟨rfl, h2.symm⟩
  | n + 1, (u, i) => by
    simp only [rowsAt, List.mem_flatMap, List.mem_map]
    constructor
    · rintro ⟨q, hq, p, hp, e⟩
      obtain ⟨h1, h2⟩ := mem_rowsAt.mp hq
      rw [mem_sortR] at hp
      cases e
      refine ⟨by simp [h1], ?_⟩
      rw [List.foldl_append, h2]
      simpa [stepO] using hp
    · rintro ⟨h1, h2⟩
      obtain ⟨v, d, rfl, hv⟩ := snoc_ex h1
      rw [List.foldl_append] at h2
      simp only [List.foldl_cons, List.foldl_nil] at h2
      cases q : v.foldl (stepO rs) (some 0) with
      | none => rw [q] at h2; cases h2
      | some j =>
        rw [q] at h2
        exact ⟨(v, j), mem_rowsAt.mpr ⟨hv, q⟩, (d, i), mem_sortR.mpr (by simpa [stepO] using h2), rfl⟩
theorem nd_sS {l : List Str} (h : l.Nodup) : (sS l).Nodup := (List.mergeSort_perm _ _).nodup_iff.mpr h
theorem sortR_pw {i : Nat} (nd : ∀ r ∈ rs, (r.map (·.1)).Nodup) : (sortR rs i).Pairwise fun a b => leS a.1 b.1 = true ∧ a.1 ≠ b.1 := by
  unfold sortR
  rw [List.pairwise_map]
  have : ((rs.getD i []).map (·.1)).Nodup := by
    rw [List.getD_eq_getElem?_getD]
    cases q : rs[i]? with
    | none => simp
    | some r => exact nd r (List.mem_of_getElem? q)
  exact (sS_pw _).and (nd_sS this)
theorem rowsAt_pw (nd : ∀ r ∈ rs, (r.map (·.1)).Nodup) : ∀ n : Nat, (rowsAt rs n).Pairwise fun a b => lexS a.1 b.1
  | 0 => by simp [rowsAt]
  | n + 1 => by
    simp only [rowsAt]
    rw [List.pairwise_flatMap]
    refine ⟨fun q hq => ?_, ?_⟩
    · rw [List.pairwise_map]
      refine (sortR_pw nd).imp fun {a b} h => ?_
      exact (lexS_snoc rfl).mpr (.inr ⟨rfl, h⟩)
    · refine (rowsAt_pw nd n).imp_of_mem fun {a b} ha hb h x hx y hy => ?_
      obtain ⟨p, hp, rfl⟩ := List.mem_map.mp hx
      obtain ⟨p', hp', rfl⟩ := List.mem_map.mp hy
      exact (lexS_snoc ((mem_rowsAt.mp ha).1.trans (mem_rowsAt.mp hb).1.symm)).mpr (.inl h)
/-- the days of a length -/
def daysAt (rs : RM) (es : List Nat) (n : Nat) : List (List Str) := ((rowsAt rs n).filter fun q => decide (q.2 ∈ es)).map (·.1)
def daysTo (rs : RM) (es : List Nat) : Nat → List (List Str)
  | 0 => []
  | n + 1 => daysTo rs es n ++ daysAt rs es n
theorem mem_daysAt {n : Nat} {w : List Str} : w ∈ daysAt rs es n ↔ w.length = n ∧ acc rs es 0 w = true := by
  have ea : ∀ w, acc rs es 0 w = accO rs es (w.foldl (stepO rs) (some 0)) [] := fun w => by
    have := accO_app (lr := rs) (le := es) (u := w) (i := some 0) (w := [])
    rw [List.append_nil] at this
    exact this
  unfold daysAt
  rw [List.mem_map]
  constructor
  · rintro ⟨q, hq, rfl⟩
    rw [List.mem_filter] at hq
    obtain ⟨h1, h2⟩ := mem_rowsAt.mp hq.1
    rw [ea, h2]
    exact ⟨h1, hq.2⟩
  · rintro ⟨h1, h2⟩
    rw [ea] at h2
    cases q : w.foldl (stepO rs) (some 0) with
    | none => rw [q] at h2; cases h2
    | some i =>
      rw [q] at h2
      exact ⟨(w, i), List.mem_filter.mpr ⟨mem_rowsAt.mpr ⟨h1, q⟩, h2⟩, rfl⟩
theorem mem_daysTo : ∀ {n : Nat} {w : List Str}, w ∈ daysTo rs es n ↔ w.length < n ∧ acc rs es 0 w = true
  | 0, w => by simp [daysTo]
  | n + 1, w => by
    simp only [daysTo, List.mem_append]
    rw [mem_daysTo, mem_daysAt]
    constructor
    · rintro (⟨a, b⟩ | ⟨a, b⟩)
      · exact ⟨by omega, b⟩
      · exact ⟨by omega, b⟩
    · rintro ⟨a, b⟩
      by_cases e : w.length = n
      · exact .inr ⟨e, b⟩
      · exact .inl ⟨by omega, b⟩
theorem daysTo_pw (nd : ∀ r ∈ rs, (r.map (·.1)).Nodup) : ∀ n : Nat, (daysTo rs es n).Pairwise before
  | 0 => by simp [daysTo]
  | n + 1 => by
    simp only [daysTo]
    rw [List.pairwise_append]
    refine ⟨daysTo_pw nd n, ?_, fun a ha b hb => ?_⟩
    · unfold daysAt
      rw [List.pairwise_map]
      refine ((rowsAt_pw nd n).sublist List.filter_sublist).imp_of_mem fun {a b} ha hb h => ?_
      have h1 := (mem_rowsAt.mp (List.mem_filter.mp ha).1).1
      have h2 := (mem_rowsAt.mp (List.mem_filter.mp hb).1).1
      exact .inr ⟨h1.trans h2.symm, h⟩
    · have h1 := (mem_daysTo.mp ha).1
      have h2 := (mem_daysAt.mp hb).1
      exact .inl (by omega)
theorem daysTo_len {c : Nat} : ∀ {n : Nat}, (∀ k, k < n → (rowsAt rs k).length ≤ c) → (daysTo rs es n).length ≤ c * n
  | 0, _ => by simp [daysTo]
  | n + 1, h => by
    have ih := daysTo_len (n := n) fun k hk => h k (by omega)
    have h1 := h n (by omega)
    have h2 := List.length_filter_le (fun q : List Str × Nat => decide (q.2 ∈ es)) (rowsAt rs n)
    simp only [daysTo, List.length_append, daysAt, List.length_map]
    rw [Nat.mul_add, Nat.mul_one]
    omega
theorem sortR_len {i : Nat} : (sortR rs i).length = (rs.getD i []).length := by simp [sortR, len_sS]
theorem rowsAt_len {c : Nat} (h : ∀ r ∈ rs, r.length ≤ c) : ∀ n : Nat, (rowsAt rs n).length ≤ c ^ n
  | 0 => by simp [rowsAt]
  | n + 1 => by
    have ih := rowsAt_len h n
    simp only [rowsAt, List.length_flatMap, List.length_map]
    have : ∀ l : List (List Str × Nat), (l.map fun q => (sortR rs q.2).length).sum ≤ c * l.length := fun l => by
      induction l with
      | nil => simp
      | cons a l ih =>
        simp only [List.map_cons, List.sum_cons, List.length_cons]
        have : (sortR rs a.2).length ≤ c := by
          rw [sortR_len, List.getD_eq_getElem?_getD]
          cases q : rs[a.2]? with
          | none => simp
          | some r => exact h r (List.mem_of_getElem? q)
        rw [Nat.mul_add, Nat.mul_one]
        omega
    refine Nat.le_trans (this _) ?_
    rw [Nat.pow_succ, Nat.mul_comm]
    exact Nat.mul_le_mul_right c ih
end
/-! ### their order as data -/
def pyDay (q : List Str × Nat) : PyData := .tuple [.list (q.1.map .str), .int (q.2 : Nat)]
def eDay1 (q : List Str × Nat) : D := .tup [.lst (eStrs q.1), .int (q.2 : Nat)]
theorem pyD_day (q : List Str × Nat) : pyD (eDay1 q) = some (pyDay q) := by
  simp [eDay1, pyDay, pyD, pyL, pyL_strsF]
theorem pyL_days : ∀ l : List (List Str × Nat), pyL (l.map eDay1) = some (l.map pyDay)
  | [] => rfl
  | q :: l => by simp only [List.map_cons, pyL, pyD_day, pyL_days l]
theorem alike_strs : ∀ a b : List Str, PySem.W.alikeAll (a.map PyData.str) (b.map PyData.str) = true
  | [], b => by simp [PySem.W.alikeAll]
  | a :: as, [] => by simp [PySem.W.alikeAll]
  | a :: as, b :: bs => by
    have ih := alike_strs as bs
    simp only [List.map_cons, PySem.W.alikeAll, PySem.W.alike, ih, Bool.and_self]
theorem lt_days : ∀ {u v : List Str}, lexS u v → PySem.W.dataLt (.list (v.map PyData.str)) (.list (u.map PyData.str)) = false
  | [], v :: vs, _ => by
    rw [PySem.W.dataLt_list]
    simp only [List.map_cons, List.map_nil, PySem.W.keyToksAll]
    rfl
  | a :: u, b :: v, h => by
    rw [PySem.W.dataLt_list]
    simp only [List.map_cons]
    rw [PySem.W.dataLt_cons (by simp [PySem.W.alike])]
    have ev : PyData.eqv (PyData.str b) (PyData.str a) = decide (b = a) := by
      simp only [PyData.eqv]
      by_cases e : b = a <;> simp [e]
    rw [ev]
    rcases h with ⟨h1, h2⟩ | ⟨rfl, h⟩
    · rw [if_neg (by simpa using fun z => h2 z.symm), PySem.W.dataLt_str]
      unfold leS at h1
      simpa using h1
    · rw [if_pos (by simp)]
      have := lt_days h
      rw [PySem.W.dataLt_list] at this
      exact this
  | _ :: _, [], h => h.elim
  | [], [], h => h.elim
theorem le_day {a b : List Str × Nat} (h : lexS a.1 b.1) : PySem.W.dataLe false pyF (eDay1 a) (eDay1 b) = true := by
  rw [PySem.W.dataLe_eq]
  have e : ∀ q, pyF (eDay1 q) = pyDay q := fun q => by unfold pyF; rw [pyD_day]; rfl
  simp only [e, cond_false]
  unfold pyDay
  rw [PySem.W.dataLt_pair (by simp only [PySem.W.alike]; exact alike_strs _ _) (by simp [PySem.W.alike])]
  have ne : b.1 ≠ a.1 := fun z => lexS_irr (z ▸ h)
  rw [if_neg, lt_days h]
  · rfl
  · simp only [PyData.eqv, eqv_strs]
    simpa using ne
theorem depth_day (q : List Str × Nat) : (pyDay q).depth ≤ 60 := by
  unfold pyDay
  simp [PyData.depth, PyData.depthAll, depth_strsF]
theorem sort_days {l : List (List Str × Nat)} (h : l.Pairwise fun a b => lexS a.1 b.1) : dSortG (.lst (l.map eDay1)) = some (l.map eDay1) := by
  unfold dSortG
  simp only [pyL_days]
  have hs : sortableB (l.map pyDay) = true := by
    unfold sortableB
    rw [Bool.and_eq_true, Bool.and_eq_true, Bool.or_eq_true]
    refine ⟨⟨.inl ?_, ?_⟩, ?_⟩
    · rw [List.all_eq_true]
      intro x hx
      obtain ⟨q, _, rfl⟩ := List.mem_map.mp hx
      rfl
    · rw [List.all_eq_true]
      intro x hx
      obtain ⟨q, _, rfl⟩ := List.mem_map.mp hx
      exact decide_eq_true (depth_day q)
    · rw [List.all_eq_true]
      intro x hx
      obtain ⟨q, _, rfl⟩ := List.mem_map.mp hx
      rw [List.all_eq_true]
      intro y hy
      obtain ⟨q', _, rfl⟩ := List.mem_map.mp hy
      simp [pyDay, PySem.W.alike, PySem.W.alikeAll, alike_strs]
  rw [if_pos hs]
  congr 1
  refine List.mergeSort_of_pairwise ?_
  rw [List.pairwise_map]
  exact h.imp fun {a b} h => le_day h
end Pg
set_option Elab.async false
set_option linter.all false
set_option maxRecDepth 100000
set_option maxHeartbeats 2000000
/-! W3: whether all days of a web are in another one. -/
namespace Pg
open PySem PySem.Spec PyProof.Rows L2 VL
def eMark (S : List OP) : ES := S.map fun p => (kOP p, D.int 1)
theorem look_mark {S : List OP} {p : OP} : lookE (eMark S) (kOP p) = if p ∈ S then some (.int 1) else none := by
  induction S with
  | nil => rfl
  | cons a S ih =>
    unfold eMark lookE at ih ⊢
    rw [List.map_cons, List.find?_cons]
    by_cases e : a = p
    · subst e
      simp
    · have e2 : ¬ kOP a = kOP p := fun z => e (kOP_inj z)
      have e3 : ¬ p = a := fun z => e z.symm
      simp only [e2, decide_false]
      rw [ih]
      simp [e3]
def insP (S : List OP) (p : OP) : List OP := if p ∈ S then S else S ++ [p]
theorem store_mark {S : List OP} {p : OP} : storeE (eMark S) (kOP p) (.int 1) = eMark (insP S p) := by
  unfold storeE insP
  rw [look_mark]
  by_cases h : p ∈ S
  · rw [if_pos h, if_pos h]
    simp only [Option.isSome_some, if_true]
    unfold eMark
    rw [List.map_map]
    apply List.map_congr_left
    intro q _
    simp only [Function.comp_apply]
    split
    · rfl
    · rfl
  · rw [if_neg h, if_neg h]
    simp [eMark]
theorem mark_len {S : List OP} : (eMark S).length = S.length := by simp [eMark]
theorem mem_insP {S : List OP} {p q : OP} : q ∈ insP S p ↔ q ∈ S ∨ q = p := by
  unfold insP
  split
  · rename_i h
    exact ⟨.inl, fun z => z.elim id fun e => e ▸ h⟩
  · simp
theorem nd_insP {S : List OP} {p : OP} (h : S.Nodup) : (insP S p).Nodup := by
  unfold insP
  split
  · exact h
  · rename_i z
    rw [List.nodup_append]
    exact ⟨h, by simp, fun a ha b hb => by
      simp at hb
      subst hb
      exact fun e => z (e ▸ ha)⟩
theorem pairs_ones : ∀ es : List Nat, pairsOf (es.map fun (e : Nat) => D.tup [.int (e : Int), .int 1]) = some (es.map fun (e : Nat) => ((.inl (e : Int) : Key), D.int 1))
  | [] => rfl
  | e :: es => by
    have ih := pairs_ones es
    simp only [List.map_cons]
    unfold VL.pairsOf
    simp only [keyD]
    rw [ih]
theorem mrg_ones : ∀ (es S : List Nat), mrg (es.map fun (e : Nat) => ((.inl (e : Int) : Key), D.int 1)) (kI S, S.map fun _ => D.int 1) = (kI (es.foldl insN S), (es.foldl insN S).map fun _ => D.int 1)
  | [], S => rfl
  | e :: es, S => by
    simp only [List.map_cons, mrg, List.foldl_cons]
    rw [putL_kI]
    exact mrg_ones es _
theorem mem_fold : ∀ {es S : List Nat} {i : Nat}, i ∈ es.foldl insN S ↔ i ∈ S ∨ i ∈ es
  | [], S, i => by simp
  | e :: es, S, i => by
    rw [List.foldl_cons, mem_fold, mem_insN]
    simp [or_assoc]
theorem nd_fold : ∀ {es S : List Nat}, S.Nodup → (es.foldl insN S).Nodup
  | [], S, h => h
  | e :: es, S, h => by
    rw [List.foldl_cons]
    exact nd_fold (insN_nodup h)
abbrev eOnes (S : List Nat) : T := .od (kI S) (S.map fun _ => .fz (.int 1))
section
variable (P : Program) (w : World)
def wi_put : WS := (wIfS (wAnd (wViewT (wB (w2 (oR2 (dIn false)) (wVar 12) (wVar 2)))) (wB (wInN P w true (wVar 13) 5))) (wSeq (wPutN P w 5 (wC (.int 1)) (wVar 13))
  (wApp 4 (wVar 13))) wNext)
def wi_inner : WS := (wForK (pIx (pIx (pVar 0) (pC 0)) (pVar 9)) pairD (gT [(gN 11), (gN 12)]) (wSeq (wSetF 13 (wTup (wCons (wVar 12) (wCons (wIf (wB (w2 (oR2 (dIsN false)) (wVar 10) (wC .non))) (wC .non) (wGet (w2 oIxH (w2 oIxH (wVar 1) (wC (.int 0))) (wVar 10)) (wVar 11))) wNil))))
  (wi_put P w)))
def wi_tail : WS := (wSeq (wPar 4 5 (wCons (wLst (wCons (wTup (wCons (wC (.int 0)) (wCons (wC (.int 0)) wNil))) wNil)) (wCons (wDisp1N P w (wTup (wCons (wC (.int 0)) (wCons (wC (.int 0)) wNil))) (wC (.int 1))) wNil)))
  (wSeq (wFor (iR1 (w2 oMul (wA (oA1 (oR1 dLen)) (wCons (w2 oIxH (wVar 0) (wC (.int 0))) wNil)) (w2 oAdd (wA (oA1 (oR1 dLen)) (wCons (w2 oIxH (wVar 1) (wC (.int 0))) wNil)) (wC (.int 1))))) (gN 6) (wIfS (wViewT (wB (w2 oLt (wVar 6) (wA (oA1 (oR1 dLen)) (wCons (wVar 4) wNil))))) (wSeq (wAsg (wView2 (w2 oIxH (wVar 4) (wVar 6))) (gT [(gN 9), (gN 10)]))
  (wSeq (wIfS (wAnd (wB (w2 (oR2 (dIn false)) (wVar 9) (w2 oIxH (wVar 0) (wC (.int 1))))) (wOr (wB (w2 (oR2 (dIsN false)) (wVar 10) (wC .non))) (wB (w2 (oR2 (dIn true)) (wVar 10) (w2 oIxH (wVar 1) (wC (.int 1))))))) (wRet (wC (.bl false))) wNext)
  (wi_inner P w))) wNext))
  (wRet (wC (.bl true)))))
def wi_while : WS := (wWhile (wViewT (wB (w2 oGt (wA (oA1 (oR1 dLen)) (wCons (wVar 2) wNil)) (wVar 3)))) (wSeq (wSetF 3 (wView (wA (oA1 (oR1 dLen)) (wCons (wVar 2) wNil))))
  (wFor (iE (w2 oIxH (wVar 0) (wC (.int 0)))) (gT [(gN 7), (gN 8)]) (wIfS (wViewT (wB (w2 (oR2 (dEq true)) (wLcK (pVar 8) selV (gN 12) (wB (w2 (oR2 (dIn false)) (wVar 12) (wVar 2))) (wVar 12) [12]) (wLst wNil)))) (wPut 2 (wC (.int 1)) (wVar 7)) wNext))))
def wi_pre : WS := (wSeq (wParL [2, 3] (wCons (wA (oA1 oDict) (wCons (wLc (iL (w2 oIxH (wVar 0) (wC (.int 1)))) (gN 7) wYes (wTup (wCons (wVar 7) (wCons (wC (.int 1)) wNil))) [7]) wNil)) (wCons (wFz (w1 oNeg (wC (.int 1)))) wNil)))
  (wSeq wi_while (wi_tail P w)))
end
theorem wi_eq {P : Program} {w : World} : w__law_inside P w = wi_pre P w := rfl
theorem pIx_web {m : Tau} {rs : RM} {es : List Nat} {i : Nat} (h : m[i]? = some (some (.fz (eWeb rs es)))) : pIx (pVar i) (pC 0) m = some (eRooms rs) := by
  have e : pVar i m = some (eWeb rs es) := by
    unfold pVar
    rw [h]
  unfold pIx pC
  rw [e]
  simp [eWeb, atI, ixN]
/-- the list of the live goals of a room is empty or not -/
theorem live_goals {r : Room1} {S : List Nat} : dEq true (.lst ((r.filter fun p => decide (p.2 ∈ S)).map fun p => D.int (p.2 : Nat))) (.lst []) = some (.bl (predS r S)) := by
  have e : ((r.filter fun p => decide (p.2 ∈ S)).map fun p => D.int (p.2 : Nat)) = eInts ((r.filter fun p => decide (p.2 ∈ S)).map (·.2)) := by simp [eInts]
  rw [e, eq_nil]
  congr 2
  unfold predS
  cases q : (r.filter fun p => decide (p.2 ∈ S)) with
  | nil =>
    simp
    intro a b hb hs
    have : (a, b) ∈ r.filter fun p => decide (p.2 ∈ S) := List.mem_filter.mpr ⟨hb, by simpa using hs⟩
    rw [q] at this
    cases this
  | cons x l =>
    have hx : x ∈ r.filter fun p => decide (p.2 ∈ S) := by rw [q]; exact List.mem_cons_self
    rw [List.mem_filter] at hx
    simp
    exact ⟨x.1, x.2, hx.1, by simpa using hx.2⟩
def insW (rs : RM) (es : List Nat) (rs' : RM) (es' : List Nat) (n : Nat) (m : Tau) : Prop := ∃ (S : List Nat) (many : Int) (o7 o8 o12 : Option T), m = [some (.fz (eWeb rs es)), some (.fz (eWeb rs' es')), some (eOnes S), some (.fz (.int many)), none, none, none, o7, o8, none, none, none, o12, none] ∧
  (n : Int) = rs.length - many ∧ S.Nodup ∧ (∀ i ∈ S, live rs es i) ∧ (∀ e ∈ es, e ∈ S) ∧ -1 ≤ many ∧ many ≤ S.length ∧ (many = S.length → closedS rs S)
def insI (rs : RM) (es : List Nat) (rs' : RM) (es' : List Nat) (S : List Nat) (k : Nat) (m : Tau) : Prop := ∃ (S' : List Nat) (o7 o8 o12 : Option T), m = [some (.fz (eWeb rs es)), some (.fz (eWeb rs' es')), some (eOnes S'), some (.fz (.int (S.length : Nat))), none, none, none, o7, o8, none, none, none, o12, none] ∧
  S'.Nodup ∧ (∀ i ∈ S', live rs es i) ∧ (∀ e ∈ es, e ∈ S') ∧ S.length ≤ S'.length ∧ (S'.length = S.length → S' = S ∧ ∀ i (h : i < rs.length), i < k → predS rs[i] S = true → i ∈ S)
theorem er_ones {S : List Nat} : (eOnes S).er = .dct (kI S) (S.map fun _ => .int 1) := by simp
/-! the rooms with days -/
theorem inside_while {rs : RM} {es : List Nat} {rs' : RM} {es' S0 : List Nat} {o7 : Option T} {E : WEnds} (gd : Good rs es) (s1 : S0.Nodup) (s2 : ∀ i ∈ S0, live rs es i) (s3 : ∀ e ∈ es, e ∈ S0)
    (h : ∀ S o3 o7 o8 o12, S.Nodup → (∀ k, k ∈ S ↔ live rs es k) → E.nx [some (.fz (eWeb rs es)), some (.fz (eWeb rs' es')), some (eOnes S), o3, none, none, none, o7, o8, none, none, none, o12, none]) :
    wi_while [some (.fz (eWeb rs es)), some (.fz (eWeb rs' es')), some (eOnes S0), some (.fz (.int (-1))), none, none, none, o7, none, none, none, none, none, none] E := by
  have sm := gd.small
  have fit : ∀ {S : List Nat}, S.Nodup → (∀ i ∈ S, live rs es i) → S.length ≤ rs.length := fun hn hl => nodup_le hn fun i hi => (hl i hi).elim fun w hw => acc_lt gd hw
  unfold wi_while
  refine ⟨insW rs es rs' es', ⟨rs.length + 1, S0, -1, _, _, _, rfl, by omega, s1, s2, s3, by omega, by omega, fun e => by omega⟩, ?_⟩
  rintro n m ⟨S, many, o7, o8, o12, rfl, hn, s1, s2, s3, s4, s5, s6⟩
  have hlen := fit s1 s2
  simp [er_ones, ix_web0]
  by_cases q : many < (S.length : Int)
  · simp [q, eRooms]
    refine forL_at (insI rs es rs' es' S) ?_ ?_ ⟨S, _, _, _, rfl, s1, s2, s3, Nat.le_refl _, fun _ => ⟨rfl, fun i h z => absurd z (Nat.not_lt_zero _)⟩⟩
    · rintro k hk m ⟨S', o7, o8, o12, rfl, t1, t2, t3, t4, t5⟩ E' h1 h2 h3 h4 h5
      rw [enumD_at hk]
      have hk : k < rs.length := by simpa [enumD_len] using hk
      have hlen' := fit t1 t2
      obtain ⟨g1, g2, g3⟩ := gd.room _ (List.getElem_mem hk)
      have ek : (rs.map eRoom)[k]'(by simpa using hk) = eRoom rs[k] := by simp
      rw [ek]
      simp
      have er : eRoom rs[k] = .dct (rs[k].map fun p => .inr p.1) (rs[k].map fun p => .int (p.2 : Nat)) := rfl
      simp only [er]
      refine lcL_map (e := fun p : Str × Nat => D.int (p.2 : Nat)) (f := fun p => if decide (p.2 ∈ S') = true then some (.fz (.int (p.2 : Nat))) else none)
        (ms := fun p => [some (.fz (eWeb rs es)), some (.fz (eWeb rs' es')), some (.fz (.dct (kI S') (S'.map fun _ => .int 1))), some (.fz (.int (S.length : Nat))), none, none, none, some (.fz (.int (k : Nat))), some (.fz (.dct (rs[k].map fun p => .inr p.1) (rs[k].map fun p => .int (p.2 : Nat)))), none, none, none, some (.fz (.int (p.2 : Nat))), none])
        (fun p => rfl) (fun p hp K1 K2 h => ?_) ?_ ?_
      · simp [in_found]
        by_cases z : p.2 ∈ S'
        · simp [z] at h ⊢
          exact h
        · simp [z] at h ⊢
          exact h
      · simp only [List.length_nil]
        exact big_le (by omega)
      · rw [filterMap_if]
        simp only [List.nil_append, List.map_map, er_fz]
        rw [live_goals]
        simp only
        cases pq : predS rs[k] S' with
        | true =>
          simp [keyD]
          refine ⟨by rw [kI_len]; exact big_lt (by omega), ?_⟩
          rw [putL_kI]
          refine h1 _ ⟨insN S' k, _, _, _, rfl, insN_nodup t1, fun i hi => ?_, fun e he => mem_insN.mpr (.inl (t3 e he)), ?_, fun el => ?_⟩
          · rcases mem_insN.mp hi with hi | rfl
            · exact t2 i hi
            · exact pred_live gd hk t2 pq
          · unfold insN
            split
            · exact t4
            · simp; omega
          · unfold insN at el ⊢
            by_cases z : k ∈ S'
            · rw [if_pos z] at el ⊢
              obtain ⟨e1, e2⟩ := t5 el
              refine ⟨e1, fun i hi hik hp => ?_⟩
              by_cases zz : i = k
              · subst zz
                exact e1 ▸ z
              · exact e2 i hi (by omega) hp
            · rw [if_neg z] at el
              simp at el
              omega
        | false =>
          simp
          refine h1 _ ⟨S', _, _, _, rfl, t1, t2, t3, t4, fun el => ?_⟩
          obtain ⟨e1, e2⟩ := t5 el
          refine ⟨e1, fun i hi hik hp => ?_⟩
          by_cases zz : i = k
          · subst zz
            rw [e1] at pq
            rw [pq] at hp
            cases hp
          · exact e2 i hi (by omega) hp
    · rintro m ⟨S', o7, o8, o12, rfl, t1, t2, t3, t4, t5⟩
      refine ⟨rs.length - S.length, by omega, S', S.length, _, _, _, rfl, by omega, t1, t2, t3, by omega, by omega, fun e i hi hp => ?_⟩
      obtain ⟨e1, e2⟩ := t5 (by omega)
      subst e1
      exact e2 i hi (by rw [enumD_len]; simpa using hi) hp
  · simp [q]
    exact h S _ _ _ _ s1 fun k => ⟨fun hk => s2 k hk, fun ⟨w, hw⟩ => live_closed s3 (s6 (by omega)) hw⟩
/-! pairs of rooms -/
def tailI (P : Program) (w : World) (rs : RM) (es : List Nat) (rs' : RM) (es' : List Nat) (S : List Nat) (k : Nat) (m : Tau) : Prop := ∃ (od : List OP) (o3 o6 o7 o8 o9 o10 o11 o12 o13 : Option T),
  m = [some (.fz (eWeb rs es)), some (.fz (eWeb rs' es')), some (eOnes S), o3, some (.ol (tOPs od)), some (.on P w (eMark od)), o6, o7, o8, o9, o10, o11, o12, o13] ∧ NInv rs es rs' es' k od
def tailJ (P : Program) (w : World) (rs : RM) (es : List Nat) (rs' : RM) (es' : List Nat) (S : List Nat) (row : Room1) (i : Nat) (j : Option Nat) (s k : Nat) (m : Tau) : Prop := ∃ (od : List OP) (o3 o6 o7 o8 o11 o12 o13 : Option T),
  m = [some (.fz (eWeb rs es)), some (.fz (eWeb rs' es')), some (eOnes S), o3, some (.ol (tOPs od)), some (.on P w (eMark od)), o6, o7, o8, some (.fz (.int (i : Nat))), some (.fz (oInt j)), o11, o12, o13] ∧ MInv rs es rs' es' row (some i, j) s k od
theorem inside_inner {Pr : Program} {wd : World} {rs : RM} {es : List Nat} {rs' : RM} {es' S : List Nat} {k i : Nat} {j : Option Nat} {od : List OP} {o3 o6 o7 o8 o11 o12 o13 : Option T} {E : WEnds} (gd : Good rs es) (gd' : Good rs' es') (n1 : rs.length ≤ 60) (n2 : rs'.length ≤ 60) (hS : ∀ k, k ∈ S ↔ live rs es k)
    (ilt : i < rs.length) (jlt : ∀ k, j = some k → k < rs'.length) (I : MInv rs es rs' es' rs[i] (some i, j) k 0 od) (h : ∀ m, tailI Pr wd rs es rs' es' S (k + 1) m → E.nx m) :
    wi_inner Pr wd [some (.fz (eWeb rs es)), some (.fz (eWeb rs' es')), some (eOnes S), o3, some (.ol (tOPs od)), some (.on Pr wd (eMark od)), o6, o7, o8, some (.fz (.int (i : Nat))), some (.fz (oInt j)), o11, o12, o13] E := by
  have two : 2 ≤ sizeLine := big_le (by omega)
  have mul : rs.length * (rs'.length + 1) ≤ 60 * 61 := Nat.mul_le_mul n1 (by omega)
  have wf : ∀ r ∈ rs, ∀ q ∈ r, q.2 < rs.length := fun r hr q hq => ((gd.room r hr).2.2 q hq).2
  have wf' : ∀ r ∈ rs', ∀ q ∈ r, q.2 < rs'.length := fun r hr q hq => ((gd'.room r hr).2.2 q hq).2
  have rowOf : ∀ d j, stepO rs (some i) d = some j → (d, j) ∈ rs[i] := fun d j e => by
    simp only [stepO, Option.bind_some] at e
    rw [stepR_at ilt] at e
    exact lookup_mem e
  have nd := (gd.room _ (List.getElem_mem ilt)).2.1
  have stepAt : ∀ q ∈ rs[i], stepO rs (some i) q.1 = some q.2 := fun q hq => by
    simp only [stepO, Option.bind_some]
    rw [stepR_at ilt]
    exact lookup_nodup nd hq
  unfold wi_inner
  simp only [sx_wForK]
  rw [pIx_rooms (rs := rs) (k := i) (pIx_web rfl) rfl ilt]
  generalize rs[i] = row at I rowOf stepAt
  have er : eRoom row = .dct (row.map fun p => .inr p.1) (row.map fun p => .int (p.2 : Nat)) := rfl
  simp only [er, pairD_room]
  refine forL_at (tailJ Pr wd rs es rs' es' S row i j k) ?_ ?_ ⟨od, _, _, _, _, _, _, _, rfl, I⟩
  · rintro a ha m ⟨od, o3, o6, o7, o8, o11, o12, o13, rfl, I⟩ E' h1 h2 h3 h4 h5
    have ha' : a < row.length := by simpa using ha
    have few := I.base.few
    have ea : (row.map fun p => D.tup [.str p.1, .int (p.2 : Nat)])[a] = .tup [.str row[a].1, .int (row[a].2 : Nat)] := by simp
    rw [ea]
    have st := stepAt _ (List.getElem_mem ha')
    have old := I.old ha'
    have add := I.add wf' wf ha' st
    generalize row[a] = q at st old add
    obtain ⟨d, g⟩ := q
    simp only at st old add
    have e13 : stepP rs rs' (some i, j) d = (some g, stepO rs' j d) := by
      simp [stepP, st]
    rw [e13] at old add
    have kk := keyN_pair (some g, stepO rs' j d)
    have lk := look_mark (S := od) (p := (some g, stepO rs' j d))
    have sm := store_mark (S := od) (p := (some g, stepO rs' j d))
    have eg : eOP (some g, stepO rs' j d) = .tup [.int (g : Nat), oInt (stepO rs' j d)] := rfl
    rw [eg] at kk
    have body : wi_put Pr wd [some (.fz (eWeb rs es)), some (.fz (eWeb rs' es')), some (eOnes S), o3, some (.ol (tOPs od)), some (.on Pr wd (eMark od)), o6, o7, o8, some (.fz (.int (i : Nat))), some (.fz (oInt j)), some (.fz (.str d)), some (.fz (.int (g : Nat))), some (.fz (.tup [.int (g : Nat), oInt (stepO rs' j d)]))] E' := by
      unfold wi_put
      simp [in_found]
      by_cases z : g ∈ S
      · simp [z, kk, lk]
        by_cases y : (some g, stepO rs' j d) ∈ od
        · simp [y]
          exact h1 _ ⟨od, _, _, _, _, _, _, _, rfl, old fun _ => y⟩
        · simp [y, sm, mark_len]
          refine ⟨big_lt (by omega), ?_⟩
          have e1 : insP od (some g, stepO rs' j d) = od ++ [(some g, stepO rs' j d)] := by
            unfold insP
            rw [if_neg y]
          rw [e1]
          have eL : tOPs od ++ [T.fz (.tup [.int (g : Nat), oInt (stepO rs' j d)])] = tOPs (od ++ [(some g, stepO rs' j d)]) := by simp [eg]
          rw [eL]
          exact h1 _ ⟨od ++ [(some g, stepO rs' j d)], _, _, _, _, _, _, _, rfl, add y⟩
      · simp [z]
        exact h1 _ ⟨od, _, _, _, _, _, _, _, rfl, old fun l => (z ((hS g).mpr l)).elim⟩
    cases j with
    | none =>
      simp [oInt, dIsN, isAny, VL.isNon]
      refine ⟨two, ?_⟩
      exact body
    | some b =>
      have blt := jlt b rfl
      have eb : rs'[b]? = some rs'[b] := List.getElem?_eq_getElem blt
      simp [oInt, dIsN, isAny, VL.isNon, ix_rooms blt, eRoom, get_room]
      refine ⟨two, ?_⟩
      have es2 : (lookK (rs'[b].map fun p => .inr p.1) (rs'[b].map fun p => D.int (p.2 : Nat)) (.inr d)).getD .non = oInt (stepO rs' (some b) d) := by
        rw [get_room]
        simp only [stepO, Option.bind_some]
        rw [stepR_at blt]
        cases rs'[b].lookup d <;> rfl
      rw [es2]
      exact body
  · rintro m ⟨od, o3, o6, o7, o8, o11, o12, o13, rfl, I⟩
    rw [List.length_map] at I
    exact h _ ⟨od, _, _, _, _, _, _, _, _, _, rfl, I.done rowOf⟩
theorem inside_tail {Pr : Program} {wd : World} {rs : RM} {es : List Nat} {rs' : RM} {es' S : List Nat} {o3 o7 o8 o12 : Option T} {P : T → Prop} {R : Exn → Prop} (gd : Good rs es) (gd' : Good rs' es') (n1 : rs.length ≤ 60) (n2 : rs'.length ≤ 60) (hS : ∀ k, k ∈ S ↔ live rs es k)
    (h : ∀ b : Bool, (b = true ↔ ∀ w, acc rs es 0 w = true → acc rs' es' 0 w = true) → P (.fz (.bl b))) :
    wi_tail Pr wd [some (.fz (eWeb rs es)), some (.fz (eWeb rs' es')), some (eOnes S), o3, none, none, none, o7, o8, none, none, none, o12, none] (EV P R) := by
  have two : 2 ≤ sizeLine := big_le (by omega)
  have k0 : keyN (.tup [.int 0, .int 0]) = some (kOP (some 0, some 0)) := keyN_pair (some 0, some 0)
  have mul : rs.length * (rs'.length + 1) ≤ 60 * 61 := Nat.mul_le_mul n1 (by omega)
  have b1 : bits (rs.length : Int) ≤ 10 := bits_lt (by omega)
  have wf : ∀ r ∈ rs, ∀ q ∈ r, q.2 < rs.length := fun r hr q hq => ((gd.room r hr).2.2 q hq).2
  have wf' : ∀ r ∈ rs', ∀ q ∈ r, q.2 < rs'.length := fun r hr q hq => ((gd'.room r hr).2.2 q hq).2
  unfold wi_tail
  simp [k0, eRooms, dLen]
  have b2 : bits ((rs'.length : Int) + 1) ≤ 10 := by
    have := bits_lt (v := rs'.length + 1) (by omega)
    simpa using this
  have cb : CMulB (rs.length : Nat) ((rs'.length : Int) + 1) := by
    unfold CMulB
    omega
  have em : (rs.length : Int) * ((rs'.length : Int) + 1) = ((rs.length * (rs'.length + 1) : Nat) : Int) := by simp
  refine ⟨two, big_le (by omega), two, cb, ⟨by omega, by omega⟩, ?_⟩
  rw [em, Int.toNat_natCast]
  refine forL_at (tailI Pr wd rs es rs' es' S) ?_ ?_ ⟨[(some 0, some 0)], _, _, _, _, _, _, _, _, _, rfl, NInv.init gd.pos gd'.pos⟩
  · rintro k hk m ⟨od, o3, o6, o7, o8, o9, o10, o11, o12, o13, rfl, I⟩ E' h1 h2 h3 h4 h5
    rw [rngD_at hk]
    have few := I.few
    simp [dLen]
    by_cases q : k < od.length
    · have hp : od[k]? = some od[k] := List.getElem?_eq_getElem q
      generalize od[k] = p at hp
      have hin := List.mem_of_getElem? hp
      obtain ⟨o1, o2, o2'⟩ := I.ok p hin
      obtain ⟨i, hi⟩ := Option.isSome_iff_exists.mp o1
      obtain ⟨p1, j⟩ := p
      simp only at hi
      subst hi
      have ilt := o2 i rfl
      have ip := ix_OPs hp
      have ej : dIsN false (oInt j) .non = some (.bl (!j.isSome)) := by cases j <;> simp [oInt, dIsN, isAny, VL.isNon]
      have ein : dIn true (oInt j) (.lst (eInts es')) = some (.bl (!accO rs' es' j [])) ∨ j = none := by
        cases j with
        | none => exact .inr rfl
        | some b => exact .inl (by simp [oInt, dIn_nat, accO, acc])
      have ei : oInt (some i) = .int (i : Nat) := rfl
      have fl : fltD (D.int (i : Nat)) = true := by simp [fltD]
      simp [q, ip, eOP, ei, fl]
      have bd : badI rs es rs' es' (some i, j) = (decide (i ∈ es) && !accO rs' es' j []) := by simp [badI, accO, acc]
      have go : badI rs es rs' es' (some i, j) = false → ∀ o3 o6 o7 o8 o11 o12 o13, wi_inner Pr wd [some (.fz (eWeb rs es)), some (.fz (eWeb rs' es')), some (eOnes S), o3, some (.ol (tOPs od)), some (.on Pr wd (eMark od)), o6, o7, o8, some (.fz (.int (i : Nat))), some (.fz (oInt j)), o11, o12, o13] E' := fun z o3 o6 o7 o8 o11 o12 o13 =>
        inside_inner gd gd' n1 n2 hS ilt o2' (I.begin hp z) h1
      have bad : badI rs es rs' es' (some i, j) = true → P (.fz (.bl false)) := fun z => h false ⟨fun y => (Bool.false_ne_true y).elim, fun y => (I.no hin z y).elim⟩
      rw [bd] at go bad
      simp only [dIn_nat, ej]
      by_cases z : i ∈ es
      · simp [z] at go bad ⊢
        cases hj : j with
        | none =>
          subst hj
          simp
          exact h4 _ _ (bad rfl)
        | some b =>
          subst hj
          simp
          rcases ein with ein | ein
          · rw [ein]
            cases y : accO rs' es' (some b) [] with
            | true => simp [y] at go ⊢; exact go _ _ _ _ _ _ _
            | false => simp [y] at bad ⊢; exact h4 _ _ bad
          · cases ein
      · simp [z] at go ⊢
        exact go _ _ _ _ _ _ _
    · have q' : ¬ (k : Int) < od.length := by omega
      simp [q]
      exact h1 _ ⟨od, _, _, _, _, _, _, _, _, _, rfl, I.past (by omega) _⟩
  · rintro m ⟨od, o3, o6, o7, o8, o9, o10, o11, o12, o13, rfl, I⟩
    have few := I.few
    refine h true ⟨fun _ => I.yes (by rw [rngD_len]; exact few), fun _ => rfl⟩
theorem sp_inside (Pr : Program) (wd : World) (xs : List T) (P : T → Prop) (R : Exn → Prop) (hn : xs.length = 2) (h : o_inside xs P R) : w__law_inside Pr wd (VL.startT 14 xs) (EV P R) := by
  obtain ⟨rs, es, rs', es', rfl, gd, gd', n1, n2, h⟩ := h
  have two : 2 ≤ sizeLine := big_le (by omega)
  have few := gd.few
  rw [wi_eq]
  unfold wi_pre
  simp
  refine lcL_map (e := fun (i : Nat) => D.int (i : Int)) (f := fun i => some (.fz (.tup [.int (i : Nat), .int 1])))
    (ms := fun (i : Nat) => [some (.fz (eWeb rs es)), some (.fz (eWeb rs' es')), none, none, none, none, none, some (.fz (.int (i : Nat))), none, none, none, none, none, none]) (fun i => rfl) (fun i hi K1 K2 h => ?_) ?_ ?_
  · simp
    exact ⟨two, h⟩
  · simp only [List.length_nil]
    exact big_le (by omega)
  · simp only [List.nil_append, filterMap_some, List.map_map, er_fz, oDict, sx_T_er_2, sx_erL_map]
    rw [pairs_ones]
    have := mrg_ones es []
    simp only [kI, List.map_nil] at this
    simp [this]
    have e1 : (T.od (List.map (fun k : Nat => (Sum.inl (k : Int) : Key)) (es.foldl insN [])) (List.map (fun _ => T.fz (.int 1)) (es.foldl insN []))) = eOnes (es.foldl insN []) := rfl
    refine inside_while gd (nd_fold List.nodup_nil) (fun i hi => ?_) (fun e he => ?_) fun S o3 o7 o8 o12 nd hS => ?_
    · rcases mem_fold.mp hi with hi | hi
      · cases hi
      · exact ⟨[], by simpa [acc] using hi⟩
    · exact mem_fold.mpr (.inr he)
    · exact inside_tail gd gd' n1 n2 hS h
end Pg
set_option Elab.async false
set_option linter.all false
set_option maxRecDepth 100000
set_option maxHeartbeats 2000000
/-! W5: days_to keeps its promise. -/
namespace Pg
open PySem PySem.Spec PyProof.Rows L2 VL
abbrev tDay1 (l : List (List Str × Nat)) : List T := l.map fun q => .fz (eDay1 q)
def dtI (rs : RM) (es : List Nat) (n : Nat) (k : Nat) (m : Tau) : Prop := ∃ (o4 o5 o6 o7 o8 : Option T), m = [some (.fz (eWeb rs es)), some (.fz (.int (n : Nat))), some (.fz (.lst (eDays (daysTo rs es k)))), some (.fz (.lst ((rowsAt rs k).map eDay1))), o4, o5, o6, o7, o8]
theorem walk_lt {rs : RM} (pos : 0 < rs.length) (wf : ∀ r ∈ rs, ∀ p ∈ r, p.2 < rs.length) : ∀ {n : Nat} {q : List Str × Nat}, q ∈ rowsAt rs n → q.2 < rs.length
  | 0, q, h => by
    simp [rowsAt] at h
    rw [h]
    exact pos
  | n + 1, q, h => by
    simp only [rowsAt, List.mem_flatMap, List.mem_map] at h
    obtain ⟨q', _, p, hp, rfl⟩ := h
    rw [mem_sortR] at hp
    simp only [stepR] at hp
    cases e : rs[q'.2]? with
    | none => rw [e] at hp; cases hp
    | some r =>
      rw [e] at hp
      exact wf r (List.mem_of_getElem? e) _ (lookup_mem hp)
theorem take_flat {α β : Type} {l : List α} {f : α → List β} {i : Nat} (h : i < l.length) : (l.take (i + 1)).flatMap f = (l.take i).flatMap f ++ f l[i] := by
  rw [List.take_succ_eq_append_getElem h, List.flatMap_append]
  simp
theorem flat_take_len {α β : Type} {l : List α} {f : α → List β} {i : Nat} : ((l.take i).flatMap f).length ≤ (l.flatMap f).length := by
  have : l.flatMap f = (l.take i).flatMap f ++ (l.drop i).flatMap f := by rw [← List.flatMap_append, List.take_append_drop]
  rw [this]
  simp
def dtK (rs : RM) (es : List Nat) (n k : Nat) (f : D) (base : List (List Str × Nat)) (q : List Str × Nat) (j : Nat) (m : Tau) : Prop := ∃ (o4 o8 : Option T), m = [some (.fz (eWeb rs es)), some (.fz (.int (n : Nat))), some (.fz f), some (.fz (.lst ((rowsAt rs k).map eDay1))), o4, some (.ol (tDay1 (base ++ ((sortR rs q.2).take j).map fun p => (q.1 ++ [p.1], p.2)))), some (.fz (.lst (eStrs q.1))), some (.fz (.int (q.2 : Nat))), o8]
def dtJ (rs : RM) (es : List Nat) (n k : Nat) (f : D) (i : Nat) (m : Tau) : Prop := ∃ (o4 o6 o7 o8 : Option T), m = [some (.fz (eWeb rs es)), some (.fz (.int (n : Nat))), some (.fz f), some (.fz (.lst ((rowsAt rs k).map eDay1))), o4, some (.ol (tDay1 (((rowsAt rs k).take i).flatMap fun q => (sortR rs q.2).map fun p => (q.1 ++ [p.1], p.2)))), o6, o7, o8]
theorem sp_days_to (xs : List T) (P : T → Prop) (R : Exn → Prop) (hn : xs.length = 2) (h : o_days_to xs P R) : w__law_days_to (VL.startT 9 xs) (EV P R) := by
  obtain ⟨rs, es, n, rfl, gd, n60, lim, h⟩ := h
  have two : 2 ≤ sizeLine := big_le (by omega)
  have nd : ∀ r ∈ rs, (r.map (·.1)).Nodup := fun r hr => (gd.room r hr).2.1
  unfold w__law_days_to
  simp
  refine ⟨two, big_le (by omega), ⟨by omega, by omega⟩, ?_⟩
  refine forL_at (dtI rs es n) ?_ ?_ ⟨_, _, _, _, _, rfl⟩
  · rintro k hk m ⟨o4, o5, o6, o7, o8, rfl⟩ E' h1 h2 h3 h4 h5
    rw [rngD_at hk]
    rw [rngD_len] at hk
    have lk := lim k (by omega)
    have lk1 := lim (k + 1) (by omega)
    simp
    have dl := daysTo_len (es := es) (n := k) (c := 5000) fun j hj => lim j (by omega)
    have fl := List.length_filter_le (fun q : List Str × Nat => decide (q.2 ∈ es)) (rowsAt rs k)
    refine lcL_map (e := eDay1) (f := fun q => if decide (q.2 ∈ es) = true then some (.fz (.lst (eStrs q.1))) else none)
      (ms := fun q => [some (.fz (eWeb rs es)), some (.fz (.int (n : Nat))), some (.fz (.lst (eDays (daysTo rs es k)))), some (.fz (.lst ((rowsAt rs k).map eDay1))), some (.fz (.int (k : Nat))), o5, some (.fz (.lst (eStrs q.1))), some (.fz (.int (q.2 : Nat))), o8]) (fun q => rfl) (fun q hq K1 K2 h => ?_) ?_ ?_
    · simp [eDay1, dIn_nat]
      by_cases z : q.2 ∈ es
      · simp [z] at h ⊢
        exact h
      · simp [z] at h ⊢
        exact h
    · simp only [List.length_nil]
      exact big_le (by omega)
    · rw [filterMap_if]
      have ed : (eDays (daysTo rs es k) ++ ((rowsAt rs k).filter fun q => decide (q.2 ∈ es)).map fun q => D.lst (eStrs q.1)) = eDays (daysTo rs es (k + 1)) := by
        simp [eDays, daysTo, daysAt, List.map_map]
      simp
      refine ⟨?_, ?_⟩
      · simp [eDays]
        exact big_le (by omega)
      have ed' : eDays (daysTo rs es k) ++ List.map (T.er ∘ fun x => T.fz (D.lst (eStrs x.fst))) ((rowsAt rs k).filter fun q => decide (q.2 ∈ es)) = eDays (daysTo rs es (k + 1)) := ed
      clear ed' dl fl
      have e0 : T.ol [] = .ol (tDay1 (((rowsAt rs k).take 0).flatMap fun q => (sortR rs q.2).map fun p => (q.1 ++ [p.1], p.2))) := rfl
      rw [ed, e0]
      refine forL_at (dtJ rs es n k (.lst (eDays (daysTo rs es (k + 1))))) ?_ ?_ ⟨_, _, _, _, rfl⟩
      · rintro i hi m ⟨o4, o6, o7, o8, rfl⟩ E2 g1 g2 g3 g4 g5
        have hi' : i < (rowsAt rs k).length := by simpa using hi
        have hq := List.getElem_mem hi'
        have tf := take_flat (f := fun q : List Str × Nat => (sortR rs q.2).map fun p => (q.1 ++ [p.1], p.2)) hi'
        have tl := flat_take_len (l := rowsAt rs k) (f := fun q : List Str × Nat => (sortR rs q.2).map fun p => (q.1 ++ [p.1], p.2)) (i := i + 1)
        have tl1 : ((rowsAt rs k).flatMap fun q => (sortR rs q.2).map fun p => (q.1 ++ [p.1], p.2)).length ≤ 5000 := lk1
        have ei : ((rowsAt rs k).map eDay1)[i] = eDay1 (rowsAt rs k)[i] := by simp
        rw [ei]
        have next : ∀ o4 o6 o7 o8, E2.nx [some (.fz (eWeb rs es)), some (.fz (.int (n : Nat))), some (.fz (.lst (eDays (daysTo rs es (k + 1))))), some (.fz (.lst ((rowsAt rs k).map eDay1))), o4, some (.ol (tDay1 (((rowsAt rs k).take (i + 1)).flatMap fun q => (sortR rs q.2).map fun p => (q.1 ++ [p.1], p.2)))), o6, o7, o8] := fun o4 o6 o7 o8 => g1 _ ⟨o4, o6, o7, o8, rfl⟩
        rw [tf] at tl next
        generalize (rowsAt rs k)[i] = q at hq next tl ⊢
        have qlt := walk_lt gd.pos (fun r hr p hp => ((gd.room r hr).2.2 p hp).2) hq
        have qlen := (mem_rowsAt.mp hq).1
        obtain ⟨r1, r2, r3⟩ := gd.room _ (List.getElem_mem qlt)
        simp [eDay1, ix_rooms qlt, sort_room r1]
        have esr : eStrs (sS ((rs[q.2]).map (·.1))) = (sortR rs q.2).map fun p => D.str p.1 := by
          unfold sortR eStrs
          rw [List.map_map, List.getD_eq_getElem?_getD, List.getElem?_eq_getElem qlt]
          rfl
        rw [esr]
        generalize ((rowsAt rs k).take i).flatMap (fun q => (sortR rs q.2).map fun p => (q.1 ++ [p.1], p.2)) = base at next tl ⊢
        rw [List.length_append, List.length_map] at tl
        have bl : base = base ++ ((sortR rs q.2).take 0).map fun p => (q.1 ++ [p.1], p.2) := by simp
        refine forL_at (dtK rs es n k (.lst (eDays (daysTo rs es (k + 1)))) base q) ?_ ?_ ⟨_, _, by rw [← bl]⟩
        · rintro j hj m ⟨o4, o8, rfl⟩ E3 f1 f2 f3 f4 f5
          have hj' : j < (sortR rs q.2).length := by simpa using hj
          have ej : ((sortR rs q.2).map fun p => D.str p.1)[j] = .str (sortR rs q.2)[j].1 := by simp
          have tj : (sortR rs q.2).take (j + 1) = (sortR rs q.2).take j ++ [(sortR rs q.2)[j]] := List.take_succ_eq_append_getElem hj'
          have mj := mem_sortR.mp (List.getElem_mem hj')
          rw [ej]
          have tl3 : ((sortR rs q.2).take j).length ≤ (sortR rs q.2).length := by rw [List.length_take]; omega
          have nx : ∀ o4 o8, E3.nx [some (.fz (eWeb rs es)), some (.fz (.int (n : Nat))), some (.fz (.lst (eDays (daysTo rs es (k + 1))))), some (.fz (.lst ((rowsAt rs k).map eDay1))), o4, some (.ol (tDay1 (base ++ ((sortR rs q.2).take (j + 1)).map fun p => (q.1 ++ [p.1], p.2)))), some (.fz (.lst (eStrs q.1))), some (.fz (.int (q.2 : Nat))), o8] := fun o4 o8 => f1 _ ⟨o4, o8, rfl⟩
          rw [tj] at nx
          generalize (sortR rs q.2)[j] = p at mj nx ⊢
          rw [stepR_at qlt] at mj
          simp [ix_rooms qlt, mj, eStrs]
          refine ⟨big_le (by omega), big_le (by omega), two, big_lt (by omega), ?_⟩
          have := nx o4 (some (T.fz (D.str p.1)))
          have ee : (T.er ∘ T.fz ∘ D.str) = D.str := rfl
          simpa [eStrs, eDay1, ee] using this
        · rintro m ⟨o4, o8, rfl⟩
          have et : (sortR rs q.2).take ((sortR rs q.2).map fun p => D.str p.1).length = sortR rs q.2 := List.take_of_length_le (by simp)
          rw [et]
          exact next _ _ _ _
      · rintro m ⟨o4, o6, o7, o8, rfl⟩
        have et : (rowsAt rs k).take ((rowsAt rs k).map eDay1).length = rowsAt rs k := List.take_of_length_le (by simp)
        rw [et]
        have er : ((rowsAt rs k).flatMap fun q => (sortR rs q.2).map fun p => (q.1 ++ [p.1], p.2)) = rowsAt rs (k + 1) := rfl
        rw [er]
        simp [Function.comp_def, sort_days (rowsAt_pw nd (k + 1))]
        exact h1 _ ⟨_, _, _, _, _, rfl⟩
  · rintro m ⟨o4, o5, o6, o7, o8, rfl⟩
    rw [rngD_len]
    simp
    refine h _ (fun w => ?_) (daysTo_pw nd _)
    rw [mem_daysTo]
    exact ⟨fun z => ⟨by omega, z.2⟩, fun z => ⟨by omega, z.2⟩⟩
theorem sp_web_of (xs : List T) (P : T → Prop) (R : Exn → Prop) (hn : xs.length = 1) (h : o_web_of xs P R) : w__law_web_of (VL.startT 2 xs) (EV P R) := by
  obtain ⟨lr, le, rfl, few, nd, h⟩ := h
  have two : 2 ≤ sizeLine := big_le (by omega)
  have i0 : dIx (eLeastW lr le) (.int 0) = some (.lst (lr.map fun r => .lst (r.map fun p => .tup [.str p.1, .int (p.2 : Nat)]))) := by simp [eLeastW, dIx, atI, ixN]
  have i1 : dIx (eLeastW lr le) (.int 1) = some (.lst (eInts le)) := by simp [eLeastW, dIx, atI, ixN]
  unfold w__law_web_of
  simp [i0, i1]
  refine lcL_map (own := [1]) (m := [some (.fz (eLeastW lr le)), none]) (e := fun r : Room1 => D.lst (r.map fun p => .tup [.str p.1, .int (p.2 : Nat)])) (ms := fun r => [some (.fz (eLeastW lr le)), some (.fz (.lst (r.map fun p => .tup [.str p.1, .int (p.2 : Nat)])))]) (f := fun r => some (tRoom r)) (fun r => rfl) (fun r hr K1 K2 h => ?_) ?_ ?_
  · have eT : T.od (r.map fun p => .inr p.1) (r.map fun p => .fz (.int (p.2 : Nat))) = tRoom r := rfl
    have pr := pairs_room r
    rw [pairD_room] at pr
    simp [oDict, pr, mrg_room (r := r) (ks := []) (l := []) (fun p _ z => (List.not_mem_nil z)) (nd r hr)]
    exact h
  · simp only [List.length_nil]
    exact big_le (by omega)
  · simp only [List.nil_append, filterMap_some]
    have er1 : (tRms lr).map T.er = lr.map eRoom := by
      rw [List.map_map]
      exact List.map_congr_left fun r _ => er_room
    simp [er1]
    exact ⟨two, h⟩
end Pg
set_option Elab.async false
set_option linter.all false
set_option maxRecDepth 100000
set_option maxHeartbeats 1000000
/-! K10w: the law's own defs: meanings. -/
namespace Pg
open PySem PySem.Spec PyProof.Rows L2 VL
-- _law_fits: 0 _law_jar_here, 1 _law_callings_here, 2 _law_web_here, 3 _law_bent, 4 _law_made, 5 _law_mate, 6 _law_webs, 7 _law_rules_here, 8 _law_at, 9 _law_day, 10 _law_both_here, 11 _law_either, 12 _law_far, 13 _law_owed, 14 _law_told, 15 _law_some
def w__law_fits_8 (C_Rule : Addr) : WS := (wSeq (wPar 10 11 (wCons (wFz (w2 (oOwn2 C_Rule (oFn 2 (o_both C_Rule true))) (wVar 4) (wVar 5))) (wCons (wFz (w2 (oOwn2 C_Rule (oFn 2 (o_both C_Rule false))) (wVar 4) (wVar 5))) wNil)))
  (wSeq (wIfS (wOr (wNot (wB (wMeth C_Rule "within" (oFn 2 (o_within C_Rule)) (wVar 10) (wCons (wVar 4) wNil)))) (wOr (wNot (wB (wMeth C_Rule "within" (oFn 2 (o_within C_Rule)) (wVar 4) (wCons (wVar 11) wNil)))) (wNot (wB (wMeth C_Rule "within" (oFn 2 (o_within C_Rule)) (wVar 10) (wCons (wVar 11) wNil)))))) (wRet (wC (.bl false))) wNext)
  (wSeq (wIfS (wOr (wB (w2 (oR2 (dEq true)) (wMeth C_Rule "within" (oFn 2 (o_within C_Rule)) (wVar 4) (wCons (wVar 10) wNil)) (wMeth C_Rule "within" (oFn 2 (o_within C_Rule)) (wVar 4) (wCons (wVar 5) wNil)))) (wB (w2 (oR2 (dEq true)) (wMeth C_Rule "within" (oFn 2 (o_within C_Rule)) (wVar 11) (wCons (wVar 4) wNil)) (wMeth C_Rule "within" (oFn 2 (o_within C_Rule)) (wVar 5) (wCons (wVar 4) wNil))))) (wRet (wC (.bl false))) wNext)
  (wRet (wAndV (w2 (oEqO C_Rule (oFn 2 (o_eq C_Rule))) (wVar 4) (wFz (wA (oFn 1 (o_made C_Rule)) (wCons (wVar 2) wNil)))) (w2 (oEqO C_Rule (oFn 2 (o_eq C_Rule))) (wVar 5) (wFz (wA (oFn 1 (o_made C_Rule)) (wCons (wVar 3) wNil)))))))))
def w__law_fits_7 (C_Rule : Addr) : WS := (wSeq (wFor (iL (wCut (wA (oFn 2 o_days_to) (wCons (wVar 2) (wCons (wC (.int 3)) wNil))) wNo (wPart (wC (.int 30))))) (gN 9) (wIfS (wAnd (wB (wMeth C_Rule "within" (oFn 2 (o_within C_Rule)) (wVar 4) (wCons (wFz (w2 oIxH (wVar 7) (wC (.int 2)))) wNil))) (wNot (wB (wMeth C_Rule "has" (oFn 2 (o_has C_Rule)) (wFz (w2 oIxH (wVar 7) (wC (.int 2)))) (wCons (wVar 9) wNil))))) (wRet (wC (.bl false))) wNext))
  (w__law_fits_8 C_Rule))
def w__law_fits_6 (C_Rule : Addr) : WS := (wSeq (wFor (iR1 (wC (.int 5))) (gN 8) (wFor (iR1 (wC (.int 5))) (gN 12) (wSeq (wSetF 13 (wA (oFn 2 o_inside) (wCons (wFz (w2 oIxH (wVar 6) (wVar 8))) (wCons (wFz (w2 oIxH (wVar 6) (wVar 12))) wNil))))
  (wSeq (wSetF 14 (wLst (wCons (wMeth C_Rule "within" (oFn 2 (o_within C_Rule)) (wFz (w2 oIxH (wVar 7) (wVar 8))) (wCons (wFz (w2 oIxH (wVar 7) (wVar 12))) wNil)) (wCons (wMeth C_Rule "within" (oFn 2 (o_within C_Rule)) (w2 oIxH (wVar 7) (wVar 8)) (wCons (wFz (w2 oIxH (wVar 7) (wVar 12))) wNil)) wNil))))
  (wIfS (wB (w2 (oR2 (dEq true)) (wA (oA1 (oR1 dRepr)) (wCons (wVar 14) wNil)) (wA (oA1 (oR1 dRepr)) (wCons (wLst (wCons (wVar 13) (wCons (wVar 13) wNil))) wNil)))) (wRet (wC (.bl false))) wNext)))))
  (w__law_fits_7 C_Rule))
def w__law_fits (C_Rule : Addr) : WS := (wSeq (wSetF 1 (wIO 0 2 o_callings (wCons (wFz (w2 oAdd (wC (.int 1)) (wIO 0 2 o_grab (wCons (wC (.int 5)) wNil)))) wNil)))
  (wSeq (wSetF 2 (wIO 0 3 o_web (wCons (wC (.int 6)) (wCons (wVar 1) wNil))))
  (wSeq (wSetF 3 (wIO 0 3 o_bent_web (wCons (wVar 2) (wCons (wVar 1) wNil))))
  (wSeq (wPar 4 5 (wCons (wFz (wA (oFn 1 (o_made C_Rule)) (wCons (wVar 2) wNil))) (wCons (wFz (wA (oFn 1 (o_made C_Rule)) (wCons (wFz (wIO 0 2 o_blown_web (wCons (wVar 3) wNil))) wNil))) wNil)))
  (wSeq (wSetF 6 (wLst (wCons (wVar 2) (wCons (wVar 3) (wCons (wIO 0 3 o_web (wCons (wC (.int 6)) (wCons (wVar 1) wNil))) (wCons (wTup (wCons (wLst (wCons wNewD wNil)) (wCons (wLst wNil) wNil))) (wCons (wTup (wCons (wLst (wCons wNewD wNil)) (wCons (wLst (wCons (wC (.int 0)) wNil)) wNil))) wNil)))))))
  (wSeq (wSetF 7 (w2 oAdd (wLst (wCons (wVar 4) (wCons (wVar 5) wNil))) (wLc (iL (wCut (wVar 6) (wPart (wC (.int 2))) wNo)) (gN 15) wYes (wA (oFn 1 (o_made C_Rule)) (wCons (wVar 15) wNil)) [15])))
  (w__law_fits_6 C_Rule)))))))
-- law: 0 _law_script, 1 _law_place
def w_law (K : PySem.W.Frag) : WS := (wSeq (wFor (iR1 (wA (oA2 oMin) (wCons (wC (.int 16)) (wCons (w2 oSub (w2 oAdd (wScrLen K 0) (wC (.int 1))) (wA (oA1 (oR1 dInt)) (wCons (w2 oGt (wScrLen K 0) (wC (.int 0))) wNil))) wNil)))) (gN 1) (wIfS (wNot (wB (wA (oFn 1 o_fits) (wCons (wA (oFn 2 (o_jar K)) (wCons (wVar 0) (wCons (wVar 1) wNil))) wNil)))) (wRet (wC (.bl false))) wNext))
  (wRet (wC (.bl true))))
end Pg
set_option Elab.async false
set_option linter.all false
set_option maxRecDepth 100000
set_option maxHeartbeats 2000000
/-! LG: tests that are known, expressions that tell rules. -/
namespace Pg
open PySem PySem.Spec PyProof.Rows L2 VL
def TB (wt : WT) (m : Tau) (b : Bool) : Prop := ∀ Q : Bool → Tau → Prop, Q b m → wt m Q
section
variable {C : Addr} {l : List Str} {k k1 k2 : Nat} {L L1 L2 : List Str → Bool} {a b : WE} {s t : WT} {u v : WS} {m : Tau} {φ ψ : Prop} {x y : Bool} {E : WEnds}
theorem tb_of (h : BV a m φ) (hx : x = true ↔ φ) : TB (wB a) m x := fun Q q => by
  simp only [sx_wB]
  refine h _ fun b hb => ?_
  have : b = x := Bool.eq_iff_iff.mpr (hb.trans hx.symm)
  rw [this]
  exact q
theorem tb_yes (h : BV a m φ) (p : φ) : TB (wB a) m true := tb_of h ⟨fun _ => p, fun _ => rfl⟩
theorem tb_not (h : TB s m x) : TB (wNot s) m (!x) := fun Q q => by
  simp only [sx_wNot]
  exact h _ q
theorem tb_or (hs : TB s m x) (ht : TB t m y) : TB (wOr s t) m (x || y) := fun Q q => by
  simp only [sx_wOr]
  refine hs _ ?_
  cases x with
  | true => exact q
  | false => exact ht _ q
theorem tb_and (hs : TB s m x) (ht : TB t m y) : TB (wAnd s t) m (x && y) := fun Q q => by
  simp only [sx_wAnd]
  refine hs _ ?_
  cases x with
  | true => exact ht _ q
  | false => exact q
theorem tb_ne (ha : BV a m φ) (hb : BV b m ψ) (h : φ ↔ ψ) : TB (wB (w2 (oR2 (dEq true)) a b)) m false := fun Q q => by
  simp only [sx_wB, sx_w2]
  refine ha _ fun x hx => ?_
  refine hb _ fun y hy => ?_
  have : x = y := Bool.eq_iff_iff.mpr (hx.trans (h.trans hy.symm))
  subst this
  simp [neq_bl]
  exact q
theorem st_iff (h : TB s m false) (q : v m E) : wIfS s u v m E := by
  simp only [sx_wIfS]
  exact h _ q
theorem st_ifx (h : TB s m x) (hx : x = false) (q : v m E) : wIfS s u v m E := by
  subst hx
  exact st_iff h q
theorem st_ift (h : TB s m true) (q : u m E) : wIfS s u v m E := by
  simp only [sx_wIfS]
  exact h _ q
theorem st_retB (h : BV a m φ) (p : φ) (q : E.rt (.fz (.bl true)) m) : wRet a m E := by
  simp only [sx_wRet]
  refine h _ fun b hb => ?_
  rw [hb.mpr p]
  exact q
theorem rv_less (h : RV C l k L a m) (hk : k ≤ k1) : RV C l k1 L a m := fun Q q => h Q fun lr le r n e => q lr le r (by omega) e
theorem rv_made {i : Nat} {rs : RM} {es : List Nat} (e : m[i]? = some (some (.fz (eWeb rs es)))) (g : Good rs es) (over : ∀ r ∈ rs, ∀ p ∈ r, p.1 ∈ l) (hk : rs.length ≤ k) : RV C l k (acc rs es 0) (wFz (wA (oFn 1 (o_made C)) (wCons (wVar i) wNil))) m := fun Q q => by
  simp [e]
  refine ⟨rs, es, rfl, g, fun lr le hl => ?_⟩
  show Q (T.fz (tRule C lr le).er) m
  rw [er_rule]
  exact q lr le (hl.ru over) (Nat.le_trans hl.len hk) hl.lang
theorem rv_item {i : Nat} {ds : List D} {j : Nat} {ix : WE} {lr : RM} {le : List Nat} (e : m[i]? = some (some (.fz (.lst ds)))) (hx : ∀ Q : T → Tau → Prop, Q (.fz (.int (j : Nat))) m → ix m Q) (hj : ds[j]? = some (eRule C lr le)) (r : Ru l lr le) (hk : lr.length ≤ k) (hL : ∀ w, acc lr le 0 w = L w) : RV C l k L (w2 oIxH (wVar i) ix) m := fun Q q => by
  simp only [sx_w2, sx_wVar, e]
  refine hx _ ?_
  obtain ⟨h1, h2⟩ := List.getElem?_eq_some_iff.mp hj
  simp [dIx, atI_nat h1, h2]
  exact q lr le r hk hL
theorem rv_fz (h : RV C l k L a m) : RV C l k L (wFz a) m := fun Q q => by
  simp only [sx_wFz]
  exact h _ q
theorem bv_has {w : List Str} {i : Nat} (ha : RV C l k L a m) (e : m[i]? = some (some (.fz (.lst (eStrs w))))) (nm : ∀ d ∈ w, PyData.strOk d = true) : BV (wMeth C "has" (oFn 2 (o_has C)) a (wCons (wVar i) wNil)) m (L w = true) := fun Q q => by
  simp only [sx_wMeth]
  refine ha _ fun lr le r1 n1 e1 => ?_
  simp only [eRule, sx_wCons, sx_wNil]
  refine ⟨trivial, by decide +kernel, ?_⟩
  simp [e]
  exact ⟨lr, le, w, rfl, r1.wf, nm, q _ (by rw [e1])⟩
end
theorem eq_str_self {neg : Bool} {z : Str} (h : SeqAt.shaped (PyData.str z) = true) : dEq neg (.str z) (.str z) = some (.bl (!neg)) := by
  unfold dEq
  simp only [pyD, h]
  cases neg <;> simp [PyData.eqv]
theorem repr_bl (b : Bool) : dRepr (.bl b) = some (.str (PyData.bool b).shown) := by
  have h : shows (PyData.bool b) = true := by cases b <;> decide +kernel
  unfold dRepr
  simp only [pyD, h, if_true]
theorem repr_bls (a b : Bool) : dRepr (.lst [.bl a, .bl b]) = some (.str (PyData.list [.bool a, .bool b]).shown) := by
  have h : shows (PyData.list [.bool a, .bool b]) = true := by cases a <;> cases b <;> decide +kernel
  unfold dRepr
  simp only [pyD, pyL, h, if_true]
theorem eq_bl (b : Bool) (neg : Bool) : dEq neg (.str (PyData.bool b).shown) (.str (PyData.bool b).shown) = some (.bl (!neg)) := eq_str_self (by cases b <;> decide +kernel)
theorem eq_bls (b : Bool) (neg : Bool) : dEq neg (.str (PyData.list [.bool b, .bool b]).shown) (.str (PyData.list [.bool b, .bool b]).shown) = some (.bl (!neg)) := eq_str_self (by cases b <;> decide +kernel)
end Pg
set_option Elab.async false
set_option linter.all false
set_option maxRecDepth 100000
set_option maxHeartbeats 2000000
/-! K10f: the law, fits. -/
namespace Pg
open PySem PySem.Spec PyProof.Rows L2 VL
theorem cb_and : ∀ {x y : Bool}, comb true x y = true ↔ x = true ∧ y = true := by decide
theorem cb_or : ∀ {x y : Bool}, comb false x y = true ↔ x = true ∨ y = true := by decide
theorem sp_law (K : PySem.W.Frag) (xs : List T) (P : T → Prop) (R : Exn → Prop) (hn : xs.length = 1) (h : o_law K xs P R) : w_law K (VL.startT 2 xs) (EV P R) := by
  obtain ⟨ns, rfl, hl, hb, h⟩ := h
  unfold w_law
  have hd : ∀ b : Bool, dInt (.bl b) = some (.int (if b then 1 else 0)) := fun b => by simp [dInt]
  simp [hd]
  generalize hz : (if (↑ns.length + 1 - if 0 < ns.length then 1 else 0) < 16 then ↑ns.length + 1 - if 0 < ns.length then 1 else (0 : Int) else 16) = z
  have z1 : z ≤ 16 := by
    subst hz
    split <;> omega
  have z0 : -100 ≤ z := by
    subst hz
    split <;> split <;> omega
  refine ⟨⟨by omega, by omega⟩, ?_⟩
  refine forL_at (fun _ m => ∃ o : Option T, m = [some (.fz (.scr K ns)), o]) ?_ ?_ ⟨_, rfl⟩
  · rintro k hk m ⟨o, rfl⟩ E' h1 h2 h3 h4 h5
    rw [rngD_at hk]
    rw [rngD_len] at hk
    simp
    refine ⟨ns, k, rfl, by omega, hb, by omega, fun t jt => ?_⟩
    refine ⟨t, rfl, jt.less (by omega), ?_⟩
    simp
    exact h1 _ ⟨_, rfl⟩
  · rintro m ⟨o, rfl⟩
    simp
    exact h
theorem f10_8 {C : Addr} {l : List Str} {rs rs' lr lr' : RM} {es es' le le' : List Nat} {o0 o1 o6 o7 o8 o9 o10 o11 o12 o13 o14 o15 : Option T} {P : T → Prop} {R : Exn → Prop} (ab : Abc l) (g : Good rs es) (g' : Good rs' es') (over : ∀ r ∈ rs, ∀ p ∈ r, p.1 ∈ l) (over' : ∀ r ∈ rs', ∀ p ∈ r, p.1 ∈ l) (s1 : rs.length ≤ 100) (s2 : rs'.length ≤ 100)
    (r1 : Ru l lr le) (n1 : lr.length ≤ 6) (e1 : ∀ w, acc lr le 0 w = acc rs es 0 w) (r2 : Ru l lr' le') (n2 : lr'.length ≤ 14) (e2 : ∀ w, acc lr' le' 0 w = acc rs' es' 0 w) (h : P (.fz (.bl true))) :
    w__law_fits_8 C [o0, o1, some (.fz (eWeb rs es)), some (.fz (eWeb rs' es')), some (.fz (eRule C lr le)), some (.fz (eRule C lr' le')), o6, o7, o8, o9, o10, o11, o12, o13, o14, o15] (EV P R) := by
  have v4 : ∀ m : Tau, m[4]? = some (some (.fz (eRule C lr le))) → RV C l 6 (acc rs es 0) (wVar 4) m := fun m e => rv_var e r1 n1 e1
  have v5 : ∀ m : Tau, m[5]? = some (some (.fz (eRule C lr' le'))) → RV C l 14 (acc rs' es' 0) (wVar 5) m := fun m e => rv_var e r2 n2 e2
  have mk : ∀ m : Tau, m[2]? = some (some (.fz (eWeb rs es))) → RV C l 100 (acc rs es 0) (wFz (wA (oFn 1 (o_made C)) (wCons (wVar 2) wNil))) m := fun m e => rv_made e g over s1
  have mk' : ∀ m : Tau, m[3]? = some (some (.fz (eWeb rs' es'))) → RV C l 100 (acc rs' es' 0) (wFz (wA (oFn 1 (o_made C)) (wCons (wVar 3) wNil))) m := fun m e => rv_made e g' over' s2
  generalize acc rs es 0 = A at v4 mk
  generalize acc rs' es' 0 = B at v5 mk'
  unfold w__law_fits_8
  simp only [sx_wSeq, sx_wPar, sx_wCons, sx_wNil]
  refine rv_both ab (v4 _ (by rfl)) (v5 _ (by rfl)) (by decide) _ fun lrb leb rb nb eb => ?_
  refine rv_both ab (v4 _ (by rfl)) (v5 _ (by rfl)) (by decide) _ fun lre lee re ne ee => ?_
  refine ⟨⟨by simp, by simp⟩, ?_⟩
  simp only [List.set]
  have v10 : ∀ m : Tau, m[10]? = some (some (.fz (eRule C lrb leb))) → RV C l 105 (fun w => comb true (A w) (B w)) (wVar 10) m := fun m e => rv_var e rb nb eb
  have v11 : ∀ m : Tau, m[11]? = some (some (.fz (eRule C lre lee))) → RV C l 105 (fun w => comb false (A w) (B w)) (wVar 11) m := fun m e => rv_var e re ne ee
  clear eb ee
  refine st_ifx (tb_or (tb_not (tb_yes (bv_within ab (v10 _ (by rfl)) (v4 _ (by rfl)) (by decide)) fun w hw => ?_)) (tb_or (tb_not (tb_yes (bv_within ab (v4 _ (by rfl)) (v11 _ (by rfl)) (by decide)) fun w hw => ?_)) (tb_not (tb_yes (bv_within ab (v10 _ (by rfl)) (v11 _ (by rfl)) (by decide)) fun w hw => ?_)))) rfl ?_
  · exact (cb_and.mp hw).1
  · exact cb_or.mpr (.inl hw)
  · exact cb_or.mpr (.inl (cb_and.mp hw).1)
  simp only [sx_wNext]
  refine st_ifx (tb_or (tb_ne (bv_within ab (v4 _ (by rfl)) (v10 _ (by rfl)) (by decide)) (bv_within ab (v4 _ (by rfl)) (v5 _ (by rfl)) (by decide)) ?_) (tb_ne (bv_within ab (v11 _ (by rfl)) (v4 _ (by rfl)) (by decide)) (bv_within ab (v5 _ (by rfl)) (v4 _ (by rfl)) (by decide)) ?_)) rfl ?_
  · exact ⟨fun z w hw => (cb_and.mp (z w hw)).2, fun z w hw => cb_and.mpr ⟨hw, z w hw⟩⟩
  · exact ⟨fun z w hw => z w (cb_or.mpr (.inr hw)), fun z w hw => (cb_or.mp hw).elim id (z w)⟩
  simp only [sx_wNext]
  exact st_retB (bv_and (bv_eq (v4 _ (by rfl)) (mk _ (by rfl))) (bv_eq (v5 _ (by rfl)) (mk' _ (by rfl)))) ⟨fun w => rfl, fun w => rfl⟩ h
/-- a web and its rule -/
structure WR (l : List Str) (x : (RM × List Nat) × (RM × List Nat)) : Prop where
  good : Good x.1.1 x.1.2
  few : x.1.1.length ≤ 60
  over : ∀ r ∈ x.1.1, ∀ p ∈ r, p.1 ∈ l
  ru : Ru l x.2.1 x.2.2
  len : x.2.1.length ≤ 14
  lang : ∀ w, acc x.2.1 x.2.2 0 w = acc x.1.1 x.1.2 0 w
abbrev XS := List ((RM × List Nat) × (RM × List Nat))
def eWs (X : XS) : D := .lst (X.map fun x => eWeb x.1.1 x.1.2)
def eRs (C : Addr) (X : XS) : D := .lst (X.map fun x => eRule C x.2.1 x.2.2)
theorem f10_7 {C : Addr} {l : List Str} {X : XS} {rs rs' lr lr' : RM} {es es' le le' : List Nat} {o0 o1 o6 o8 o9 o10 o11 o12 o13 o14 o15 : Option T} {P : T → Prop} {R : Exn → Prop} (hX : ∀ x ∈ X, WR l x) (h5 : X.length = 5) (ab : Abc l) (g : Good rs es) (g' : Good rs' es') (over : ∀ r ∈ rs, ∀ p ∈ r, p.1 ∈ l) (over' : ∀ r ∈ rs', ∀ p ∈ r, p.1 ∈ l) (s1 : rs.length ≤ 100) (s2 : rs'.length ≤ 100) (l8 : ∀ r ∈ rs, r.length ≤ 8)
    (r1 : Ru l lr le) (n1 : lr.length ≤ 6) (e1 : ∀ w, acc lr le 0 w = acc rs es 0 w) (r2 : Ru l lr' le') (n2 : lr'.length ≤ 14) (e2 : ∀ w, acc lr' le' 0 w = acc rs' es' 0 w) (h : P (.fz (.bl true))) :
    w__law_fits_7 C [o0, o1, some (.fz (eWeb rs es)), some (.fz (eWeb rs' es')), some (.fz (eRule C lr le)), some (.fz (eRule C lr' le')), o6, some (.fz (eRs C X)), o8, o9, o10, o11, o12, o13, o14, o15] (EV P R) := by
  unfold w__law_fits_7
  simp only [sx_wSeq, sx_wFor, sx_iL, sx_wCut, sx_wA, sx_wCons, sx_wVar, sx_wC, sx_wNil, sx_oFn, sx_wNo, sx_wPart]
  simp
  refine ⟨rs, es, 3, rfl, g, by omega, fun k hk => ?_, fun ws hm hp => ?_⟩
  · have := rowsAt_len l8 k
    have p8 : 8 ^ k ≤ 8 ^ 4 := Nat.pow_le_pow_right (by omega) hk
    omega
  simp only [sx_T_er_1]
  obtain ⟨x, hx⟩ : ∃ x, X[2]? = some x := ⟨_, List.getElem?_eq_getElem (by omega)⟩
  have wr := hX x (List.mem_of_getElem? hx)
  have it : (X.map fun x => eRule C x.2.1 x.2.2)[2]? = some (eRule C x.2.1 x.2.2) := by simp [hx]
  refine forL_at (fun _ m => ∃ o9, m = [o0, o1, some (.fz (eWeb rs es)), some (.fz (eWeb rs' es')), some (.fz (eRule C lr le)), some (.fz (eRule C lr' le')), o6, some (.fz (eRs C X)), o8, o9, o10, o11, o12, o13, o14, o15]) ?_ ?_ ⟨_, rfl⟩
  · rintro k hk m ⟨o9, rfl⟩ E' h1 h2 h3 h4 h5
    obtain ⟨w, hw, ew⟩ : ∃ w ∈ ws, (cutL (eDays ws) none (some 30))[k] = .lst (eStrs w) := by
      have h1 := List.getElem_mem hk
      unfold cutL at h1
      obtain ⟨w, hw, e⟩ := List.mem_map.mp (List.mem_of_mem_drop (List.mem_of_mem_take h1))
      exact ⟨w, hw, e.symm⟩
    rw [ew]
    obtain ⟨hw3, hwa⟩ := (hm w).mp hw
    have nmw : ∀ d ∈ w, PyData.strOk d = true := fun d hd => by
      have : ∀ (w : List Str) (i : Nat), acc rs es i w = true → ∀ d ∈ w, d ∈ l := fun w => by
        induction w with
        | nil => intro i _ d hd; cases hd
        | cons a w ih =>
          intro i hw d hd
          simp only [acc] at hw
          cases q : stepR rs i a with
          | none => rw [q] at hw; cases hw
          | some j =>
            rw [q] at hw
            rcases List.mem_cons.mp hd with rfl | hd
            · simp only [stepR] at q
              cases q2 : rs[i]? with
              | none => rw [q2] at q; cases q
              | some r =>
                rw [q2] at q
                exact over r (List.mem_of_getElem? q2) _ (lookup_mem q)
            · exact ih j hw d hd
      exact strOk_name (ab.nm d (this w 0 hwa d hd))
    simp only [sx_gN]
    refine ⟨by simp, ?_⟩
    simp only [List.set]
    have v4 : RV C l 6 (acc rs es 0) (wVar 4) [o0, o1, some (.fz (eWeb rs es)), some (.fz (eWeb rs' es')), some (.fz (eRule C lr le)), some (.fz (eRule C lr' le')), o6, some (.fz (eRs C X)), o8, some (.fz (.lst (eStrs w))), o10, o11, o12, o13, o14, o15] := rv_var rfl r1 n1 e1
    have v7 : RV C l 14 (acc x.1.1 x.1.2 0) (wFz (w2 oIxH (wVar 7) (wC (.int 2)))) [o0, o1, some (.fz (eWeb rs es)), some (.fz (eWeb rs' es')), some (.fz (eRule C lr le)), some (.fz (eRule C lr' le')), o6, some (.fz (eRs C X)), o8, some (.fz (.lst (eStrs w))), o10, o11, o12, o13, o14, o15] :=
      rv_fz (rv_item (j := 2) (ds := X.map fun x => eRule C x.2.1 x.2.2) rfl (fun Q q => q) it wr.ru wr.len wr.lang)
    have nx := h1 [o0, o1, some (.fz (eWeb rs es)), some (.fz (eWeb rs' es')), some (.fz (eRule C lr le)), some (.fz (eRule C lr' le')), o6, some (.fz (eRs C X)), o8, some (.fz (.lst (eStrs w))), o10, o11, o12, o13, o14, o15] ⟨_, rfl⟩
    simp only [sx_wIfS, sx_wAnd, sx_wB]
    refine bv_within ab v4 v7 (by decide) _ fun b hb => ?_
    cases b with
    | false => exact nx
    | true =>
      simp only [sx_wNot, sx_wB]
      refine bv_has v7 rfl nmw _ fun c hc => ?_
      have : c = true := hc.mpr (hb.mp rfl w hwa)
      subst this
      exact nx
  · rintro m ⟨o9, rfl⟩
    exact f10_8 ab g g' over over' s1 s2 r1 n1 e1 r2 n2 e2 h
abbrev st10 (C : Addr) (X : XS) (o0 o1 o2 o3 o4 o5 o8 o9 o10 o11 o12 o13 o14 o15 : Option T) : Tau := [o0, o1, o2, o3, o4, o5, some (.fz (eWs X)), some (.fz (eRs C X)), o8, o9, o10, o11, o12, o13, o14, o15]
theorem f10_6 {C : Addr} {l : List Str} {X : XS} {rs rs' lr lr' : RM} {es es' le le' : List Nat} {o0 o1 o8 o9 o10 o11 o12 o13 o14 o15 : Option T} {P : T → Prop} {R : Exn → Prop} (hX : ∀ x ∈ X, WR l x) (h5 : X.length = 5) (ab : Abc l) (g : Good rs es) (g' : Good rs' es') (over : ∀ r ∈ rs, ∀ p ∈ r, p.1 ∈ l) (over' : ∀ r ∈ rs', ∀ p ∈ r, p.1 ∈ l) (s1 : rs.length ≤ 100) (s2 : rs'.length ≤ 100) (l8 : ∀ r ∈ rs, r.length ≤ 8)
    (r1 : Ru l lr le) (n1 : lr.length ≤ 6) (e1 : ∀ w, acc lr le 0 w = acc rs es 0 w) (r2 : Ru l lr' le') (n2 : lr'.length ≤ 14) (e2 : ∀ w, acc lr' le' 0 w = acc rs' es' 0 w) (h : P (.fz (.bl true))) :
    w__law_fits_6 C (st10 C X o0 o1 (some (.fz (eWeb rs es))) (some (.fz (eWeb rs' es'))) (some (.fz (eRule C lr le))) (some (.fz (eRule C lr' le'))) o8 o9 o10 o11 o12 o13 o14 o15) (EV P R) := by
  have two : 2 ≤ sizeLine := big_le (by omega)
  have ixW : ∀ (i : Nat) (hi : i < X.length), dIx (eWs X) (.int (i : Nat)) = some (eWeb X[i].1.1 X[i].1.2) := fun i hi => by
    unfold eWs dIx
    simp only
    rw [atI_nat (by simpa using hi)]
    simp
  have ixR : ∀ (i : Nat) (hi : i < X.length), dIx (eRs C X) (.int (i : Nat)) = some (eRule C X[i].2.1 X[i].2.2) := fun i hi => by
    unfold eRs dIx
    simp only
    rw [atI_nat (by simpa using hi)]
    simp
  have hf : ¬ Str.ofString "within" ∈ ([Str.ofString "kept_rooms", Str.ofString "kept_ends"] : List Str) := by decide +kernel
  unfold w__law_fits_6
  simp only [sx_wSeq, sx_wFor, sx_iR1, sx_wC, sx_T_er_1]
  refine ⟨⟨by decide, by decide⟩, ?_⟩
  refine forL_at (fun _ m => ∃ o8 o12 o13 o14, m = st10 C X o0 o1 (some (.fz (eWeb rs es))) (some (.fz (eWeb rs' es'))) (some (.fz (eRule C lr le))) (some (.fz (eRule C lr' le'))) o8 o9 o10 o11 o12 o13 o14 o15) ?_ ?_ ⟨_, _, _, _, rfl⟩
  · rintro i hi m ⟨o8, o12, o13, o14, rfl⟩ E' h1 h2 h3 h4 h5'
    rw [rngD_at hi]
    have hi' : i < X.length := by rw [h5]; simpa [rngD_len] using hi
    have wi := hX _ (List.getElem_mem hi')
    have iW := ixW i hi'
    have iR := ixR i hi'
    generalize X[i] = x at wi iW iR
    simp only [sx_gN]
    refine ⟨by simp, ?_⟩
    simp only [List.set]
    refine ⟨⟨by decide, by decide⟩, ?_⟩
    refine forL_at (fun _ m => ∃ o12 o13 o14, m = st10 C X o0 o1 (some (.fz (eWeb rs es))) (some (.fz (eWeb rs' es'))) (some (.fz (eRule C lr le))) (some (.fz (eRule C lr' le'))) (some (.fz (.int (i : Nat)))) o9 o10 o11 o12 o13 o14 o15) ?_ ?_ ⟨_, _, _, rfl⟩
    · rintro j hj m ⟨o12, o13, o14, rfl⟩ E2 g1 g2 g3 g4 g5
      rw [rngD_at hj]
      have hj' : j < X.length := by rw [h5]; simpa [rngD_len] using hj
      have wj := hX _ (List.getElem_mem hj')
      have jW := ixW j hj'
      have jR := ixR j hj'
      generalize X[j] = y at wj jW jR
      simp [iW, jW, iR, jR]
      refine ⟨x.1.1, x.1.2, y.1.1, y.1.2, rfl, wi.good, wj.good, wi.few, wj.few, fun b hb => ?_⟩
      have mul : (x.2.1.length + 1) * (y.2.1.length + 1) ≤ 15 * 15 := Nat.mul_le_mul (by have := wi.len; omega) (by have := wj.len; omega)
      have eqb : ∀ c : Bool, (c = true ↔ ∀ w, acc x.2.1 x.2.2 0 w = true → acc y.2.1 y.2.2 0 w = true) → c = b := fun c hc => by
        refine Bool.eq_iff_iff.mpr (hc.trans ?_)
        rw [hb]
        simp only [wi.lang, wj.lang]
      simp [eRule]
      refine ⟨⟨by decide +kernel, by decide +kernel⟩, l, _, _, _, _, rfl, wi.ru, wj.ru, ab, by omega, fun c hc => ?_⟩
      refine ⟨⟨by decide +kernel, by decide +kernel⟩, l, _, _, _, _, rfl, wi.ru, wj.ru, ab, by omega, fun d hd => ?_⟩
      have ec := eqb c hc
      have ed := eqb d hd
      subst ec
      subst ed
      simp [repr_bls, eq_bls]
      refine ⟨two, ?_⟩
      exact g1 _ ⟨_, _, _, rfl⟩
    · rintro m ⟨o12, o13, o14, rfl⟩
      exact h1 _ ⟨_, _, _, _, rfl⟩
  · rintro m ⟨o8, o12, o13, o14, rfl⟩
    exact f10_7 hX h5 ab g g' over over' s1 s2 l8 r1 n1 e1 r2 n2 e2 h
theorem good_none {e : List Nat} (h : ∀ x ∈ e, x < 1) (hl : e.length ≤ 10) : Good [[]] e := ⟨by simp, by simp, fun r hr => by simp at hr; subst hr; exact ⟨by simp, by simp, fun p hp => (List.not_mem_nil hp).elim⟩, fun x hx => by simpa using h x hx, by omega⟩
theorem sp_fits (C : Addr) (xs : List T) (P : T → Prop) (R : Exn → Prop) (hn : xs.length = 1) (h : o_fits xs P R) : w__law_fits C (VL.startT 16 xs) (EV P R) := by
  obtain ⟨t, rfl, jt, h⟩ := h
  have two : 2 ≤ sizeLine := big_le (by omega)
  have one : 1 ≤ sizeLine := big_le (by omega)
  have five : 5 ≤ sizeLine := big_le (by omega)
  unfold w__law_fits
  simp
  refine ⟨90000, t, 5, rfl, jt.less (by omega), by omega, by omega, fun a t1 ha j1 => ?_⟩
  simp only
  have ea : (1 : Int) + (a : Int) = ((a + 1 : Nat) : Int) := by omega
  rw [ea]
  refine ⟨80000, t1, a + 1, rfl, j1.less (by omega), by omega, fun l t2 hl nl j2 => ?_⟩
  have el : (T.ol (l.map fun z => T.fz (.str z))).er = .lst (eStrs l) := by simp [eStrs, Function.comp_def]
  dsimp only
  rw [el]
  have ab : Abc l := ⟨nl, by omega⟩
  have lne : l ≠ [] := fun z => by rw [z] at hl; cases hl
  refine ⟨70000, t2, 6, l, rfl, j2.less (by omega), by omega, by omega, nl, lne, by omega, fun rs es t3 g1 f1 o1 e1 j3 => ?_⟩
  have over1 : ∀ r ∈ rs, ∀ p ∈ r, p.1 ∈ l := fun r hr => (o1 r hr).2
  refine ⟨60000, t3, rs, es, l, rfl, j3.less (by omega), g1, by omega, fun r hr => ⟨by have := (o1 r hr).1; omega, (o1 r hr).2⟩, nl, lne, by omega, by omega, fun rs' es' t4 g2 f2 over2 e2 j4 => ?_⟩
  have few2 := row_few g2 over2
  refine ⟨rs, es, rfl, g1, fun lr le t1' => ?_⟩
  refine ⟨50000, t4, rs', es', l, rfl, j4.less (by omega), g2, by omega, fun r hr => ⟨by have := few2 r hr; omega, over2 r hr⟩, by omega, by omega, nl, fun rs3 es3 t5 g3 f3 over3 lang3 j5 => ?_⟩
  refine ⟨rs3, es3, rfl, g3, fun lr' le' t2' => ?_⟩
  refine ⟨40000, t5, 6, l, rfl, j5.less (by omega), by omega, by omega, nl, lne, by omega, fun rs4 es4 t6 g4 f4 o4 e4 j6 => ?_⟩
  have over4 : ∀ r ∈ rs4, ∀ p ∈ r, p.1 ∈ l := fun r hr => (o4 r hr).2
  refine ⟨one, two, one, two, five, two, ?_⟩
  have ec : ∀ a b c d e : D, cutL [a, b, c, d, e] (some 2) none = [c, d, e] := fun a b c d e => rfl
  rw [ec]
  have gN0 := good_none (e := []) (fun x hx => by cases hx) (by simp)
  have gN1 := good_none (e := [0]) (fun x hx => by simp at hx; omega) (by simp)
  have eN0 : D.tup [D.lst [D.dct [] []], D.lst []] = eWeb [[]] [] := rfl
  have eN1 : D.tup [D.lst [D.dct [] []], D.lst [D.int 0]] = eWeb [[]] [0] := rfl
  rw [eN0, eN1]
  unfold wLcL
  simp
  refine ⟨rs4, es4, rfl, g4, fun lr4 le4 t4' => ⟨big_lt (by omega), ?_⟩⟩
  unfold wLcL
  simp
  refine ⟨_, _, rfl, gN0, fun lr5 le5 t5' => ⟨big_lt (by omega), ?_⟩⟩
  unfold wLcL
  simp
  refine ⟨_, _, rfl, gN1, fun lr6 le6 t6' => ⟨big_lt (by omega), ?_⟩⟩
  unfold wLcL
  simp
  refine ⟨five, ?_⟩
  have none_over : ∀ r ∈ ([[]] : RM), ∀ p ∈ r, p.1 ∈ l := fun r hr p hp => by simp at hr; subst hr; cases hp
  have X : XS := [((rs, es), (lr, le)), ((rs', es'), (lr', le')), ((rs4, es4), (lr4, le4)), (([[]], []), (lr5, le5)), (([[]], [0]), (lr6, le6))]
  refine f10_6 (X := [((rs, es), (lr, le)), ((rs', es'), (lr', le')), ((rs4, es4), (lr4, le4)), (([[]], []), (lr5, le5)), (([[]], [0]), (lr6, le6))]) (fun x hx => ?_) rfl ab g1 g2 over1 over2 (by omega) (by omega) (fun r hr => (o1 r hr).1) (t1'.ru over1) (Nat.le_trans t1'.len f1) t1'.lang (t2'.ru over3) (by have := t2'.len; omega) (fun w => (t2'.lang w).trans (lang3 w)) h
  simp at hx
  rcases hx with rfl | rfl | rfl | rfl | rfl
  · exact ⟨g1, by dsimp only; omega, over1, t1'.ru over1, by have := t1'.len; dsimp only; omega, t1'.lang⟩
  · exact ⟨g2, by dsimp only; omega, over2, t2'.ru over3, by have := t2'.len; dsimp only; omega, fun w => (t2'.lang w).trans (lang3 w)⟩
  · exact ⟨g4, by dsimp only; omega, over4, t4'.ru over4, by have := t4'.len; dsimp only; omega, t4'.lang⟩
  · exact ⟨gN0, by simp, none_over, t5'.ru none_over, by have := t5'.len; simp at this; dsimp only; omega, t5'.lang⟩
  · exact ⟨gN1, by simp, none_over, t6'.ru none_over, by have := t6'.len; simp at this; dsimp only; omega, t6'.lang⟩
end Pg
set_option Elab.async false
set_option linter.all false
set_option maxRecDepth 100000
set_option maxHeartbeats 0
/-! K10j: the walks, the head, the law. -/
namespace Pg
open PySem PySem.Spec PyProof.Rows L2 VL
def top (i : Nat) : Stmt := PySem.Challenge.pw_oncealike_k10_rules_within_rules.main.body.getD i (.Pass ⟨0, 0, 0, 0⟩)
def meth (i j : Nat) : Stmt := match top i with
  | .ClassDef _ _ _ body .. => body.getD j (.Pass ⟨0, 0, 0, 0⟩)
  | _ => .Pass ⟨0, 0, 0, 0⟩
-- is_name: 0 name, 1 letter
theorem sc_is_name : FnScope ["name", "letter"] ["name"] (defScope (top 9)) := ⟨rfl, rfl, rfl, by decide +kernel, rfl, by decide +kernel, by decide +kernel⟩
theorem b_is_name {P : Program} {w : World} {K : PySem.W.Frag} {mg : Str → Option Value} {base : Heap} {lk : Lk} {f : Addr} {cdv : Value} {A : Around} {outer : List Env} {s : Shared} {H : Hp} {E : XK} (hr : Room 0 (A.deeper (envOfC "is_name" (defScope (top 9)) s.heap.objs.size f cdv)))
    (m_len : mg "len" = none)
    (m_all : mg "all" = none)
    (g_LETTERS : ∃ tk, mg "LETTERS" = some (.str "abcdefghijklmnopqrstuvwxyz" tk)) :
    PSs (cxOf CX0 P w K mg base ["name", "letter"] "is_name" (defScope (top 9)) f cdv A outer s H E) (defBody (top 9)) (LS lk noK (wxOf E) (w_is_name)) := by
  have hu := hr.units
  have hu1 := hu_of hr
  have hN := (sc_is_name).nd
  exact (ss_one (s_ret (v_andV (v_chain op_le (s_I fun _ _ _ => fzb) op_le (s_I fun _ _ _ => fzb) v_int (v_len m_len (va_cons (v_var 0) va_nil)) v_int) (v_one (v_all m_all rfl (va_cons (v_lc rfl hN (vi_str (v_var 0)) (blkOk_by (own := [("letter", 1)]) (by show blkC ["name", "letter"] (defScope (top 9)) _ _ = true; decide +kernel)) (sg_name (by simp)) (fun _ _ _ _ _ => (pg_name hN rfl (by first | exact Or.inl rfl | exact Or.inr rfl))) (fun _ _ _ _ _ => vts_nil) (fun _ _ _ _ _ => (v_in hu1 (v_var 1) (v_gstr g_LETTERS.choose_spec)))) va_nil))))))

-- check_rooms: 0 rooms, 1 ends, 2 index, 3 deed
theorem sc_check_rooms : FnScope ["rooms", "ends", "index", "deed"] ["rooms", "ends"] (defScope (top 10)) := ⟨rfl, rfl, rfl, by decide +kernel, rfl, by decide +kernel, by decide +kernel⟩
theorem b_check_rooms {P : Program} {w : World} {K : PySem.W.Frag} {mg : Str → Option Value} {base : Heap} {lk : Lk} {f : Addr} {cdv : Value} {A : Around} {outer : List Env} {s : Shared} {H : Hp} {E : XK} (hr : Room 1 (A.deeper (envOfC "check_rooms" (defScope (top 10)) s.heap.objs.size f cdv)))
    (m_range : mg "range" = none)
    (m_len : mg "len" = none)
    (m_sorted : mg "sorted" = none)
    (c_is_name : Cal P w K mg base CX0 "is_name" 1 ["name"] (spV anyL 1 o_is_name)) :
    PSs (cxOf CX0 P w K mg base ["rooms", "ends", "index", "deed"] "check_rooms" (defScope (top 10)) f cdv A outer s H E) (defBody (top 10)) (LS lk noK (wxOf E) (w_check_rooms)) := by
  have hu := hr.units
  have hu1 := hu_of hr
  have hN := (sc_check_rooms).nd
  exact (ss_cons (s_for own_cx rfl (vi_rng1 m_range (v_len m_len (va_cons (v_var 0) va_nil))) (pg_name hN rfl (by first | exact Or.inl rfl | exact Or.inr rfl)) (sg_name (by simp [noK])) (ss_one (s_for own_cx rfl (vi_list (v_sorted m_sorted rfl (va_cons (v_ixH hu1 (v_var 0) (v_var 2)) va_nil))) (pg_name hN rfl (by first | exact Or.inl rfl | exact Or.inr rfl)) (sg_name (by simp [noK])) (ss_cons (s_if (v_not (v_test (u_fn (c_is_name.mono (by decide : 1 ≤ 1)) hr pass0 trivial (va_cons (v_var 3) va_nil)))) (ss_one s_never) ss_nil)
  (ss_one (s_if (v_not (t_chain op_le (s_I fun _ _ _ => fzb) op_lt (s_I fun _ _ _ => fzb) v_int (v_ixH hu1 (v_ixH hu1 (v_var 0) (v_var 2)) (v_var 3)) (v_len m_len (va_cons (v_var 0) va_nil)))) (ss_one s_never) ss_nil))))))
  (ss_one (s_for own_cx rfl (vi_list (v_var 1)) (pg_name hN rfl (by first | exact Or.inl rfl | exact Or.inr rfl)) (sg_name (by simp [noK])) (ss_one (s_if (v_not (t_chain op_le (s_I fun _ _ _ => fzb) op_lt (s_I fun _ _ _ => fzb) v_int (v_var 2) (v_len m_len (va_cons (v_var 0) va_nil)))) (ss_one s_never) ss_nil)))))

-- live_rooms: 0 rooms, 1 ends, 2 found, 3 index, 4 many, 5 deed
theorem sc_live_rooms : FnScope ["rooms", "ends", "found", "index", "many", "deed"] ["rooms", "ends"] (defScope (top 11)) := ⟨rfl, rfl, rfl, by decide +kernel, rfl, by decide +kernel, by decide +kernel⟩
theorem b_live_rooms {P : Program} {w : World} {K : PySem.W.Frag} {mg : Str → Option Value} {base : Heap} {lk : Lk} {f : Addr} {cdv : Value} {A : Around} {outer : List Env} {s : Shared} {H : Hp} {E : XK} (hr : Room 0 (A.deeper (envOfC "live_rooms" (defScope (top 11)) s.heap.objs.size f cdv)))
    (m_len : mg "len" = none)
    (m_range : mg "range" = none)
    (m_any : mg "any" = none) :
    PSs (cxOf CX0 P w K mg base ["rooms", "ends", "found", "index", "many", "deed"] "live_rooms" (defScope (top 11)) f cdv A outer s H E) (defBody (top 11)) (LS lk noK (wxOf E) (w_live_rooms)) := by
  have hu := hr.units
  have hu1 := hu_of hr
  have hN := (sc_live_rooms).nd
  exact (ss_cons (s_set 2 hN (by simp [noK]) v_newD)
  (ss_cons (s_for own_cx rfl (vi_list (v_var 1)) (pg_name hN rfl (by first | exact Or.inl rfl | exact Or.inr rfl)) (sg_name (by simp [noK])) (ss_one (s_put 2 hu1 (pv 2) (v_var 3) v_bl)))
  (ss_cons (s_setF 4 hN (by simp [noK]) v_int)
  (ss_cons (s_while own_cx (t_view (t_gt (v_len m_len (va_cons (v_var 2) va_nil)) (v_var 4))) (ss_cons (s_setF 4 hN (by simp [noK]) (v_view (v_len m_len (va_cons (v_var 2) va_nil))))
  (ss_one (s_for own_cx rfl (vi_rng1 m_range (v_len m_len (va_cons (v_var 0) va_nil))) (pg_name hN rfl (by first | exact Or.inl rfl | exact Or.inr rfl)) (sg_name (by simp [noK])) (ss_one (s_if (t_view (v_test (v_any m_any rfl (va_cons (v_lcK rfl hN (pi_keys (pe_ix (ix_any hu1) (pv 0) (pv 3) (by first | exact fun _ _ => rfl | (intro _ _; rfl)))) di_keys (pth_ix (pth_var 0) (pth_var 3)) (blkOk_by (own := [("deed", 5)]) (by show blkC ["rooms", "ends", "found", "index", "many", "deed"] (defScope (top 11)) _ _ = true; decide +kernel)) (sg_name (by simp)) (fun _ _ _ _ _ => (pg_name hN rfl (by first | exact Or.inl rfl | exact Or.inr rfl))) (fun _ _ _ _ _ _ => vts_nil) (fun _ _ _ _ _ _ => (v_in hu1 (v_ixH hu1 (v_ixH hu1 (v_var 0) (v_var 3)) (v_var 5)) (v_var 2)))) va_nil)))) (ss_one (s_put 2 hu1 (pv 2) (v_var 3) v_bl)) ss_nil))))))
  (ss_one (s_ret (v_take 2)))))))

-- room_kinds: 0 rooms, 1 ends, 2 live, 3 kinds, 4 many, 5 found, 6 places, 7 later, 8 index, 9 told, 10 key, 11 deed
theorem sc_room_kinds : FnScope ["rooms", "ends", "live", "kinds", "many", "found", "places", "later", "index", "told", "key", "deed"] ["rooms", "ends", "live"] (defScope (top 12)) := ⟨rfl, rfl, rfl, by decide +kernel, rfl, by decide +kernel, by decide +kernel⟩
theorem b_room_kinds {P : Program} {w : World} {K : PySem.W.Frag} {mg : Str → Option Value} {base : Heap} {lk : Lk} {f : Addr} {cdv : Value} {A : Around} {outer : List Env} {s : Shared} {H : Hp} {E : XK} (hr : Room 0 (A.deeper (envOfC "room_kinds" (defScope (top 12)) s.heap.objs.size f cdv)))
    (m_range : mg "range" = none)
    (m_len : mg "len" = none)
    (m_int : mg "int" = none)
    (m_sorted : mg "sorted" = none)
    (m_tuple : mg "tuple" = none) :
    PSs (cxOf CX0 P w K mg base ["rooms", "ends", "live", "kinds", "many", "found", "places", "later", "index", "told", "key", "deed"] "room_kinds" (defScope (top 12)) f cdv A outer s H E) (defBody (top 12)) (LS lk noK (wxOf E) (w_room_kinds P w)) := by
  have hu := hr.units
  have hu1 := hu_of hr
  have hN := (sc_room_kinds).nd
  exact (ss_cons (s_setF 3 hN (by simp [noK]) (v_lc rfl hN (vi_rng1 m_range (v_len m_len (va_cons (v_var 0) va_nil))) (blkOk_by (own := [("index", 8)]) (by show blkC ["rooms", "ends", "live", "kinds", "many", "found", "places", "later", "index", "told", "key", "deed"] (defScope (top 12)) _ _ = true; decide +kernel)) (sg_name (by simp)) (fun _ _ _ _ _ => (pg_name hN rfl (by first | exact Or.inl rfl | exact Or.inr rfl))) (fun _ _ _ _ _ => vts_nil) (fun _ _ _ _ _ => (v_toInt m_int (va_cons (v_in hu1 (v_var 8) (v_var 1)) va_nil)))))
  (ss_cons (s_setF 4 hN (by simp [noK]) v_int)
  (ss_cons (s_setF 5 hN (by simp [noK]) v_int)
  (ss_cons (s_while own_cx (t_ne hu (v_var 4) (v_var 5)) (ss_cons (s_set 6 hN (by simp [noK]) v_newN)
  (ss_cons (s_set 7 hN (by simp [noK]) (v_lst va_nil))
  (ss_cons (s_for own_cx rfl (vi_rng1 m_range (v_len m_len (va_cons (v_var 0) va_nil))) (pg_name hN rfl (by first | exact Or.inl rfl | exact Or.inr rfl)) (sg_name (by simp [noK])) (ss_cons (s_setLcF 9 rfl hN (by simp [noK]) (vi_list (v_sorted m_sorted rfl (va_cons (v_ixH hu1 (v_var 0) (v_var 8)) va_nil))) (blkOk_by (own := [("deed", 11)]) (by show blkC ["rooms", "ends", "live", "kinds", "many", "found", "places", "later", "index", "told", "key", "deed"] (defScope (top 12)) _ _ = true; decide +kernel)) (sg_name (by simp)) (fun _ _ _ _ _ => (pg_name hN rfl (by first | exact Or.inl rfl | exact Or.inr rfl))) (fun _ _ _ _ _ => (vts_one (t_in hu1 (v_ixH hu1 (v_ixH hu1 (v_var 0) (v_var 8)) (v_var 11)) (v_var 2)))) (fun _ _ _ _ _ => (v_tup (va_cons (v_var 11) (va_cons (v_ixH hu1 (v_var 3) (v_ixH hu1 (v_ixH hu1 (v_var 0) (v_var 8)) (v_var 11))) va_nil)))))
  (ss_cons (s_setF 10 hN (by simp [noK]) (v_tup (va_cons (v_ixH hu1 (v_var 3) (v_var 8)) (va_cons (v_tuple m_tuple (va_cons (v_var 9) va_nil)) va_nil))))
  (ss_cons (s_if (t_notInN 6 hu (v_var 10) (pv 6)) (ss_one (s_putN 6 hu (pv 6) (v_var 10) (v_lenN 6 m_len (pv 6)))) ss_nil)
  (ss_one (s_app 7 (pv 7) (v_ixN 6 hu (pv 6) (v_var 10))))))))
  (ss_cons (s_setF 4 hN (by simp [noK]) (v_var 5))
  (ss_cons (s_setF 5 hN (by simp [noK]) (v_lenN 6 m_len (pv 6)))
  (ss_one (s_setF 3 hN (by simp [noK]) (v_take 7)))))))))
  (ss_one (s_ret (v_var 3)))))))

-- least_rooms: 0 rooms, 1 ends, 2 live, 3 kinds, 4 places, 5 order, 6 found, 7 steps, 8 index, 9 deed, 10 behind, 11 at
theorem sc_least_rooms : FnScope ["rooms", "ends", "live", "kinds", "places", "order", "found", "steps", "index", "deed", "behind", "at"] ["rooms", "ends"] (defScope (top 13)) := ⟨rfl, rfl, rfl, by decide +kernel, rfl, by decide +kernel, by decide +kernel⟩
theorem b_least_rooms {P : Program} {w : World} {K : PySem.W.Frag} {mg : Str → Option Value} {base : Heap} {lk : Lk} {f : Addr} {cdv : Value} {A : Around} {outer : List Env} {s : Shared} {H : Hp} {E : XK} (hr : Room 1 (A.deeper (envOfC "least_rooms" (defScope (top 13)) s.heap.objs.size f cdv)))
    (c_live_rooms : Cal P w K mg base CX0 "live_rooms" 1 ["rooms", "ends"] (spV anyL 2 o_live_rooms))
    (c_room_kinds : Cal P w K mg base CX0 "room_kinds" 1 ["rooms", "ends", "live"] (spV anyL 3 o_room_kinds))
    (m_len : mg "len" = none)
    (m_sorted : mg "sorted" = none)
    (m_tuple : mg "tuple" = none)
    (m_range : mg "range" = none) :
    PSs (cxOf CX0 P w K mg base ["rooms", "ends", "live", "kinds", "places", "order", "found", "steps", "index", "deed", "behind", "at"] "least_rooms" (defScope (top 13)) f cdv A outer s H E) (defBody (top 13)) (LS lk noK (wxOf E) (w_least_rooms)) := by
  have hu := hr.units
  have hu1 := hu_of hr
  have hN := (sc_least_rooms).nd
  exact (ss_cons (s_setF 2 hN (by simp [noK]) (u_fn (c_live_rooms.mono (by decide : 1 ≤ 1)) hr pass0 trivial (va_cons (v_var 0) (va_cons (v_var 1) va_nil))))
  (ss_cons (s_setF 3 hN (by simp [noK]) (u_fn (c_room_kinds.mono (by decide : 1 ≤ 1)) hr pass0 trivial (va_cons (v_var 0) (va_cons (v_var 1) (va_cons (v_var 2) va_nil)))))
  (ss_cons (s_set 4 hN (by simp [noK]) (v_disp1 (v_ixH hu1 (v_var 3) v_int) v_int))
  (ss_cons (s_set 5 hN (by simp [noK]) (v_lst (va_cons v_int va_nil)))
  (ss_cons (s_set 6 hN (by simp [noK]) (v_lst va_nil))
  (ss_cons (s_while own_cx (t_view (t_lt (v_len m_len (va_cons (v_var 6) va_nil)) (v_len m_len (va_cons (v_var 5) va_nil)))) (ss_cons (s_set 7 hN (by simp [noK]) (v_lst va_nil))
  (ss_cons (s_setF 8 hN (by simp [noK]) (v_view (v_ixH hu1 (v_var 5) (v_len m_len (va_cons (v_var 6) va_nil)))))
  (ss_cons (s_for own_cx rfl (vi_list (v_sorted m_sorted rfl (va_cons (v_ixH hu1 (v_var 0) (v_var 8)) va_nil))) (pg_name hN rfl (by first | exact Or.inl rfl | exact Or.inr rfl)) (sg_name (by simp [noK])) (ss_cons (s_setF 10 hN (by simp [noK]) (v_ixH hu1 (v_ixH hu1 (v_var 0) (v_var 8)) (v_var 9)))
  (ss_one (s_if (t_in hu1 (v_var 10) (v_var 2)) (ss_cons (s_if (t_view (t_notIn hu1 (v_ixH hu1 (v_var 3) (v_var 10)) (v_var 4))) (ss_cons (s_put 4 hu1 (pv 4) (v_ixH hu1 (v_var 3) (v_var 10)) (v_view (v_len m_len (va_cons (v_var 5) va_nil))))
  (ss_one (s_app 5 (pv 5) (v_var 10)))) ss_nil)
  (ss_one (s_app 7 (pv 7) (v_tup (va_cons (v_var 9) (va_cons (v_view (v_ixH hu1 (v_var 4) (v_ixH hu1 (v_var 3) (v_var 10)))) va_nil)))))) ss_nil))))
  (ss_one (s_app 6 (pv 6) (v_tuple m_tuple (va_cons (v_take 7) va_nil))))))))
  (ss_one (s_ret (v_tup (va_cons (v_tuple m_tuple (va_cons (v_take 6) va_nil)) (va_cons (v_tuple m_tuple (va_cons (v_lc rfl hN (vi_rng1 m_range (v_view (v_len m_len (va_cons (v_var 5) va_nil)))) (blkOk_by (own := [("at", 11)]) (by show blkC ["rooms", "ends", "live", "kinds", "places", "order", "found", "steps", "index", "deed", "behind", "at"] (defScope (top 13)) _ _ = true; decide +kernel)) (sg_name (by simp)) (fun _ _ _ _ _ => (pg_name hN rfl (by first | exact Or.inl rfl | exact Or.inr rfl))) (fun _ _ _ _ _ => (vts_one (t_view (t_in hu1 (v_ixH hu1 (v_var 5) (v_var 11)) (v_var 1))))) (fun _ _ _ _ _ => (v_var 11))) va_nil)) va_nil)))))))))))

-- room_behind: 0 rooms, 1 index, 2 deed, 3 known, 4 behind
theorem sc_room_behind : FnScope ["rooms", "index", "deed", "known", "behind"] ["rooms", "index", "deed"] (defScope (top 14)) := ⟨rfl, rfl, rfl, by decide +kernel, rfl, by decide +kernel, by decide +kernel⟩
theorem b_room_behind {P : Program} {w : World} {K : PySem.W.Frag} {mg : Str → Option Value} {base : Heap} {lk : Lk} {f : Addr} {cdv : Value} {A : Around} {outer : List Env} {s : Shared} {H : Hp} {E : XK} (hr : Room 0 (A.deeper (envOfC "room_behind" (defScope (top 14)) s.heap.objs.size f cdv))) :
    PSs (cxOf CX0 P w K mg base ["rooms", "index", "deed", "known", "behind"] "room_behind" (defScope (top 14)) f cdv A outer s H E) (defBody (top 14)) (LS lk noK (wxOf E) (w_room_behind)) := by
  have hu := hr.units
  have hu1 := hu_of hr
  have hN := (sc_room_behind).nd
  exact (ss_cons (s_if (t_isN (v_var 1) v_non) (ss_one (s_ret v_non)) ss_nil)
  (ss_cons (s_for own_cx rfl (vi_tup (v_ixH hu1 (v_var 0) (v_var 1))) (pg_tup rfl (pgs_cons (pg_name hN rfl (by first | exact Or.inl rfl | exact Or.inr rfl)) (pgs_cons (pg_name hN rfl (by first | exact Or.inl rfl | exact Or.inr rfl)) pgs_nil))) (sg_tup (sgs_cons (sg_name (by simp [noK])) (sgs_cons (sg_name (by simp [noK])) sgs_nil))) (ss_one (s_if (t_eq hu (v_var 3) (v_var 2)) (ss_one (s_ret (v_var 4))) ss_nil)))
  (ss_one (s_ret v_non))))

-- deeds_of: 0 rooms, 1 index, 2 deed, 3 behind
theorem sc_deeds_of : FnScope ["rooms", "index", "deed", "behind"] ["rooms", "index"] (defScope (top 15)) := ⟨rfl, rfl, rfl, by decide +kernel, rfl, by decide +kernel, by decide +kernel⟩
theorem b_deeds_of {P : Program} {w : World} {K : PySem.W.Frag} {mg : Str → Option Value} {base : Heap} {lk : Lk} {f : Addr} {cdv : Value} {A : Around} {outer : List Env} {s : Shared} {H : Hp} {E : XK} (hr : Room 0 (A.deeper (envOfC "deeds_of" (defScope (top 15)) s.heap.objs.size f cdv))) :
    PSs (cxOf CX0 P w K mg base ["rooms", "index", "deed", "behind"] "deeds_of" (defScope (top 15)) f cdv A outer s H E) (defBody (top 15)) (LS lk noK (wxOf E) (w_deeds_of)) := by
  have hu := hr.units
  have hu1 := hu_of hr
  have hN := (sc_deeds_of).nd
  exact (ss_one (s_ret (v_ifExp (t_notN (v_var 1) v_non) (v_lc rfl hN (vi_tup (v_ixH hu1 (v_var 0) (v_var 1))) (blkOk_by (own := [("deed", 2), ("behind", 3)]) (by show blkC ["rooms", "index", "deed", "behind"] (defScope (top 15)) _ _ = true; decide +kernel)) (sg_tup (sgs_cons (sg_name (by simp)) (sgs_cons (sg_name (by simp)) sgs_nil))) (fun _ _ _ _ _ => (pg_tup rfl (pgs_cons (pg_name hN rfl (by first | exact Or.inl rfl | exact Or.inr rfl)) (pgs_cons (pg_name hN rfl (by first | exact Or.inl rfl | exact Or.inr rfl)) pgs_nil)))) (fun _ _ _ _ _ => vts_nil) (fun _ _ _ _ _ => (v_var 2))) (v_lst va_nil))))

-- paired: 0 one, 1 other, 2 is_both, 3 places, 4 order, 5 rooms, 6 ends, 7 at, 8 mine, 9 its, 10 steps, 11 deed, 12 told, 13 later
theorem sc_paired : FnScope ["one", "other", "is_both", "places", "order", "rooms", "ends", "at", "mine", "its", "steps", "deed", "told", "later"] ["one", "other", "is_both"] (defScope (top 16)) := ⟨rfl, rfl, rfl, by decide +kernel, rfl, by decide +kernel, by decide +kernel⟩
theorem b_paired {P : Program} {w : World} {K : PySem.W.Frag} {mg : Str → Option Value} {base : Heap} {C_Rule : Addr} {lk : Lk} {f : Addr} {cdv : Value} {A : Around} {outer : List Env} {s : Shared} {H : Hp} {E : XK} (hr : Room 1 (A.deeper (envOfC "paired" (defScope (top 16)) s.heap.objs.size f cdv)))
    (m_len : mg "len" = none)
    (m_sorted : mg "sorted" = none)
    (m_set : mg "set" = none)
    (c_deeds_of : Cal P w K mg base CX0 "deeds_of" 1 ["rooms", "index"] (spV anyL 2 o_deeds_of))
    (cls_Rule : Cls K C_Rule)
    (na_Rule_kept_rooms : NoAttr K C_Rule "kept_rooms")
    (c_room_behind : Cal P w K mg base CX0 "room_behind" 1 ["rooms", "index", "deed"] (spV anyL 3 o_room_behind))
    (m_range : mg "range" = none)
    (na_Rule_kept_ends : NoAttr K C_Rule "kept_ends")
    (m_all : mg "all" = none)
    (m_any : mg "any" = none) :
    PSs (cxOf CX0 P w K mg base ["one", "other", "is_both", "places", "order", "rooms", "ends", "at", "mine", "its", "steps", "deed", "told", "later"] "paired" (defScope (top 16)) f cdv A outer s H E) (defBody (top 16)) (LS lk noK (wxOf E) (w_paired P w C_Rule)) := by
  have hu := hr.units
  have hu1 := hu_of hr
  have hN := (sc_paired).nd
  exact (ss_cons (s_set 3 hN (by simp [noK]) (v_disp1N hu (v_tup (va_cons v_int (va_cons v_int va_nil))) v_int))
  (ss_cons (s_set 4 hN (by simp [noK]) (v_lst (va_cons (v_tup (va_cons v_int (va_cons v_int va_nil))) va_nil)))
  (ss_cons (s_set 5 hN (by simp [noK]) (v_lst va_nil))
  (ss_cons (s_while own_cx (t_view (t_lt (v_len m_len (va_cons (v_var 5) va_nil)) (v_len m_len (va_cons (v_var 4) va_nil)))) (ss_cons (s_asg (v_view2 (v_ixH hu1 (v_var 4) (v_len m_len (va_cons (v_var 5) va_nil)))) (pg_tup rfl (pgs_cons (pg_name hN rfl (by first | exact Or.inl rfl | exact Or.inr rfl)) (pgs_cons (pg_name hN rfl (by first | exact Or.inl rfl | exact Or.inr rfl)) pgs_nil))) (sg_tup (sgs_cons (sg_name (by simp [noK])) (sgs_cons (sg_name (by simp [noK])) sgs_nil))))
  (ss_cons (s_set 10 hN (by simp [noK]) v_newD)
  (ss_cons (s_for own_cx rfl (vi_list (v_sset m_sorted m_set rfl (v_add (u_fn (c_deeds_of.mono (by decide : 1 ≤ 1)) hr pass0 trivial (va_cons (v_fz (v_fld cls_Rule na_Rule_kept_rooms (v_var 0))) (va_cons (v_var 8) va_nil))) (u_fn (c_deeds_of.mono (by decide : 1 ≤ 1)) hr pass0 trivial (va_cons (v_fz (v_fld cls_Rule na_Rule_kept_rooms (v_var 1))) (va_cons (v_var 9) va_nil)))))) (pg_name hN rfl (by first | exact Or.inl rfl | exact Or.inr rfl)) (sg_name (by simp [noK])) (ss_cons (s_setF 13 hN (by simp [noK]) (v_tup (va_cons (u_fn (c_room_behind.mono (by decide : 1 ≤ 1)) hr pass0 trivial (va_cons (v_fz (v_fld cls_Rule na_Rule_kept_rooms (v_var 0))) (va_cons (v_var 8) (va_cons (v_var 11) va_nil)))) (va_cons (u_fn (c_room_behind.mono (by decide : 1 ≤ 1)) hr pass0 trivial (va_cons (v_fz (v_fld cls_Rule na_Rule_kept_rooms (v_var 1))) (va_cons (v_var 9) (va_cons (v_var 11) va_nil)))) va_nil))))
  (ss_one (s_if (PW.pt (v_or (v_not (v_test (v_var 2))) (v_or1 (PW.pt (v_and (t_notN (v_ixH hu1 (v_var 13) v_int) v_non) (v_and1 (t_notN (v_ixH hu1 (v_var 13) v_int) v_non))))))) (ss_cons (s_if (t_notInN 3 hu (v_var 13) (pv 3)) (ss_cons (s_putN 3 hu (pv 3) (v_var 13) (v_view (v_len m_len (va_cons (v_var 4) va_nil))))
  (ss_one (s_app 4 (pv 4) (v_var 13)))) ss_nil)
  (ss_one (s_put 10 hu1 (pv 10) (v_var 11) (v_ixN 3 hu (pv 3) (v_var 13))))) ss_nil))))
  (ss_one (s_app 5 (pv 5) (v_take 10)))))))
  (ss_cons (s_set 6 hN (by simp [noK]) (v_lst va_nil))
  (ss_cons (s_for own_cx rfl (vi_rng1 m_range (v_view (v_len m_len (va_cons (v_var 4) va_nil)))) (pg_name hN rfl (by first | exact Or.inl rfl | exact Or.inr rfl)) (sg_name (by simp [noK])) (ss_cons (s_setF 12 hN (by simp [noK]) (v_lst (va_cons (v_view (v_in hu1 (v_ixH hu1 (v_ixH hu1 (v_var 4) (v_var 7)) v_int) (v_fld cls_Rule na_Rule_kept_ends (v_var 0)))) (va_cons (v_view (v_in hu1 (v_ixH hu1 (v_ixH hu1 (v_var 4) (v_var 7)) v_int) (v_fld cls_Rule na_Rule_kept_ends (v_var 1)))) va_nil))))
  (ss_one (s_if (t_ifExp (v_test (v_var 2)) (v_test (v_all m_all rfl (va_cons (v_var 12) va_nil))) (v_test (v_any m_any rfl (va_cons (v_var 12) va_nil)))) (ss_one (s_app 6 (pv 6) (v_var 7))) ss_nil))))
  (ss_one (s_ret (v_tup (va_consL 5 (pv 5) (va_consL 6 (pv 6) va_nil)))))))))))

-- from_behind: 0 rule, 1 places, 2 order, 3 rooms, 4 group, 5 steps, 6 deed, 7 later, 8 index, 9 at, 10 known, 11 step
theorem sc_from_behind : FnScope ["rule", "places", "order", "rooms", "group", "steps", "deed", "later", "index", "at", "known", "step"] ["rule"] (defScope (top 17)) := ⟨rfl, rfl, rfl, by decide +kernel, rfl, by decide +kernel, by decide +kernel⟩
theorem b_from_behind {P : Program} {w : World} {K : PySem.W.Frag} {mg : Str → Option Value} {base : Heap} {C_Rule : Addr} {lk : Lk} {f : Addr} {cdv : Value} {A : Around} {outer : List Env} {s : Shared} {H : Hp} {E : XK} (hr : Room 1 (A.deeper (envOfC "from_behind" (defScope (top 17)) s.heap.objs.size f cdv)))
    (cls_Rule : Cls K C_Rule)
    (na_Rule_kept_ends : NoAttr K C_Rule "kept_ends")
    (m_len : mg "len" = none)
    (m_sorted : mg "sorted" = none)
    (m_set : mg "set" = none)
    (na_Rule_kept_rooms : NoAttr K C_Rule "kept_rooms")
    (m_range : mg "range" = none)
    (c_room_behind : Cal P w K mg base CX0 "room_behind" 1 ["rooms", "index", "deed"] (spV anyL 3 o_room_behind))
    (m_tuple : mg "tuple" = none) :
    PSs (cxOf CX0 P w K mg base ["rule", "places", "order", "rooms", "group", "steps", "deed", "later", "index", "at", "known", "step"] "from_behind" (defScope (top 17)) f cdv A outer s H E) (defBody (top 17)) (LS lk noK (wxOf E) (w_from_behind P w C_Rule)) := by
  have hu := hr.units
  have hu1 := hu_of hr
  have hN := (sc_from_behind).nd
  exact (ss_cons (s_set 1 hN (by simp [noK]) (v_disp1N hu (v_fld cls_Rule na_Rule_kept_ends (v_var 0)) v_int))
  (ss_cons (s_set 2 hN (by simp [noK]) (v_lst (va_cons (v_fld cls_Rule na_Rule_kept_ends (v_var 0)) va_nil)))
  (ss_cons (s_set 3 hN (by simp [noK]) (v_lst va_nil))
  (ss_cons (s_while own_cx (t_view (t_lt (v_len m_len (va_cons (v_var 3) va_nil)) (v_len m_len (va_cons (v_var 2) va_nil)))) (ss_cons (s_setF 4 hN (by simp [noK]) (v_view2 (v_ixH hu1 (v_var 2) (v_len m_len (va_cons (v_var 3) va_nil)))))
  (ss_cons (s_set 5 hN (by simp [noK]) v_newD)
  (ss_cons (s_for own_cx rfl (vi_list (v_sset m_sorted m_set rfl (v_lc2 rfl hN (vi_tup (v_fld cls_Rule na_Rule_kept_rooms (v_var 0))) (blkOk_by (own := [("known", 10), ("step", 11)]) (by show blkC ["rule", "places", "order", "rooms", "group", "steps", "deed", "later", "index", "at", "known", "step"] (defScope (top 17)) _ _ = true; decide +kernel)) (own1 := [11]) (by decide) (sg_name (by simp)) (sg_name (by simp)) (fun _ _ _ _ _ => (pg_name hN rfl (by first | exact Or.inl rfl | exact Or.inr rfl))) (fun _ _ _ _ _ => vts_nil) (fun _ _ _ _ _ => (vi_tup (v_var 10))) (fun _ _ _ _ _ => (pg_name hN rfl (by first | exact Or.inl rfl | exact Or.inr rfl))) (fun _ _ _ _ _ => vts_nil) (fun _ _ _ _ _ => (v_ixH hu1 (v_var 11) v_int))))) (pg_name hN rfl (by first | exact Or.inl rfl | exact Or.inr rfl)) (sg_name (by simp [noK])) (ss_cons (s_set 7 hN (by simp [noK]) (v_lst va_nil))
  (ss_cons (s_for own_cx rfl (vi_rng1 m_range (v_len m_len (va_cons (v_fld cls_Rule na_Rule_kept_rooms (v_var 0)) va_nil))) (pg_name hN rfl (by first | exact Or.inl rfl | exact Or.inr rfl)) (sg_name (by simp [noK])) (ss_one (s_if (t_in hu1 (u_fn (c_room_behind.mono (by decide : 1 ≤ 1)) hr pass0 trivial (va_cons (v_fz (v_fld cls_Rule na_Rule_kept_rooms (v_var 0))) (va_cons (v_var 8) (va_cons (v_var 6) va_nil)))) (v_var 4)) (ss_one (s_app 7 (pv 7) (v_var 8))) ss_nil)))
  (ss_one (s_if (t_view (t_ne hu (v_var 7) (v_lst va_nil))) (ss_cons (s_if (t_notInN 1 hu (v_tuple m_tuple (va_cons (v_frz 7) va_nil)) (pv 1)) (ss_cons (s_putN 1 hu (pv 1) (v_tuple m_tuple (va_cons (v_frz 7) va_nil)) (v_view (v_len m_len (va_cons (v_var 2) va_nil))))
  (ss_one (s_app 2 (pv 2) (v_tuple m_tuple (va_cons (v_frz 7) va_nil))))) ss_nil)
  (ss_one (s_put 5 hu1 (pv 5) (v_var 6) (v_ixN 1 hu (pv 1) (v_tuple m_tuple (va_cons (v_frz 7) va_nil)))))) ss_nil)))))
  (ss_one (s_app 3 (pv 3) (v_take 5)))))))
  (ss_one (s_ret (v_tup (va_consL 3 (pv 3) (va_cons (v_lc rfl hN (vi_rng1 m_range (v_view (v_len m_len (va_cons (v_var 2) va_nil)))) (blkOk_by (own := [("at", 9)]) (by show blkC ["rule", "places", "order", "rooms", "group", "steps", "deed", "later", "index", "at", "known", "step"] (defScope (top 17)) _ _ = true; decide +kernel)) (sg_name (by simp)) (fun _ _ _ _ _ => (pg_name hN rfl (by first | exact Or.inl rfl | exact Or.inr rfl))) (fun _ _ _ _ _ => (vts_one (t_view (t_in hu1 v_int (v_ixH hu1 (v_var 2) (v_var 9)))))) (fun _ _ _ _ _ => (v_var 9))) va_nil)))))))))

-- Rule.__init__: 0 self, 1 rooms, 2 ends, 3 least, 4 least_ends
theorem sc_init : FnScope ["self", "rooms", "ends", "least", "least_ends"] ["self", "rooms", "ends"] (defScope (meth 18 0)) := ⟨rfl, rfl, rfl, by decide +kernel, rfl, by decide +kernel, by decide +kernel⟩
theorem b_init {P : Program} {w : World} {K : PySem.W.Frag} {mg : Str → Option Value} {base : Heap} {C_Rule : Addr} {lk : Lk} {f : Addr} {cdv : Value} {A : Around} {outer : List Env} {s : Shared} {H : Hp} {E : XK} (hr : Room 2 (A.deeper (envOfC "Rule.__init__" (defScope (meth 18 0)) s.heap.objs.size f cdv)))
    (c_check_rooms : Cal P w K mg base CX0 "check_rooms" 2 ["rooms", "ends"] (spV anyL 2 o_check_rooms))
    (c_least_rooms : Cal P w K mg base CX0 "least_rooms" 2 ["rooms", "ends"] (spV anyL 2 o_least_rooms))
    (cls_Rule : Cls K C_Rule)
    (na_Rule_kept_rooms : NoAttr K C_Rule "kept_rooms")
    (na_Rule_kept_ends : NoAttr K C_Rule "kept_ends") :
    PSs (cxOf CX0 P w K mg base ["self", "rooms", "ends", "least", "least_ends"] "Rule.__init__" (defScope (meth 18 0)) f cdv A outer s H E) (defBody (meth 18 0)) (LS lk kp0 (wxOf E) (w_init C_Rule)) := by
  have hu := hr.units
  have hu1 := hu_of hr
  have hN := (sc_init).nd
  exact (ss_cons (s_drop (u_fn (c_check_rooms.mono (by decide : 2 ≤ 2)) hr pass0 trivial (va_cons (v_var 1) (va_cons (v_var 2) va_nil))))
  (ss_cons (s_asg (u_fn (c_least_rooms.mono (by decide : 2 ≤ 2)) hr pass0 trivial (va_cons (v_var 1) (va_cons (v_var 2) va_nil))) (pg_tup rfl (pgs_cons (pg_name hN rfl (by first | exact Or.inl rfl | exact Or.inr rfl)) (pgs_cons (pg_name hN rfl (by first | exact Or.inl rfl | exact Or.inr rfl)) pgs_nil))) (sg_tup (sgs_cons (sg_name (by simp [kp0])) (sgs_cons (sg_name (by simp [kp0])) sgs_nil))))
  (ss_cons (s_fput 0 cls_Rule na_Rule_kept_rooms (pv 0) (v_var 3))
  (ss_one (s_fput 0 cls_Rule na_Rule_kept_ends (pv 0) (v_var 4))))))

-- Rule.__len__: 0 self
theorem sc_len : FnScope ["self"] ["self"] (defScope (meth 18 4)) := ⟨rfl, rfl, rfl, by decide +kernel, rfl, by decide +kernel, by decide +kernel⟩
theorem b_len {P : Program} {w : World} {K : PySem.W.Frag} {mg : Str → Option Value} {base : Heap} {C_Rule : Addr} {lk : Lk} {f : Addr} {cdv : Value} {A : Around} {outer : List Env} {s : Shared} {H : Hp} {E : XK} (hr : Room 0 (A.deeper (envOfC "Rule.__len__" (defScope (meth 18 4)) s.heap.objs.size f cdv)))
    (m_len : mg "len" = none)
    (cls_Rule : Cls K C_Rule)
    (na_Rule_kept_rooms : NoAttr K C_Rule "kept_rooms") :
    PSs (cxOf CX0 P w K mg base ["self"] "Rule.__len__" (defScope (meth 18 4)) f cdv A outer s H E) (defBody (meth 18 4)) (LS lk noK (wxOf E) (w_len C_Rule)) := by
  have hu := hr.units
  have hu1 := hu_of hr
  have hN := (sc_len).nd
  exact (ss_one (s_ret (v_len m_len (va_cons (v_fld cls_Rule na_Rule_kept_rooms (v_var 0)) va_nil))))

-- Rule.__eq__: 0 self, 1 other
theorem sc_eq : FnScope ["self", "other"] ["self", "other"] (defScope (meth 18 5)) := ⟨rfl, rfl, rfl, by decide +kernel, rfl, by decide +kernel, by decide +kernel⟩
theorem b_eq {P : Program} {w : World} {K : PySem.W.Frag} {mg : Str → Option Value} {base : Heap} {C_Rule : Addr} {lk : Lk} {f : Addr} {cdv : Value} {A : Around} {outer : List Env} {s : Shared} {H : Hp} {E : XK} (hr : Room 0 (A.deeper (envOfC "Rule.__eq__" (defScope (meth 18 5)) s.heap.objs.size f cdv)))
    (m_isinstance : mg "isinstance" = none)
    (ins_Rule : C8.InsC K C_Rule)
    (mg_Rule : mg "Rule" = some (.ref C_Rule))
    (cls_Rule : Cls K C_Rule)
    (na_Rule_kept_rooms : NoAttr K C_Rule "kept_rooms")
    (na_Rule_kept_ends : NoAttr K C_Rule "kept_ends") :
    PSs (cxOf CX0 P w K mg base ["self", "other"] "Rule.__eq__" (defScope (meth 18 5)) f cdv A outer s H E) (defBody (meth 18 5)) (LS lk noK (wxOf E) (w_eq C_Rule)) := by
  have hu := hr.units
  have hu1 := hu_of hr
  have hN := (sc_eq).nd
  exact (ss_cons (s_if (v_not (v_test (u_isi ins_Rule m_isinstance mg_Rule (v_var 1)))) (ss_one (s_ret v_bl)) ss_nil)
  (ss_one (s_ret (v_andV (v_eq hu (v_fld cls_Rule na_Rule_kept_rooms (v_var 0)) (v_fld cls_Rule na_Rule_kept_rooms (v_var 1))) (v_one (v_eq hu (v_fld cls_Rule na_Rule_kept_ends (v_var 0)) (v_fld cls_Rule na_Rule_kept_ends (v_var 1))))))))

-- Rule.__and__: 0 self, 1 other, 2 rooms, 3 ends
theorem sc_and : FnScope ["self", "other", "rooms", "ends"] ["self", "other"] (defScope (meth 18 6)) := ⟨rfl, rfl, rfl, by decide +kernel, rfl, by decide +kernel, by decide +kernel⟩
theorem b_and {P : Program} {w : World} {K : PySem.W.Frag} {mg : Str → Option Value} {base : Heap} {C_Rule : Addr} {lk : Lk} {f : Addr} {cdv : Value} {A : Around} {outer : List Env} {s : Shared} {H : Hp} {E : XK} (hr : Room 4 (A.deeper (envOfC "Rule.__and__" (defScope (meth 18 6)) s.heap.objs.size f cdv)))
    (c_paired : Cal P w K mg base CX0 "paired" 2 ["one", "other", "is_both"] (spV anyL 3 (o_paired C_Rule)))
    (c_Rule : CalC P w K mg base CX0 "Rule" C_Rule 3 ["self", "rooms", "ends"] (spIO anyL 3 (o_init C_Rule))) :
    PSs (cxOf CX0 P w K mg base ["self", "other", "rooms", "ends"] "Rule.__and__" (defScope (meth 18 6)) f cdv A outer s H E) (defBody (meth 18 6)) (LS lk noK (wxOf E) (w_and C_Rule)) := by
  have hu := hr.units
  have hu1 := hu_of hr
  have hN := (sc_and).nd
  exact (ss_cons (s_asg (u_fn (c_paired.mono (by decide : 2 ≤ 4)) hr pass0 trivial (va_cons (v_var 0) (va_cons (v_var 1) (va_cons v_bl va_nil)))) (pg_tup rfl (pgs_cons (pg_name hN rfl (by first | exact Or.inl rfl | exact Or.inr rfl)) (pgs_cons (pg_name hN rfl (by first | exact Or.inl rfl | exact Or.inr rfl)) pgs_nil))) (sg_tup (sgs_cons (sg_name (by simp [noK])) (sgs_cons (sg_name (by simp [noK])) sgs_nil))))
  (ss_one (s_ret (u_make (c_Rule.mono (by decide : 3 ≤ 3)) hr pass0 trivial (va_cons (v_var 2) (va_cons (v_var 3) va_nil))))))

-- Rule.__or__: 0 self, 1 other, 2 rooms, 3 ends
theorem sc_or : FnScope ["self", "other", "rooms", "ends"] ["self", "other"] (defScope (meth 18 7)) := ⟨rfl, rfl, rfl, by decide +kernel, rfl, by decide +kernel, by decide +kernel⟩
theorem b_or {P : Program} {w : World} {K : PySem.W.Frag} {mg : Str → Option Value} {base : Heap} {C_Rule : Addr} {lk : Lk} {f : Addr} {cdv : Value} {A : Around} {outer : List Env} {s : Shared} {H : Hp} {E : XK} (hr : Room 4 (A.deeper (envOfC "Rule.__or__" (defScope (meth 18 7)) s.heap.objs.size f cdv)))
    (c_paired : Cal P w K mg base CX0 "paired" 2 ["one", "other", "is_both"] (spV anyL 3 (o_paired C_Rule)))
    (c_Rule : CalC P w K mg base CX0 "Rule" C_Rule 3 ["self", "rooms", "ends"] (spIO anyL 3 (o_init C_Rule))) :
    PSs (cxOf CX0 P w K mg base ["self", "other", "rooms", "ends"] "Rule.__or__" (defScope (meth 18 7)) f cdv A outer s H E) (defBody (meth 18 7)) (LS lk noK (wxOf E) (w_or C_Rule)) := by
  have hu := hr.units
  have hu1 := hu_of hr
  have hN := (sc_or).nd
  exact (ss_cons (s_asg (u_fn (c_paired.mono (by decide : 2 ≤ 4)) hr pass0 trivial (va_cons (v_var 0) (va_cons (v_var 1) (va_cons v_bl va_nil)))) (pg_tup rfl (pgs_cons (pg_name hN rfl (by first | exact Or.inl rfl | exact Or.inr rfl)) (pgs_cons (pg_name hN rfl (by first | exact Or.inl rfl | exact Or.inr rfl)) pgs_nil))) (sg_tup (sgs_cons (sg_name (by simp [noK])) (sgs_cons (sg_name (by simp [noK])) sgs_nil))))
  (ss_one (s_ret (u_make (c_Rule.mono (by decide : 3 ≤ 3)) hr pass0 trivial (va_cons (v_var 2) (va_cons (v_var 3) va_nil))))))

-- Rule.__invert__: 0 self, 1 rooms, 2 ends
theorem sc_invert : FnScope ["self", "rooms", "ends"] ["self"] (defScope (meth 18 8)) := ⟨rfl, rfl, rfl, by decide +kernel, rfl, by decide +kernel, by decide +kernel⟩
theorem b_invert {P : Program} {w : World} {K : PySem.W.Frag} {mg : Str → Option Value} {base : Heap} {C_Rule : Addr} {lk : Lk} {f : Addr} {cdv : Value} {A : Around} {outer : List Env} {s : Shared} {H : Hp} {E : XK} (hr : Room 4 (A.deeper (envOfC "Rule.__invert__" (defScope (meth 18 8)) s.heap.objs.size f cdv)))
    (c_from_behind : Cal P w K mg base CX0 "from_behind" 2 ["rule"] (spV anyL 1 (o_from_behind C_Rule)))
    (c_Rule : CalC P w K mg base CX0 "Rule" C_Rule 3 ["self", "rooms", "ends"] (spIO anyL 3 (o_init C_Rule))) :
    PSs (cxOf CX0 P w K mg base ["self", "rooms", "ends"] "Rule.__invert__" (defScope (meth 18 8)) f cdv A outer s H E) (defBody (meth 18 8)) (LS lk noK (wxOf E) (w_invert C_Rule)) := by
  have hu := hr.units
  have hu1 := hu_of hr
  have hN := (sc_invert).nd
  exact (ss_cons (s_asg (u_fn (c_from_behind.mono (by decide : 2 ≤ 4)) hr pass0 trivial (va_cons (v_var 0) va_nil)) (pg_tup rfl (pgs_cons (pg_name hN rfl (by first | exact Or.inl rfl | exact Or.inr rfl)) (pgs_cons (pg_name hN rfl (by first | exact Or.inl rfl | exact Or.inr rfl)) pgs_nil))) (sg_tup (sgs_cons (sg_name (by simp [noK])) (sgs_cons (sg_name (by simp [noK])) sgs_nil))))
  (ss_one (s_ret (u_make (c_Rule.mono (by decide : 3 ≤ 3)) hr pass0 trivial (va_cons (v_var 1) (va_cons (v_var 2) va_nil))))))

-- Rule.has: 0 self, 1 day, 2 index, 3 deed
theorem sc_has : FnScope ["self", "day", "index", "deed"] ["self", "day"] (defScope (meth 18 9)) := ⟨rfl, rfl, rfl, by decide +kernel, rfl, by decide +kernel, by decide +kernel⟩
theorem b_has {P : Program} {w : World} {K : PySem.W.Frag} {mg : Str → Option Value} {base : Heap} {C_Rule : Addr} {lk : Lk} {f : Addr} {cdv : Value} {A : Around} {outer : List Env} {s : Shared} {H : Hp} {E : XK} (hr : Room 1 (A.deeper (envOfC "Rule.has" (defScope (meth 18 9)) s.heap.objs.size f cdv)))
    (c_room_behind : Cal P w K mg base CX0 "room_behind" 1 ["rooms", "index", "deed"] (spV anyL 3 o_room_behind))
    (cls_Rule : Cls K C_Rule)
    (na_Rule_kept_rooms : NoAttr K C_Rule "kept_rooms")
    (na_Rule_kept_ends : NoAttr K C_Rule "kept_ends") :
    PSs (cxOf CX0 P w K mg base ["self", "day", "index", "deed"] "Rule.has" (defScope (meth 18 9)) f cdv A outer s H E) (defBody (meth 18 9)) (LS lk noK (wxOf E) (w_has C_Rule)) := by
  have hu := hr.units
  have hu1 := hu_of hr
  have hN := (sc_has).nd
  exact (ss_cons (s_setF 2 hN (by simp [noK]) v_int)
  (ss_cons (s_for own_cx rfl (vi_list (v_var 1)) (pg_name hN rfl (by first | exact Or.inl rfl | exact Or.inr rfl)) (sg_name (by simp [noK])) (ss_one (s_setF 2 hN (by simp [noK]) (u_fn (c_room_behind.mono (by decide : 1 ≤ 1)) hr pass0 trivial (va_cons (v_fz (v_fld cls_Rule na_Rule_kept_rooms (v_var 0))) (va_cons (v_var 2) (va_cons (v_var 3) va_nil)))))))
  (ss_one (s_ret (v_in hu1 (v_var 2) (v_fld cls_Rule na_Rule_kept_ends (v_var 0)))))))

-- Rule.within: 0 self, 1 other
theorem sc_within : FnScope ["self", "other"] ["self", "other"] (defScope (meth 18 13)) := ⟨rfl, rfl, rfl, by decide +kernel, rfl, by decide +kernel, by decide +kernel⟩
theorem b_within {P : Program} {w : World} {K : PySem.W.Frag} {mg : Str → Option Value} {base : Heap} {C_Rule : Addr} {lk : Lk} {f : Addr} {cdv : Value} {A : Around} {outer : List Env} {s : Shared} {H : Hp} {E : XK} (hr : Room 5 (A.deeper (envOfC "Rule.within" (defScope (meth 18 13)) s.heap.objs.size f cdv)))
    (c_Rule___eq__ : CalM P w K mg base CX0 C_Rule "__eq__" 1 ["self", "other"] (spV anyL 2 (o_eq C_Rule)))
    (c_Rule___and__ : CalM P w K mg base CX0 C_Rule "__and__" 5 ["self", "other"] (spV anyL 2 (o_both C_Rule true)))
    (sf_Rule : PySem.W.selfFirst K C_Rule = true) :
    PSs (cxOf CX0 P w K mg base ["self", "other"] "Rule.within" (defScope (meth 18 13)) f cdv A outer s H E) (defBody (meth 18 13)) (LS lk noK (wxOf E) (w_within C_Rule)) := by
  have hu := hr.units
  have hu1 := hu_of hr
  have hN := (sc_within).nd
  exact (ss_one (s_ret (v_eqO hu (c_Rule___eq__.mono (by decide : 1 ≤ 5)) hr pass0 (v_fz (u_op2 (c_Rule___and__.mono (by decide : 5 ≤ 5)) rfl sf_Rule hr pass0 (v_var 0) (v_var 1))) (v_var 0))))

-- _law_jar: 0 _law_script, 1 _law_place, 2 _law_cell, 3 _law_great
theorem sc__law_jar : FnScope ["_law_script", "_law_place", "_law_cell", "_law_great"] ["_law_script", "_law_place"] (defScope (top 20)) := ⟨rfl, rfl, rfl, by decide +kernel, rfl, by decide +kernel, by decide +kernel⟩
theorem b__law_jar {P : Program} {w : World} {K : PySem.W.Frag} {mg : Str → Option Value} {base : Heap} {lk : Lk} {f : Addr} {cdv : Value} {A : Around} {outer : List Env} {s : Shared} {H : Hp} {E : XK} (hr : Room 0 (A.deeper (envOfC "_law_jar" (defScope (top 20)) s.heap.objs.size f cdv)))
    (m_len : mg "len" = none) :
    PSs (cxOf CX0 P w K mg base ["_law_script", "_law_place", "_law_cell", "_law_great"] "_law_jar" (defScope (top 20)) f cdv A outer s H E) (defBody (top 20)) (LS lk noK (wxOf E) (w__law_jar K)) := by
  have hu := hr.units
  have hu1 := hu_of hr
  have hN := (sc__law_jar).nd
  exact (ss_cons (s_setF 2 hN (by simp [noK]) (v_ifExp (t_ge (v_var 1) (v_scrLen 0 m_len (pv 0))) v_int (v_scrIx 0 (pv 0) (v_var 1))))
  (ss_cons (s_setF 3 hN (by simp [noK]) (v_sub (v_var 2) (v_pow v_int v_int)))
  (ss_one (s_ret (v_lst (va_cons (v_ifExp (t_gt (v_var 3) v_int) (v_var 3) v_int) (va_cons (v_add (v_add (v_mul v_int (v_var 2)) (v_mul v_int (v_var 1))) v_int) (va_cons v_int va_nil))))))))

-- _law_grab: 0 _law_jar_here, 1 _law_many, 2 _law_stir, 3 _law_rest, 4 _law_taken
theorem sc__law_grab : FnScope ["_law_jar_here", "_law_many", "_law_stir", "_law_rest", "_law_taken"] ["_law_jar_here", "_law_many"] (defScope (top 21)) := ⟨rfl, rfl, rfl, by decide +kernel, rfl, by decide +kernel, by decide +kernel⟩
theorem b__law_grab {P : Program} {w : World} {K : PySem.W.Frag} {mg : Str → Option Value} {base : Heap} {lk : Lk} {f : Addr} {cdv : Value} {A : Around} {outer : List Env} {s : Shared} {H : Hp} {E : XK} (hr : Room 0 (A.deeper (envOfC "_law_grab" (defScope (top 21)) s.heap.objs.size f cdv)))
    (m_int : mg "int" = none) :
    PSs (cxOf CX0 P w K mg base ["_law_jar_here", "_law_many", "_law_stir", "_law_rest", "_law_taken"] "_law_grab" (defScope (top 21)) f cdv A outer s H E) (defBody (top 21)) (LS lk kp0 (wxOf E) (w__law_grab)) := by
  have hu := hr.units
  have hu1 := hu_of hr
  have hN := (sc__law_grab).nd
  exact (ss_cons (s_if (t_view (t_gt (v_ixH hu1 (v_var 0) v_int) v_int)) (ss_cons (s_setF 3 hN (by simp [kp0]) (v_view (v_div (v_ixH hu1 (v_var 0) v_int) (v_var 1))))
  (ss_cons (s_setF 4 hN (by simp [kp0]) (v_view (v_sub (v_ixH hu1 (v_var 0) v_int) (v_mul (v_var 3) (v_var 1)))))
  (ss_cons (s_put 0 hu1 (pv 0) v_int (v_var 3))
  (ss_one (s_ret (v_var 4)))))) ss_nil)
  (ss_cons (s_put 0 hu1 (pv 0) v_int (v_view (v_add (v_ixH hu1 (v_var 0) v_int) v_int)))
  (ss_cons (s_setF 2 hN (by simp [kp0]) (v_view (v_add (v_add (v_ixH hu1 (v_var 0) v_int) (v_mul v_int (v_ixH hu1 (v_var 0) v_int))) (v_mul (v_mul v_int (v_ixH hu1 (v_var 0) v_int)) (v_ixH hu1 (v_var 0) v_int)))))
  (ss_cons (s_setF 2 hN (by simp [kp0]) (v_mod (v_toInt m_int (va_cons (v_pow (v_var 2) v_int) va_nil)) v_int))
  (ss_cons (s_setF 2 hN (by simp [kp0]) (v_view (v_mod (v_toInt m_int (va_cons (v_pow (v_add (v_var 2) (v_mul v_int (v_ixH hu1 (v_var 0) v_int))) v_int) va_nil)) v_int)))
  (ss_one (s_ret (v_mod (v_toInt m_int (va_cons (v_div (v_var 2) v_int) va_nil)) (v_var 1)))))))))

-- _law_callings: 0 _law_jar_here, 1 _law_many, 2 _law_words_here, 3 _law_alphabet, 4 _law_way, 5 _law_start, 6 _law_stem, 7 _law_turn, 8 _law_size_here, 9 _law_place, 10 _law_found, 11 _law_letter
theorem sc__law_callings : FnScope ["_law_jar_here", "_law_many", "_law_words_here", "_law_alphabet", "_law_way", "_law_start", "_law_stem", "_law_turn", "_law_size_here", "_law_place", "_law_found", "_law_letter"] ["_law_jar_here", "_law_many"] (defScope (top 22)) := ⟨rfl, rfl, rfl, by decide +kernel, rfl, by decide +kernel, by decide +kernel⟩
theorem b__law_callings {P : Program} {w : World} {K : PySem.W.Frag} {mg : Str → Option Value} {base : Heap} {lk : Lk} {f : Addr} {cdv : Value} {A : Around} {outer : List Env} {s : Shared} {H : Hp} {E : XK} (hr : Room 1 (A.deeper (envOfC "_law_callings" (defScope (top 22)) s.heap.objs.size f cdv)))
    (c__law_grab : Cal P w K mg base CX0 "_law_grab" 1 ["_law_jar_here", "_law_many"] (spIO anyL 2 o_grab))
    (m_range : mg "range" = none) :
    PSs (cxOf CX0 P w K mg base ["_law_jar_here", "_law_many", "_law_words_here", "_law_alphabet", "_law_way", "_law_start", "_law_stem", "_law_turn", "_law_size_here", "_law_place", "_law_found", "_law_letter"] "_law_callings" (defScope (top 22)) f cdv A outer s H E) (defBody (top 22)) (LS lk kp0 (wxOf E) (w__law_callings)) := by
  have hu := hr.units
  have hu1 := hu_of hr
  have hN := (sc__law_callings).nd
  exact (ss_cons (s_setF 2 hN (by simp [kp0]) (v_lst (va_cons v_str (va_cons v_str (va_cons v_str (va_cons v_str (va_cons v_str (va_cons v_str (va_cons v_str (va_cons v_str (va_cons v_str (va_cons v_str (va_cons v_str (va_cons v_str va_nil))))))))))))))
  (ss_cons (s_parT [3, 4, 5] rfl (by simp [noK, kp0]) (va_cons v_str (va_cons (v_fz (u_io 0 (c__law_grab.mono (by decide : 1 ≤ 1)) hr pass0 trivial (pv 0) (va_cons v_int va_nil))) (va_cons (v_fz (u_io 0 (c__law_grab.mono (by decide : 1 ≤ 1)) hr pass0 trivial (pv 0) (va_cons v_int va_nil))) va_nil))) (pgs_cons (pg_name hN rfl (by first | exact Or.inl rfl | exact Or.inr rfl)) (pgs_cons (pg_name hN rfl (by first | exact Or.inl rfl | exact Or.inr rfl)) (pgs_cons (pg_name hN rfl (by first | exact Or.inl rfl | exact Or.inr rfl)) pgs_nil))))
  (ss_cons (s_setF 6 hN (by simp [kp0]) v_str)
  (ss_cons (s_for own_cx rfl (vi_rng1 m_range v_int) (pg_name hN rfl (by first | exact Or.inl rfl | exact Or.inr rfl)) (sg_name (by simp [kp0])) (ss_one (s_setF 6 hN (by simp [kp0]) (v_add (v_var 6) (v_ixH hu1 (v_var 3) (u_io 0 (c__law_grab.mono (by decide : 1 ≤ 1)) hr pass0 trivial (pv 0) (va_cons v_int va_nil)))))))
  (ss_cons (s_if (t_eq hu (v_var 4) v_int) (ss_one (s_ret (v_lc rfl hN (vi_rng1 m_range (v_var 1)) (blkOk_by (own := [("_law_turn", 7)]) (by show blkC ["_law_jar_here", "_law_many", "_law_words_here", "_law_alphabet", "_law_way", "_law_start", "_law_stem", "_law_turn", "_law_size_here", "_law_place", "_law_found", "_law_letter"] (defScope (top 22)) _ _ = true; decide +kernel)) (sg_name (by simp)) (fun _ _ _ _ _ => (pg_name hN rfl (by first | exact Or.inl rfl | exact Or.inr rfl))) (fun _ _ _ _ _ => vts_nil) (fun _ _ _ _ _ => (v_ixH hu1 (v_var 2) (v_sub (v_var 5) (v_var 7))))))) ss_nil)
  (ss_cons (s_if (t_eq hu (v_var 4) v_int) (ss_one (s_ret (v_rev (v_lc rfl hN (vi_rng1 m_range (v_var 1)) (blkOk_by (own := [("_law_turn", 7)]) (by show blkC ["_law_jar_here", "_law_many", "_law_words_here", "_law_alphabet", "_law_way", "_law_start", "_law_stem", "_law_turn", "_law_size_here", "_law_place", "_law_found", "_law_letter"] (defScope (top 22)) _ _ = true; decide +kernel)) (sg_name (by simp)) (fun _ _ _ _ _ => (pg_name hN rfl (by first | exact Or.inl rfl | exact Or.inr rfl))) (fun _ _ _ _ _ => vts_nil) (fun _ _ _ _ _ => (v_cut (v_var 6) vo_none (vo_some (v_add (v_var 7) v_int)))))))) ss_nil)
  (ss_cons (s_setF 8 hN (by simp [kp0]) (v_add v_int (u_io 0 (c__law_grab.mono (by decide : 1 ≤ 1)) hr pass0 trivial (pv 0) (va_cons v_int va_nil))))
  (ss_cons (s_par 9 10 rfl hN (by simp [kp0]) (by simp [kp0]) (va_cons (v_fz (u_io 0 (c__law_grab.mono (by decide : 1 ≤ 1)) hr pass0 trivial (pv 0) (va_cons (v_var 8) va_nil))) (va_cons (v_lst va_nil) va_nil)))
  (ss_cons (s_for own_cx rfl (vi_rng1 m_range (v_var 1)) (pg_name hN rfl (by first | exact Or.inl rfl | exact Or.inr rfl)) (sg_name (by simp [kp0])) (ss_cons (s_setF 11 hN (by simp [kp0]) (v_ixH hu1 (v_var 3) (v_add (v_var 5) (v_var 7))))
  (ss_one (s_app 10 (pv 10) (v_add (v_add (v_cut (v_var 6) vo_none (vo_some (v_var 9))) (v_var 11)) (v_cut (v_var 6) (vo_some (v_add (v_var 9) v_int)) (vo_some (v_var 8))))))))
  (ss_one (s_ret (v_take 10))))))))))))

-- _law_web: 0 _law_jar_here, 1 _law_most, 2 _law_callings_here, 3 _law_count, 4 _law_found, 5 _law_at, 6 _law_stops, 7 _law_steps_here, 8 _law_turn
theorem sc__law_web : FnScope ["_law_jar_here", "_law_most", "_law_callings_here", "_law_count", "_law_found", "_law_at", "_law_stops", "_law_steps_here", "_law_turn"] ["_law_jar_here", "_law_most", "_law_callings_here"] (defScope (top 23)) := ⟨rfl, rfl, rfl, by decide +kernel, rfl, by decide +kernel, by decide +kernel⟩
theorem b__law_web {P : Program} {w : World} {K : PySem.W.Frag} {mg : Str → Option Value} {base : Heap} {lk : Lk} {f : Addr} {cdv : Value} {A : Around} {outer : List Env} {s : Shared} {H : Hp} {E : XK} (hr : Room 1 (A.deeper (envOfC "_law_web" (defScope (top 23)) s.heap.objs.size f cdv)))
    (c__law_grab : Cal P w K mg base CX0 "_law_grab" 1 ["_law_jar_here", "_law_many"] (spIO anyL 2 o_grab))
    (m_range : mg "range" = none)
    (m_len : mg "len" = none) :
    PSs (cxOf CX0 P w K mg base ["_law_jar_here", "_law_most", "_law_callings_here", "_law_count", "_law_found", "_law_at", "_law_stops", "_law_steps_here", "_law_turn"] "_law_web" (defScope (top 23)) f cdv A outer s H E) (defBody (top 23)) (LS lk kp0 (wxOf E) (w__law_web)) := by
  have hu := hr.units
  have hu1 := hu_of hr
  have hN := (sc__law_web).nd
  exact (ss_cons (s_par 3 4 rfl hN (by simp [kp0]) (by simp [kp0]) (va_cons (v_fz (v_add v_int (u_io 0 (c__law_grab.mono (by decide : 1 ≤ 1)) hr pass0 trivial (pv 0) (va_cons (v_var 1) va_nil)))) (va_cons (v_lst va_nil) va_nil)))
  (ss_cons (s_for own_cx rfl (vi_rng1 m_range (v_var 3)) (pg_name hN rfl (by first | exact Or.inl rfl | exact Or.inr rfl)) (sg_name (by simp [kp0])) (ss_cons (s_set 7 hN (by simp [kp0]) v_newD)
  (ss_cons (s_for own_cx rfl (vi_rng1 m_range (u_io 0 (c__law_grab.mono (by decide : 1 ≤ 1)) hr pass0 trivial (pv 0) (va_cons v_int va_nil))) (pg_name hN rfl (by first | exact Or.inl rfl | exact Or.inr rfl)) (sg_name (by simp [kp0])) (ss_one (s_put 7 hu1 (pv 7) (v_ixH hu1 (v_var 2) (u_io 0 (c__law_grab.mono (by decide : 1 ≤ 1)) hr pass0 trivial (pv 0) (va_cons (v_fz (v_len m_len (va_cons (v_var 2) va_nil))) va_nil))) (u_io 0 (c__law_grab.mono (by decide : 1 ≤ 1)) hr pass0 trivial (pv 0) (va_cons (v_var 3) va_nil)))))
  (ss_cons (s_if (PW.pt (v_and (t_lt (v_add (v_var 5) v_int) (v_var 3)) (v_and1 (t_eq hu (u_io 0 (c__law_grab.mono (by decide : 1 ≤ 1)) hr pass0 trivial (pv 0) (va_cons v_int va_nil)) v_int)))) (ss_one (s_put 7 hu1 (pv 7) (v_ixH hu1 (v_var 2) (u_io 0 (c__law_grab.mono (by decide : 1 ≤ 1)) hr pass0 trivial (pv 0) (va_cons (v_fz (v_len m_len (va_cons (v_var 2) va_nil))) va_nil))) (v_add (v_var 5) v_int))) ss_nil)
  (ss_one (s_app 4 (pv 4) (v_take 7)))))))
  (ss_cons (s_setLc 6 rfl hN (by simp [kp0]) (vi_rng1 m_range (v_var 3)) (blkOk_by (own := [("_law_at", 5)]) (by show blkC ["_law_jar_here", "_law_most", "_law_callings_here", "_law_count", "_law_found", "_law_at", "_law_stops", "_law_steps_here", "_law_turn"] (defScope (top 23)) _ _ = true; decide +kernel)) (sg_name (by simp)) (fun _ _ _ _ _ => (pg_name hN rfl (by first | exact Or.inl rfl | exact Or.inr rfl))) (fun _ _ _ _ _ => (vts_one (t_eq hu (u_io 0 (c__law_grab.mono (by decide : 1 ≤ 1)) hr pass0 trivial (pv 0) (va_cons v_int va_nil)) v_int))) (fun _ _ _ _ _ => (v_var 5)))
  (ss_cons (s_if (t_gt (u_io 0 (c__law_grab.mono (by decide : 1 ≤ 1)) hr pass0 trivial (pv 0) (va_cons v_int va_nil)) v_int) (ss_one (s_app 6 (pv 6) (u_io 0 (c__law_grab.mono (by decide : 1 ≤ 1)) hr pass0 trivial (pv 0) (va_cons (v_var 3) va_nil)))) ss_nil)
  (ss_one (s_ret (v_tup (va_consL 4 (pv 4) (va_cons (v_ifExp (t_eq hu (u_io 0 (c__law_grab.mono (by decide : 1 ≤ 1)) hr pass0 trivial (pv 0) (va_cons v_int va_nil)) v_int) (v_view (v_rev (v_var 6))) (v_take 6)) va_nil)))))))))

-- _law_made_rule: 0 _law_web_here, 1 _law_steps_here
theorem sc__law_made_rule : FnScope ["_law_web_here", "_law_steps_here"] ["_law_web_here"] (defScope (top 24)) := ⟨rfl, rfl, rfl, by decide +kernel, rfl, by decide +kernel, by decide +kernel⟩
theorem b__law_made_rule {P : Program} {w : World} {K : PySem.W.Frag} {mg : Str → Option Value} {base : Heap} {C_Rule : Addr} {f : Addr} {cdv : Value} {A : Around} {outer : List Env} {s : Shared} {H : Hp} {E : XK} (hr : Room 4 (A.deeper (envOfC "_law_made_rule" (defScope (top 24)) s.heap.objs.size f cdv)))
    (c_Rule : CalC P w K mg base CX0 "Rule" C_Rule 3 ["self", "rooms", "ends"] (spIO anyL 3 (o_init C_Rule)))
    (m_dict : mg "dict" = none)
    (m_list : mg "list" = none) :
    PSs (cxOf CX0 P w K mg base ["_law_web_here", "_law_steps_here"] "_law_made_rule" (defScope (top 24)) f cdv A outer s H E) (defBody (top 24)) (LS noLk noK (wxOf E) (w__law_made_rule C_Rule)) := by
  have hu := hr.units
  have hu1 := hu_of hr
  have hN := (sc__law_made_rule).nd
  exact (ss_one (s_ret (u_make (c_Rule.mono (by decide : 3 ≤ 3)) hr pass0 trivial (va_cons (v_fz (v_lc rfl hN (vi_list (v_ixH hu1 (v_var 0) v_int)) (blkOk_by (own := [("_law_steps_here", 1)]) (by show blkC ["_law_web_here", "_law_steps_here"] (defScope (top 24)) _ _ = true; decide +kernel)) (sg_name (by simp)) (fun _ _ _ _ _ => (pg_name hN rfl (by first | exact Or.inl rfl | exact Or.inr rfl))) (fun _ _ _ _ _ => vts_nil) (fun _ _ _ _ _ => (v_dict m_dict rfl (va_cons (v_listItems m_list rfl (v_var 1)) va_nil))))) (va_cons (v_fz (v_list m_list (va_cons (v_ixH hu1 (v_var 0) v_int) va_nil))) va_nil)))))

-- _law_bent_web: 0 _law_jar_here, 1 _law_web_here, 2 _law_callings_here, 3 _law_found, 4 _law_stops, 5 _law_at, 6 _law_way, 7 _law_names_here, 8 _law_gone, 9 _law_steps_here, 10 _law_stop, 11 _law_deed, 12 _law_goal
theorem sc__law_bent_web : FnScope ["_law_jar_here", "_law_web_here", "_law_callings_here", "_law_found", "_law_stops", "_law_at", "_law_way", "_law_names_here", "_law_gone", "_law_steps_here", "_law_stop", "_law_deed", "_law_goal"] ["_law_jar_here", "_law_web_here", "_law_callings_here"] (defScope (top 26)) := ⟨rfl, rfl, rfl, by decide +kernel, rfl, by decide +kernel, by decide +kernel⟩
theorem b__law_bent_web {P : Program} {w : World} {K : PySem.W.Frag} {mg : Str → Option Value} {base : Heap} {f : Addr} {cdv : Value} {A : Around} {outer : List Env} {s : Shared} {H : Hp} {E : XK} (hr : Room 1 (A.deeper (envOfC "_law_bent_web" (defScope (top 26)) s.heap.objs.size f cdv)))
    (m_dict : mg "dict" = none)
    (m_list : mg "list" = none)
    (c__law_grab : Cal P w K mg base CX0 "_law_grab" 1 ["_law_jar_here", "_law_many"] (spIO anyL 2 o_grab))
    (m_len : mg "len" = none)
    (m_sorted : mg "sorted" = none) :
    PSs (cxOf CX0 P w K mg base ["_law_jar_here", "_law_web_here", "_law_callings_here", "_law_found", "_law_stops", "_law_at", "_law_way", "_law_names_here", "_law_gone", "_law_steps_here", "_law_stop", "_law_deed", "_law_goal"] "_law_bent_web" (defScope (top 26)) f cdv A outer s H E) (defBody (top 26)) (LS noLk kp0 (wxOf E) (w__law_bent_web)) := by
  have hu := hr.units
  have hu1 := hu_of hr
  have hN := (sc__law_bent_web).nd
  exact (ss_cons (s_par 3 4 rfl hN (by simp [kp0]) (by simp [kp0]) (va_cons (v_lc rfl hN (vi_list (v_ixH hu1 (v_var 1) v_int)) (blkOk_by (own := [("_law_steps_here", 9)]) (by show blkC ["_law_jar_here", "_law_web_here", "_law_callings_here", "_law_found", "_law_stops", "_law_at", "_law_way", "_law_names_here", "_law_gone", "_law_steps_here", "_law_stop", "_law_deed", "_law_goal"] (defScope (top 26)) _ _ = true; decide +kernel)) (sg_name (by simp)) (fun _ _ _ _ _ => (pg_name hN rfl (by first | exact Or.inl rfl | exact Or.inr rfl))) (fun _ _ _ _ _ => vts_nil) (fun _ _ _ _ _ => (v_dict m_dict rfl (va_cons (v_listItems m_list rfl (v_var 9)) va_nil)))) (va_cons (v_fz (v_list m_list (va_cons (v_ixH hu1 (v_var 1) v_int) va_nil))) va_nil)))
  (ss_cons (s_parT [5, 6] rfl (by simp [noK, kp0]) (va_cons (v_fz (u_io 0 (c__law_grab.mono (by decide : 1 ≤ 1)) hr pass0 trivial (pv 0) (va_cons (v_fz (v_view (v_len m_len (va_cons (v_var 3) va_nil)))) va_nil))) (va_cons (v_fz (u_io 0 (c__law_grab.mono (by decide : 1 ≤ 1)) hr pass0 trivial (pv 0) (va_cons v_int va_nil))) va_nil)) (pgs_cons (pg_name hN rfl (by first | exact Or.inl rfl | exact Or.inr rfl)) (pgs_cons (pg_name hN rfl (by first | exact Or.inl rfl | exact Or.inr rfl)) pgs_nil)))
  (ss_cons (s_if (t_eq hu (v_var 6) v_int) (ss_one (s_setF 4 hN (by simp [kp0]) (v_ifExp (t_in hu1 (v_var 5) (v_var 4)) (v_lc rfl hN (vi_list (v_var 4)) (blkOk_by (own := [("_law_stop", 10)]) (by show blkC ["_law_jar_here", "_law_web_here", "_law_callings_here", "_law_found", "_law_stops", "_law_at", "_law_way", "_law_names_here", "_law_gone", "_law_steps_here", "_law_stop", "_law_deed", "_law_goal"] (defScope (top 26)) _ _ = true; decide +kernel)) (sg_name (by simp)) (fun _ _ _ _ _ => (pg_name hN rfl (by first | exact Or.inl rfl | exact Or.inr rfl))) (fun _ _ _ _ _ => (vts_one (t_ne hu (v_var 10) (v_var 5)))) (fun _ _ _ _ _ => (v_var 10))) (v_add (v_var 4) (v_lst (va_cons (v_var 5) va_nil)))))) (ss_one (s_if (t_view (PW.pt (v_and (t_eq hu (v_var 6) v_int) (v_and1 (t_neE hu (v_ixH hu1 (v_var 3) (v_var 5)) v_newD))))) (ss_cons (s_setF 7 hN (by simp [kp0]) (v_view (v_sorted m_sorted rfl (va_cons (v_ixH hu1 (v_var 3) (v_var 5)) va_nil))))
  (ss_cons (s_setF 8 hN (by simp [kp0]) (v_ixH hu1 (v_var 7) (u_io 0 (c__law_grab.mono (by decide : 1 ≤ 1)) hr pass0 trivial (pv 0) (va_cons (v_fz (v_len m_len (va_cons (v_var 7) va_nil))) va_nil))))
  (ss_one (s_put 3 hu1 (pv 3) (v_var 5) (v_view (v_dict m_dict rfl (va_cons (v_lcK rfl hN (pi_items (pe_ix (ix_any hu1) (pv 3) (pv 5) (by first | exact fun _ _ => rfl | (intro _ _; rfl)))) di_items (pth_ix (pth_var 3) (pth_var 5)) (blkOk_by (own := [("_law_deed", 11), ("_law_goal", 12)]) (by show blkC ["_law_jar_here", "_law_web_here", "_law_callings_here", "_law_found", "_law_stops", "_law_at", "_law_way", "_law_names_here", "_law_gone", "_law_steps_here", "_law_stop", "_law_deed", "_law_goal"] (defScope (top 26)) _ _ = true; decide +kernel)) (sg_tup (sgs_cons (sg_name (by simp)) (sgs_cons (sg_name (by simp)) sgs_nil))) (fun _ _ _ _ _ => (pg_tup rfl (pgs_cons (pg_name hN rfl (by first | exact Or.inl rfl | exact Or.inr rfl)) (pgs_cons (pg_name hN rfl (by first | exact Or.inl rfl | exact Or.inr rfl)) pgs_nil)))) (fun _ _ _ _ _ _ => (vts_one (t_ne hu (v_var 11) (v_var 8)))) (fun _ _ _ _ _ _ => (v_tup (va_cons (v_var 11) (va_cons (v_var 12) va_nil))))) va_nil))))))) (ss_one (s_put2 3 hu1 (pv 3) (v_var 5) (v_ixH hu1 (v_var 2) (u_io 0 (c__law_grab.mono (by decide : 1 ≤ 1)) hr pass0 trivial (pv 0) (va_cons (v_fz (v_len m_len (va_cons (v_var 2) va_nil))) va_nil))) (u_io 0 (c__law_grab.mono (by decide : 1 ≤ 1)) hr pass0 trivial (pv 0) (va_cons (v_fz (v_view (v_len m_len (va_cons (v_var 3) va_nil)))) va_nil)))))))
  (ss_one (s_ret (v_tup (va_consL 3 (pv 3) (va_cons (v_var 4) va_nil))))))))

-- _law_blown_web: 0 _law_jar_here, 1 _law_web_here, 2 _law_count, 3 _law_found, 4 _law_stops, 5 _law_turn, 6 _law_deeds_here, 7 _law_steps_here, 8 _law_at, 9 _law_rest, 10 _law_row, 11 _law_deed, 12 _law_goal
theorem sc__law_blown_web : FnScope ["_law_jar_here", "_law_web_here", "_law_count", "_law_found", "_law_stops", "_law_turn", "_law_deeds_here", "_law_steps_here", "_law_at", "_law_rest", "_law_row", "_law_deed", "_law_goal"] ["_law_jar_here", "_law_web_here"] (defScope (top 27)) := ⟨rfl, rfl, rfl, by decide +kernel, rfl, by decide +kernel, by decide +kernel⟩
theorem b__law_blown_web {P : Program} {w : World} {K : PySem.W.Frag} {mg : Str → Option Value} {base : Heap} {f : Addr} {cdv : Value} {A : Around} {outer : List Env} {s : Shared} {H : Hp} {E : XK} (hr : Room 1 (A.deeper (envOfC "_law_blown_web" (defScope (top 27)) s.heap.objs.size f cdv)))
    (m_len : mg "len" = none)
    (m_range : mg "range" = none)
    (m_enumerate : mg "enumerate" = none)
    (c__law_grab : Cal P w K mg base CX0 "_law_grab" 1 ["_law_jar_here", "_law_many"] (spIO anyL 2 o_grab))
    (m_dict : mg "dict" = none) :
    PSs (cxOf CX0 P w K mg base ["_law_jar_here", "_law_web_here", "_law_count", "_law_found", "_law_stops", "_law_turn", "_law_deeds_here", "_law_steps_here", "_law_at", "_law_rest", "_law_row", "_law_deed", "_law_goal"] "_law_blown_web" (defScope (top 27)) f cdv A outer s H E) (defBody (top 27)) (LS noLk kp0 (wxOf E) (w__law_blown_web)) := by
  have hu := hr.units
  have hu1 := hu_of hr
  have hN := (sc__law_blown_web).nd
  exact (ss_cons (s_parT [2, 3, 4] rfl (by simp [noK, kp0]) (va_cons (v_fz (v_len m_len (va_cons (v_ixH hu1 (v_var 1) v_int) va_nil))) (va_cons (v_lst va_nil) (va_cons (v_lst va_nil) va_nil))) (pgs_cons (pg_name hN rfl (by first | exact Or.inl rfl | exact Or.inr rfl)) (pgs_cons (pg_name hN rfl (by first | exact Or.inl rfl | exact Or.inr rfl)) (pgs_cons (pg_name hN rfl (by first | exact Or.inl rfl | exact Or.inr rfl)) pgs_nil))))
  (ss_cons (s_for own_cx rfl (vi_rng1 m_range v_int) (pg_name hN rfl (by first | exact Or.inl rfl | exact Or.inr rfl)) (sg_name (by simp [kp0])) (ss_one (s_for own_cx rfl (vi_enum m_enumerate (v_ixH hu1 (v_var 1) v_int)) (pg_tup rfl (pgs_cons (pg_name hN rfl (by first | exact Or.inl rfl | exact Or.inr rfl)) (pgs_cons (pg_name hN rfl (by first | exact Or.inl rfl | exact Or.inr rfl)) pgs_nil))) (sg_tup (sgs_cons (sg_name (by simp [kp0])) (sgs_cons (sg_name (by simp [kp0])) sgs_nil))) (ss_cons (s_set 10 hN (by simp [kp0]) v_newD)
  (ss_cons (s_forK own_cx rfl (pi_items (pv 7)) di_items (pth_var 7) (pg_tup rfl (pgs_cons (pg_name hN rfl (by first | exact Or.inl rfl | exact Or.inr rfl)) (pgs_cons (pg_name hN rfl (by first | exact Or.inl rfl | exact Or.inr rfl)) pgs_nil))) (sg_tup (sgs_cons (sg_name (by simp [kp0])) (sgs_cons (sg_name (by simp [kp0])) sgs_nil))) (fun _ => (ss_one (s_put 10 hu1 (pv 10) (v_var 11) (v_add (v_var 12) (v_mul (v_var 2) (u_io 0 (c__law_grab.mono (by decide : 1 ≤ 1)) hr pass0 trivial (pv 0) (va_cons v_int va_nil))))))))
  (ss_cons (s_app 3 (pv 3) (v_take 10))
  (ss_one (s_if (t_in hu1 (v_var 8) (v_ixH hu1 (v_var 1) v_int)) (ss_one (s_app 4 (pv 4) (v_add (v_mul (v_var 5) (v_var 2)) (v_var 8)))) ss_nil))))))))
  (ss_cons (s_setF 6 hN (by simp [kp0]) (v_lst va_nil))
  (ss_cons (s_for own_cx rfl (vi_list (v_ixH hu1 (v_var 1) v_int)) (pg_name hN rfl (by first | exact Or.inl rfl | exact Or.inr rfl)) (sg_name (by simp [kp0])) (ss_one (s_setF 6 hN (by simp [kp0]) (v_add (v_var 6) (v_lcK rfl hN (pi_keys (pv 7)) di_keys (pth_var 7) (blkOk_by (own := [("_law_deed", 11)]) (by show blkC ["_law_jar_here", "_law_web_here", "_law_count", "_law_found", "_law_stops", "_law_turn", "_law_deeds_here", "_law_steps_here", "_law_at", "_law_rest", "_law_row", "_law_deed", "_law_goal"] (defScope (top 27)) _ _ = true; decide +kernel)) (sg_name (by simp)) (fun _ _ _ _ _ => (pg_name hN rfl (by first | exact Or.inl rfl | exact Or.inr rfl))) (fun _ _ _ _ _ _ => (vts_one (t_notIn hu1 (v_var 11) (v_var 6)))) (fun _ _ _ _ _ _ => (v_var 11)))))))
  (ss_cons (s_setF 8 hN (by simp [kp0]) (u_io 0 (c__law_grab.mono (by decide : 1 ≤ 1)) hr pass0 trivial (pv 0) (va_cons (v_fz (v_mul v_int (v_var 2))) va_nil)))
  (ss_cons (s_setLcF 9 rfl hN (by simp [kp0]) (vi_list (v_var 6)) (blkOk_by (own := [("_law_deed", 11)]) (by show blkC ["_law_jar_here", "_law_web_here", "_law_count", "_law_found", "_law_stops", "_law_turn", "_law_deeds_here", "_law_steps_here", "_law_at", "_law_rest", "_law_row", "_law_deed", "_law_goal"] (defScope (top 27)) _ _ = true; decide +kernel)) (sg_name (by simp)) (fun _ _ _ _ _ => (pg_name hN rfl (by first | exact Or.inl rfl | exact Or.inr rfl))) (fun _ _ _ _ _ => (vts_one (t_view (t_notIn hu1 (v_var 11) (v_ixH hu1 (v_var 3) (v_var 8)))))) (fun _ _ _ _ _ => (v_var 11)))
  (ss_cons (s_if (t_ne hu (v_var 9) (v_lst va_nil)) (ss_one (s_put2 3 hu1 (pv 3) (v_var 8) (v_ixH hu1 (v_var 9) v_int) (v_mul v_int (v_var 2)))) ss_nil)
  (ss_one (s_ret (v_tup (va_cons (v_add (v_frz 3) (v_lst (va_cons v_newD (va_cons (v_dict m_dict rfl (va_cons (v_lc rfl hN (vi_list (v_cut (v_var 6) vo_none (vo_some v_int))) (blkOk_by (own := [("_law_deed", 11)]) (by show blkC ["_law_jar_here", "_law_web_here", "_law_count", "_law_found", "_law_stops", "_law_turn", "_law_deeds_here", "_law_steps_here", "_law_at", "_law_rest", "_law_row", "_law_deed", "_law_goal"] (defScope (top 27)) _ _ = true; decide +kernel)) (sg_name (by simp)) (fun _ _ _ _ _ => (pg_name hN rfl (by first | exact Or.inl rfl | exact Or.inr rfl))) (fun _ _ _ _ _ => vts_nil) (fun _ _ _ _ _ => (v_tup (va_cons (v_var 11) (va_cons v_int va_nil))))) va_nil)) va_nil)))) (va_cons (v_view (v_add (v_var 4) (v_lst (va_cons (v_add (v_mul v_int (v_var 2)) v_int) va_nil)))) va_nil))))))))))))

-- _law_days_to: 0 _law_web_here, 1 _law_most, 2 _law_found, 3 _law_front, 4 _law_turn, 5 _law_later, 6 _law_day, 7 _law_at, 8 _law_deed
theorem sc__law_days_to : FnScope ["_law_web_here", "_law_most", "_law_found", "_law_front", "_law_turn", "_law_later", "_law_day", "_law_at", "_law_deed"] ["_law_web_here", "_law_most"] (defScope (top 31)) := ⟨rfl, rfl, rfl, by decide +kernel, rfl, by decide +kernel, by decide +kernel⟩
theorem b__law_days_to {P : Program} {w : World} {K : PySem.W.Frag} {mg : Str → Option Value} {base : Heap} {lk : Lk} {f : Addr} {cdv : Value} {A : Around} {outer : List Env} {s : Shared} {H : Hp} {E : XK} (hr : Room 0 (A.deeper (envOfC "_law_days_to" (defScope (top 31)) s.heap.objs.size f cdv)))
    (m_range : mg "range" = none)
    (m_sorted : mg "sorted" = none) :
    PSs (cxOf CX0 P w K mg base ["_law_web_here", "_law_most", "_law_found", "_law_front", "_law_turn", "_law_later", "_law_day", "_law_at", "_law_deed"] "_law_days_to" (defScope (top 31)) f cdv A outer s H E) (defBody (top 31)) (LS lk noK (wxOf E) (w__law_days_to)) := by
  have hu := hr.units
  have hu1 := hu_of hr
  have hN := (sc__law_days_to).nd
  exact (ss_cons (s_par 2 3 rfl hN (by simp [noK]) (by simp [noK]) (va_cons (v_fz (v_lst va_nil)) (va_cons (v_fz (v_lst (va_cons (v_tup (va_cons (v_lst va_nil) (va_cons v_int va_nil))) va_nil))) va_nil)))
  (ss_cons (s_for own_cx rfl (vi_rng1 m_range (v_add (v_var 1) v_int)) (pg_name hN rfl (by first | exact Or.inl rfl | exact Or.inr rfl)) (sg_name (by simp [noK])) (ss_cons (s_setF 2 hN (by simp [noK]) (v_add (v_var 2) (v_lc rfl hN (vi_list (v_var 3)) (blkOk_by (own := [("_law_day", 6), ("_law_at", 7)]) (by show blkC ["_law_web_here", "_law_most", "_law_found", "_law_front", "_law_turn", "_law_later", "_law_day", "_law_at", "_law_deed"] (defScope (top 31)) _ _ = true; decide +kernel)) (sg_tup (sgs_cons (sg_name (by simp)) (sgs_cons (sg_name (by simp)) sgs_nil))) (fun _ _ _ _ _ => (pg_tup rfl (pgs_cons (pg_name hN rfl (by first | exact Or.inl rfl | exact Or.inr rfl)) (pgs_cons (pg_name hN rfl (by first | exact Or.inl rfl | exact Or.inr rfl)) pgs_nil)))) (fun _ _ _ _ _ => (vts_one (t_in hu1 (v_var 7) (v_ixH hu1 (v_var 0) v_int)))) (fun _ _ _ _ _ => (v_var 6)))))
  (ss_cons (s_set 5 hN (by simp [noK]) (v_lst va_nil))
  (ss_cons (s_for own_cx rfl (vi_list (v_var 3)) (pg_tup rfl (pgs_cons (pg_name hN rfl (by first | exact Or.inl rfl | exact Or.inr rfl)) (pgs_cons (pg_name hN rfl (by first | exact Or.inl rfl | exact Or.inr rfl)) pgs_nil))) (sg_tup (sgs_cons (sg_name (by simp [noK])) (sgs_cons (sg_name (by simp [noK])) sgs_nil))) (ss_one (s_for own_cx rfl (vi_list (v_sorted m_sorted rfl (va_cons (v_ixH hu1 (v_ixH hu1 (v_var 0) v_int) (v_var 7)) va_nil))) (pg_name hN rfl (by first | exact Or.inl rfl | exact Or.inr rfl)) (sg_name (by simp [noK])) (ss_one (s_app 5 (pv 5) (v_tup (va_cons (v_add (v_var 6) (v_lst (va_cons (v_var 8) va_nil))) (va_cons (v_ixH hu1 (v_ixH hu1 (v_ixH hu1 (v_var 0) v_int) (v_var 7)) (v_var 8)) va_nil))))))))
  (ss_one (s_setF 3 hN (by simp [noK]) (v_sortG hu m_sorted (va_cons (v_frz 5) va_nil))))))))
  (ss_one (s_ret (v_var 2)))))

-- _law_inside: 0 _law_left, 1 _law_right, 2 _law_live, 3 _law_many, 4 _law_order, 5 _law_seen, 6 _law_turn, 7 _law_at, 8 _law_steps_here, 9 _law_mine, 10 _law_its, 11 _law_deed, 12 _law_goal, 13 _law_goals
theorem sc__law_inside : FnScope ["_law_left", "_law_right", "_law_live", "_law_many", "_law_order", "_law_seen", "_law_turn", "_law_at", "_law_steps_here", "_law_mine", "_law_its", "_law_deed", "_law_goal", "_law_goals"] ["_law_left", "_law_right"] (defScope (top 32)) := ⟨rfl, rfl, rfl, by decide +kernel, rfl, by decide +kernel, by decide +kernel⟩
theorem b__law_inside {P : Program} {w : World} {K : PySem.W.Frag} {mg : Str → Option Value} {base : Heap} {lk : Lk} {f : Addr} {cdv : Value} {A : Around} {outer : List Env} {s : Shared} {H : Hp} {E : XK} (hr : Room 0 (A.deeper (envOfC "_law_inside" (defScope (top 32)) s.heap.objs.size f cdv)))
    (m_dict : mg "dict" = none)
    (m_len : mg "len" = none)
    (m_enumerate : mg "enumerate" = none)
    (m_range : mg "range" = none) :
    PSs (cxOf CX0 P w K mg base ["_law_left", "_law_right", "_law_live", "_law_many", "_law_order", "_law_seen", "_law_turn", "_law_at", "_law_steps_here", "_law_mine", "_law_its", "_law_deed", "_law_goal", "_law_goals"] "_law_inside" (defScope (top 32)) f cdv A outer s H E) (defBody (top 32)) (LS lk noK (wxOf E) (w__law_inside P w)) := by
  have hu := hr.units
  have hu1 := hu_of hr
  have hN := (sc__law_inside).nd
  exact (ss_cons (s_parT [2, 3] rfl (by simp [noK, kp0]) (va_cons (v_dict m_dict rfl (va_cons (v_lc rfl hN (vi_list (v_ixH hu1 (v_var 0) v_int)) (blkOk_by (own := [("_law_at", 7)]) (by show blkC ["_law_left", "_law_right", "_law_live", "_law_many", "_law_order", "_law_seen", "_law_turn", "_law_at", "_law_steps_here", "_law_mine", "_law_its", "_law_deed", "_law_goal", "_law_goals"] (defScope (top 32)) _ _ = true; decide +kernel)) (sg_name (by simp)) (fun _ _ _ _ _ => (pg_name hN rfl (by first | exact Or.inl rfl | exact Or.inr rfl))) (fun _ _ _ _ _ => vts_nil) (fun _ _ _ _ _ => (v_tup (va_cons (v_var 7) (va_cons v_int va_nil))))) va_nil)) (va_cons (v_fz (v_neg v_int)) va_nil)) (pgs_cons (pg_name hN rfl (by first | exact Or.inl rfl | exact Or.inr rfl)) (pgs_cons (pg_name hN rfl (by first | exact Or.inl rfl | exact Or.inr rfl)) pgs_nil)))
  (ss_cons (s_while own_cx (t_view (t_gt (v_len m_len (va_cons (v_var 2) va_nil)) (v_var 3))) (ss_cons (s_setF 3 hN (by simp [noK]) (v_view (v_len m_len (va_cons (v_var 2) va_nil))))
  (ss_one (s_for own_cx rfl (vi_enum m_enumerate (v_ixH hu1 (v_var 0) v_int)) (pg_tup rfl (pgs_cons (pg_name hN rfl (by first | exact Or.inl rfl | exact Or.inr rfl)) (pgs_cons (pg_name hN rfl (by first | exact Or.inl rfl | exact Or.inr rfl)) pgs_nil))) (sg_tup (sgs_cons (sg_name (by simp [noK])) (sgs_cons (sg_name (by simp [noK])) sgs_nil))) (ss_one (s_if (t_view (t_ne hu (v_lcK rfl hN (pi_values (pv 8)) di_vals (pth_var 8) (blkOk_by (own := [("_law_goal", 12)]) (by show blkC ["_law_left", "_law_right", "_law_live", "_law_many", "_law_order", "_law_seen", "_law_turn", "_law_at", "_law_steps_here", "_law_mine", "_law_its", "_law_deed", "_law_goal", "_law_goals"] (defScope (top 32)) _ _ = true; decide +kernel)) (sg_name (by simp)) (fun _ _ _ _ _ => (pg_name hN rfl (by first | exact Or.inl rfl | exact Or.inr rfl))) (fun _ _ _ _ _ _ => (vts_one (t_in hu1 (v_var 12) (v_var 2)))) (fun _ _ _ _ _ _ => (v_var 12))) (v_lst va_nil))) (ss_one (s_put 2 hu1 (pv 2) (v_var 7) v_int)) ss_nil))))))
  (ss_cons (s_par 4 5 rfl hN (by simp [noK]) (by simp [noK]) (va_cons (v_lst (va_cons (v_tup (va_cons v_int (va_cons v_int va_nil))) va_nil)) (va_cons (v_disp1N hu (v_tup (va_cons v_int (va_cons v_int va_nil))) v_int) va_nil)))
  (ss_cons (s_for own_cx rfl (vi_rng1 m_range (v_mul (v_len m_len (va_cons (v_ixH hu1 (v_var 0) v_int) va_nil)) (v_add (v_len m_len (va_cons (v_ixH hu1 (v_var 1) v_int) va_nil)) v_int))) (pg_name hN rfl (by first | exact Or.inl rfl | exact Or.inr rfl)) (sg_name (by simp [noK])) (ss_one (s_if (t_view (t_lt (v_var 6) (v_len m_len (va_cons (v_var 4) va_nil)))) (ss_cons (s_asg (v_view2 (v_ixH hu1 (v_var 4) (v_var 6))) (pg_tup rfl (pgs_cons (pg_name hN rfl (by first | exact Or.inl rfl | exact Or.inr rfl)) (pgs_cons (pg_name hN rfl (by first | exact Or.inl rfl | exact Or.inr rfl)) pgs_nil))) (sg_tup (sgs_cons (sg_name (by simp [noK])) (sgs_cons (sg_name (by simp [noK])) sgs_nil))))
  (ss_cons (s_if (PW.pt (v_and (t_in hu1 (v_var 9) (v_ixH hu1 (v_var 0) v_int)) (v_and1 (PW.pt (v_or (t_isN (v_var 10) v_non) (v_or1 (t_notIn hu1 (v_var 10) (v_ixH hu1 (v_var 1) v_int)))))))) (ss_one (s_ret v_bl)) ss_nil)
  (ss_one (s_forK own_cx rfl (pi_items (pe_ix (ix_any hu1) (pe_ix (ix_any hu1) (pv 0) pe_int (by first | exact fun _ _ => rfl | (intro _ _; rfl))) (pv 9) (by first | exact fun _ _ => rfl | (intro _ _; rfl)))) di_items (pth_ix (pth_ix (pth_var 0) (pth_int 0)) (pth_var 9)) (pg_tup rfl (pgs_cons (pg_name hN rfl (by first | exact Or.inl rfl | exact Or.inr rfl)) (pgs_cons (pg_name hN rfl (by first | exact Or.inl rfl | exact Or.inr rfl)) pgs_nil))) (sg_tup (sgs_cons (sg_name (by simp [noK])) (sgs_cons (sg_name (by simp [noK])) sgs_nil))) (fun _ => (ss_cons (s_setF 13 hN (by simp [noK]) (v_tup (va_cons (v_var 12) (va_cons (v_ifExp (t_isN (v_var 10) v_non) v_non (v_get hu1 (v_ixH hu1 (v_ixH hu1 (v_var 1) v_int) (v_var 10)) (v_var 11) ⟨rfl, rfl, rfl, rfl⟩)) va_nil))))
  (ss_one (s_if (PW.pt (v_and (t_view (t_in hu1 (v_var 12) (v_var 2))) (v_and1 (t_notInN 5 hu (v_var 13) (pv 5))))) (ss_cons (s_putN 5 hu (pv 5) (v_var 13) v_int)
  (ss_one (s_app 4 (pv 4) (v_var 13)))) ss_nil)))))))) ss_nil)))
  (ss_one (s_ret v_bl))))))

-- _law_fits: 0 _law_jar_here, 1 _law_callings_here, 2 _law_web_here, 3 _law_bent, 4 _law_made, 5 _law_mate, 6 _law_webs, 7 _law_rules_here, 8 _law_at, 9 _law_day, 10 _law_both_here, 11 _law_either, 12 _law_far, 13 _law_owed, 14 _law_told, 15 _law_some
theorem sc__law_fits : FnScope ["_law_jar_here", "_law_callings_here", "_law_web_here", "_law_bent", "_law_made", "_law_mate", "_law_webs", "_law_rules_here", "_law_at", "_law_day", "_law_both_here", "_law_either", "_law_far", "_law_owed", "_law_told", "_law_some"] ["_law_jar_here"] (defScope (top 33)) := ⟨rfl, rfl, rfl, by decide +kernel, rfl, by decide +kernel, by decide +kernel⟩
theorem b__law_fits {P : Program} {w : World} {K : PySem.W.Frag} {mg : Str → Option Value} {base : Heap} {C_Rule : Addr} {f : Addr} {cdv : Value} {A : Around} {outer : List Env} {s : Shared} {H : Hp} {E : XK} (hG : A.guards = some []) (hr : Room 7 (A.deeper (envOfC "_law_fits" (defScope (top 33)) s.heap.objs.size f cdv)))
    (c__law_callings : Cal P w K mg base CX0 "_law_callings" 2 ["_law_jar_here", "_law_many"] (spIO anyL 2 o_callings))
    (c__law_grab : Cal P w K mg base CX0 "_law_grab" 1 ["_law_jar_here", "_law_many"] (spIO anyL 2 o_grab))
    (c__law_web : Cal P w K mg base CX0 "_law_web" 2 ["_law_jar_here", "_law_most", "_law_callings_here"] (spIO anyL 3 o_web))
    (c__law_bent_web : Cal P w K mg base CX0 "_law_bent_web" 2 ["_law_jar_here", "_law_web_here", "_law_callings_here"] (spIO onlyL 3 o_bent_web))
    (c__law_made_rule : Cal P w K mg base CX0 "_law_made_rule" 5 ["_law_web_here"] (spV onlyL 1 (o_made C_Rule)))
    (c__law_blown_web : Cal P w K mg base CX0 "_law_blown_web" 2 ["_law_jar_here", "_law_web_here"] (spIO onlyL 2 o_blown_web))
    (m_range : mg "range" = none)
    (c__law_inside : Cal P w K mg base CX0 "_law_inside" 1 ["_law_left", "_law_right"] (spV anyL 2 o_inside))
    (c_Rule_within : CalM P w K mg base CX0 C_Rule "within" 6 ["self", "other"] (spV anyL 2 (o_within C_Rule)))
    (ck_Rule_within : CalMK P w K mg base CX0 C_Rule "within" 6 ["self", "other"] ["other"] (spV anyL 2 (o_within C_Rule)))
    (m_repr : mg "repr" = none)
    (c__law_days_to : Cal P w K mg base CX0 "_law_days_to" 1 ["_law_web_here", "_law_most"] (spV anyL 2 o_days_to))
    (c_Rule_has : CalM P w K mg base CX0 C_Rule "has" 2 ["self", "day"] (spV anyL 2 (o_has C_Rule)))
    (c_Rule___and__ : CalM P w K mg base CX0 C_Rule "__and__" 5 ["self", "other"] (spV anyL 2 (o_both C_Rule true)))
    (sf_Rule : PySem.W.selfFirst K C_Rule = true)
    (c_Rule___or__ : CalM P w K mg base CX0 C_Rule "__or__" 5 ["self", "other"] (spV anyL 2 (o_both C_Rule false)))
    (c_Rule___eq__ : CalM P w K mg base CX0 C_Rule "__eq__" 1 ["self", "other"] (spV anyL 2 (o_eq C_Rule))) :
    PSs (cxOf CX0 P w K mg base ["_law_jar_here", "_law_callings_here", "_law_web_here", "_law_bent", "_law_made", "_law_mate", "_law_webs", "_law_rules_here", "_law_at", "_law_day", "_law_both_here", "_law_either", "_law_far", "_law_owed", "_law_told", "_law_some"] "_law_fits" (defScope (top 33)) f cdv A outer s H E) (defBody (top 33)) (LS noLk noK (wxOf E) (w__law_fits C_Rule)) := by
  have hu := hr.units
  have hu1 := hu_of hr
  have hN := (sc__law_fits).nd
  have hG : (A.deeper (envOfC "_law_fits" (defScope (top 33)) s.heap.objs.size f cdv)).guards = some [] := hG
  exact (ss_cons (s_setF 1 hN (by simp [noK]) (u_io 0 (c__law_callings.mono (by decide : 2 ≤ 7)) hr pass0 trivial (pv 0) (va_cons (v_fz (v_add v_int (u_io 0 (c__law_grab.mono (by decide : 1 ≤ 7)) hr pass0 trivial (pv 0) (va_cons v_int va_nil)))) va_nil)))
  (ss_cons (s_setF 2 hN (by simp [noK]) (u_io 0 (c__law_web.mono (by decide : 2 ≤ 7)) hr pass0 trivial (pv 0) (va_cons v_int (va_cons (v_var 1) va_nil))))
  (ss_cons (s_setF 3 hN (by simp [noK]) (u_io 0 (c__law_bent_web.mono (by decide : 2 ≤ 7)) hr pass0 rfl (pv 0) (va_cons (v_var 2) (va_cons (v_var 1) va_nil))))
  (ss_cons (s_par 4 5 rfl hN (by simp [noK]) (by simp [noK]) (va_cons (v_fz (u_fn (c__law_made_rule.mono (by decide : 5 ≤ 7)) hr pass0 rfl (va_cons (v_var 2) va_nil))) (va_cons (v_fz (u_fn (c__law_made_rule.mono (by decide : 5 ≤ 7)) hr pass0 rfl (va_cons (v_fz (u_io 0 (c__law_blown_web.mono (by decide : 2 ≤ 7)) hr pass0 rfl (pv 0) (va_cons (v_var 3) va_nil))) va_nil))) va_nil)))
  (ss_cons (s_setF 6 hN (by simp [noK]) (v_lst (va_cons (v_var 2) (va_cons (v_var 3) (va_cons (u_io 0 (c__law_web.mono (by decide : 2 ≤ 7)) hr pass0 trivial (pv 0) (va_cons v_int (va_cons (v_var 1) va_nil))) (va_cons (v_tup (va_cons (v_lst (va_cons v_newD va_nil)) (va_cons (v_lst va_nil) va_nil))) (va_cons (v_tup (va_cons (v_lst (va_cons v_newD va_nil)) (va_cons (v_lst (va_cons v_int va_nil)) va_nil))) va_nil)))))))
  (ss_cons (s_setF 7 hN (by simp [noK]) (v_add (v_lst (va_cons (v_var 4) (va_cons (v_var 5) va_nil))) (v_lc rfl hN (vi_list (v_cut (v_var 6) (vo_some v_int) vo_none)) (blkOk_by (own := [("_law_some", 15)]) (by show blkC ["_law_jar_here", "_law_callings_here", "_law_web_here", "_law_bent", "_law_made", "_law_mate", "_law_webs", "_law_rules_here", "_law_at", "_law_day", "_law_both_here", "_law_either", "_law_far", "_law_owed", "_law_told", "_law_some"] (defScope (top 33)) _ _ = true; decide +kernel)) (sg_name (by simp)) (fun _ _ _ _ _ => (pg_name hN rfl (by first | exact Or.inl rfl | exact Or.inr rfl))) (fun _ _ _ _ _ => vts_nil) (fun _ _ _ _ _ => (u_fn (c__law_made_rule.mono (by decide : 5 ≤ 7)) hr pass0 rfl (va_cons (v_var 15) va_nil))))))
  (ss_cons (s_for own_cx rfl (vi_rng1 m_range v_int) (pg_name hN rfl (by first | exact Or.inl rfl | exact Or.inr rfl)) (sg_name (by simp [noK])) (ss_one (s_for own_cx rfl (vi_rng1 m_range v_int) (pg_name hN rfl (by first | exact Or.inl rfl | exact Or.inr rfl)) (sg_name (by simp [noK])) (ss_cons (s_setF 13 hN (by simp [noK]) (u_fn (c__law_inside.mono (by decide : 1 ≤ 7)) hr pass0 trivial (va_cons (v_fz (v_ixH hu1 (v_var 6) (v_var 8))) (va_cons (v_fz (v_ixH hu1 (v_var 6) (v_var 12))) va_nil))))
  (ss_cons (s_setF 14 hN (by simp [noK]) (v_lst (va_cons (u_meth (c_Rule_within.mono (by decide : 6 ≤ 7)) hr pass0 trivial (v_fz (v_ixH hu1 (v_var 7) (v_var 8))) (va_cons (v_fz (v_ixH hu1 (v_var 7) (v_var 12))) va_nil)) (va_cons (u_methK (ck_Rule_within.mono (by decide : 6 ≤ 7)) hr pass0 trivial rfl (v_ixH hu1 (v_var 7) (v_var 8)) (vk_cons (v_fz (v_ixH hu1 (v_var 7) (v_var 12))) vk_nil)) va_nil))))
  (ss_one (s_if (t_ne hu (v_repr hG hu m_repr (va_cons (v_var 14) va_nil)) (v_repr hG hu m_repr (va_cons (v_lst (va_cons (v_var 13) (va_cons (v_var 13) va_nil))) va_nil))) (ss_one (s_ret v_bl)) ss_nil)))))))
  (ss_cons (s_for own_cx rfl (vi_list (v_cut (u_fn (c__law_days_to.mono (by decide : 1 ≤ 7)) hr pass0 trivial (va_cons (v_var 2) (va_cons v_int va_nil))) vo_none (vo_some v_int))) (pg_name hN rfl (by first | exact Or.inl rfl | exact Or.inr rfl)) (sg_name (by simp [noK])) (ss_one (s_if (PW.pt (v_and (v_test (u_meth (c_Rule_within.mono (by decide : 6 ≤ 7)) hr pass0 trivial (v_var 4) (va_cons (v_fz (v_ixH hu1 (v_var 7) v_int)) va_nil))) (v_and1 (v_not (v_test (u_meth (c_Rule_has.mono (by decide : 2 ≤ 7)) hr pass0 trivial (v_fz (v_ixH hu1 (v_var 7) v_int)) (va_cons (v_var 9) va_nil))))))) (ss_one (s_ret v_bl)) ss_nil)))
  (ss_cons (s_par 10 11 rfl hN (by simp [noK]) (by simp [noK]) (va_cons (v_fz (u_op2 (c_Rule___and__.mono (by decide : 5 ≤ 7)) rfl sf_Rule hr pass0 (v_var 4) (v_var 5))) (va_cons (v_fz (u_op2 (c_Rule___or__.mono (by decide : 5 ≤ 7)) rfl sf_Rule hr pass0 (v_var 4) (v_var 5))) va_nil)))
  (ss_cons (s_if (PW.pt (v_or (v_not (v_test (u_meth (c_Rule_within.mono (by decide : 6 ≤ 7)) hr pass0 trivial (v_var 10) (va_cons (v_var 4) va_nil)))) (v_or (v_not (v_test (u_meth (c_Rule_within.mono (by decide : 6 ≤ 7)) hr pass0 trivial (v_var 4) (va_cons (v_var 11) va_nil)))) (v_or1 (v_not (v_test (u_meth (c_Rule_within.mono (by decide : 6 ≤ 7)) hr pass0 trivial (v_var 10) (va_cons (v_var 11) va_nil)))))))) (ss_one (s_ret v_bl)) ss_nil)
  (ss_cons (s_if (PW.pt (v_or (t_ne hu (u_meth (c_Rule_within.mono (by decide : 6 ≤ 7)) hr pass0 trivial (v_var 4) (va_cons (v_var 10) va_nil)) (u_meth (c_Rule_within.mono (by decide : 6 ≤ 7)) hr pass0 trivial (v_var 4) (va_cons (v_var 5) va_nil))) (v_or1 (t_ne hu (u_meth (c_Rule_within.mono (by decide : 6 ≤ 7)) hr pass0 trivial (v_var 11) (va_cons (v_var 4) va_nil)) (u_meth (c_Rule_within.mono (by decide : 6 ≤ 7)) hr pass0 trivial (v_var 5) (va_cons (v_var 4) va_nil)))))) (ss_one (s_ret v_bl)) ss_nil)
  (ss_one (s_ret (v_andV (v_eqO hu (c_Rule___eq__.mono (by decide : 1 ≤ 7)) hr pass0 (v_var 4) (v_fz (u_fn (c__law_made_rule.mono (by decide : 5 ≤ 7)) hr pass0 rfl (va_cons (v_var 2) va_nil)))) (v_one (v_eqO hu (c_Rule___eq__.mono (by decide : 1 ≤ 7)) hr pass0 (v_var 5) (v_fz (u_fn (c__law_made_rule.mono (by decide : 5 ≤ 7)) hr pass0 rfl (va_cons (v_var 3) va_nil)))))))))))))))))))

-- law: 0 _law_script, 1 _law_place
theorem sc_law : FnScope ["_law_script", "_law_place"] ["_law_script"] (defScope (top 34)) := ⟨rfl, rfl, rfl, by decide +kernel, rfl, by decide +kernel, by decide +kernel⟩
theorem b_law {P : Program} {w : World} {K : PySem.W.Frag} {mg : Str → Option Value} {base : Heap} {f : Addr} {cdv : Value} {A : Around} {outer : List Env} {s : Shared} {H : Hp} {E : XK} (hG : A.guards = some []) (hr : Room 8 (A.deeper (envOfC "law" (defScope (top 34)) s.heap.objs.size f cdv)))
    (m_range : mg "range" = none)
    (m_min : mg "min" = none)
    (m_len : mg "len" = none)
    (m_int : mg "int" = none)
    (c__law_fits : CalG P w K mg base CX0 "_law_fits" 8 ["_law_jar_here"] (spV onlyL 1 o_fits))
    (c__law_jar : Cal P w K mg base CX0 "_law_jar" 1 ["_law_script", "_law_place"] (spV anyL 2 (o_jar K))) :
    PSs (cxOf CX0 P w K mg base ["_law_script", "_law_place"] "law" (defScope (top 34)) f cdv A outer s H E) (defBody (top 34)) (LS noLk noK (wxOf E) (w_law K)) := by
  have hu := hr.units
  have hu1 := hu_of hr
  have hN := (sc_law).nd
  have hG : (A.deeper (envOfC "law" (defScope (top 34)) s.heap.objs.size f cdv)).guards = some [] := hG
  exact (ss_cons (s_for own_cx rfl (vi_rng1 m_range (v_min2 m_min rfl (va_cons v_int (va_cons (v_sub (v_add (v_scrLen 0 m_len (pv 0)) v_int) (v_toInt m_int (va_cons (v_gt (v_scrLen 0 m_len (pv 0)) v_int) va_nil))) va_nil)))) (pg_name hN rfl (by first | exact Or.inl rfl | exact Or.inr rfl)) (sg_name (by simp [noK])) (ss_one (s_if (v_not (v_test (u_fnG (c__law_fits.mono (by decide : 8 ≤ 8)) hG hr pass0 rfl (va_cons (u_fn (c__law_jar.mono (by decide : 1 ≤ 8)) hr pass0 trivial (va_cons (v_var 0) (va_cons (v_var 1) va_nil))) va_nil)))) (ss_one (s_ret v_bl)) ss_nil)))
  (ss_one (s_ret v_bl)))

def d_is_name : He.DefD := ⟨("is_name", none), "is_name", "is_name", defArgs (top 9), defBody (top 9), defScope (top 9), [], []⟩
def d_check_rooms : He.DefD := ⟨("check_rooms", none), "check_rooms", "check_rooms", defArgs (top 10), defBody (top 10), defScope (top 10), [], []⟩
def d_live_rooms : He.DefD := ⟨("live_rooms", none), "live_rooms", "live_rooms", defArgs (top 11), defBody (top 11), defScope (top 11), [], []⟩
def d_room_kinds : He.DefD := ⟨("room_kinds", none), "room_kinds", "room_kinds", defArgs (top 12), defBody (top 12), defScope (top 12), [], []⟩
def d_least_rooms : He.DefD := ⟨("least_rooms", none), "least_rooms", "least_rooms", defArgs (top 13), defBody (top 13), defScope (top 13), [], []⟩
def d_room_behind : He.DefD := ⟨("room_behind", none), "room_behind", "room_behind", defArgs (top 14), defBody (top 14), defScope (top 14), [], []⟩
def d_deeds_of : He.DefD := ⟨("deeds_of", none), "deeds_of", "deeds_of", defArgs (top 15), defBody (top 15), defScope (top 15), [], []⟩
def d_paired : He.DefD := ⟨("paired", none), "paired", "paired", defArgs (top 16), defBody (top 16), defScope (top 16), [], []⟩
def d_from_behind : He.DefD := ⟨("from_behind", none), "from_behind", "from_behind", defArgs (top 17), defBody (top 17), defScope (top 17), [], []⟩
def d_init : He.DefD := ⟨("Rule", some "__init__"), "__init__", "Rule.__init__", defArgs (meth 18 0), defBody (meth 18 0), defScope (meth 18 0), [], []⟩
def d_len : He.DefD := ⟨("Rule", some "__len__"), "__len__", "Rule.__len__", defArgs (meth 18 4), defBody (meth 18 4), defScope (meth 18 4), [], []⟩
def d_eq : He.DefD := ⟨("Rule", some "__eq__"), "__eq__", "Rule.__eq__", defArgs (meth 18 5), defBody (meth 18 5), defScope (meth 18 5), [], []⟩
def d_and : He.DefD := ⟨("Rule", some "__and__"), "__and__", "Rule.__and__", defArgs (meth 18 6), defBody (meth 18 6), defScope (meth 18 6), [], []⟩
def d_or : He.DefD := ⟨("Rule", some "__or__"), "__or__", "Rule.__or__", defArgs (meth 18 7), defBody (meth 18 7), defScope (meth 18 7), [], []⟩
def d_invert : He.DefD := ⟨("Rule", some "__invert__"), "__invert__", "Rule.__invert__", defArgs (meth 18 8), defBody (meth 18 8), defScope (meth 18 8), [], []⟩
def d_has : He.DefD := ⟨("Rule", some "has"), "has", "Rule.has", defArgs (meth 18 9), defBody (meth 18 9), defScope (meth 18 9), [], []⟩
def d_within : He.DefD := ⟨("Rule", some "within"), "within", "Rule.within", defArgs (meth 18 13), defBody (meth 18 13), defScope (meth 18 13), [], []⟩
def d__law_jar : He.DefD := ⟨("_law_jar", none), "_law_jar", "_law_jar", defArgs (top 20), defBody (top 20), defScope (top 20), [], []⟩
def d__law_grab : He.DefD := ⟨("_law_grab", none), "_law_grab", "_law_grab", defArgs (top 21), defBody (top 21), defScope (top 21), [], []⟩
def d__law_callings : He.DefD := ⟨("_law_callings", none), "_law_callings", "_law_callings", defArgs (top 22), defBody (top 22), defScope (top 22), [], []⟩
def d__law_web : He.DefD := ⟨("_law_web", none), "_law_web", "_law_web", defArgs (top 23), defBody (top 23), defScope (top 23), [], []⟩
def d__law_made_rule : He.DefD := ⟨("_law_made_rule", none), "_law_made_rule", "_law_made_rule", defArgs (top 24), defBody (top 24), defScope (top 24), [], []⟩
def d__law_bent_web : He.DefD := ⟨("_law_bent_web", none), "_law_bent_web", "_law_bent_web", defArgs (top 26), defBody (top 26), defScope (top 26), [], []⟩
def d__law_blown_web : He.DefD := ⟨("_law_blown_web", none), "_law_blown_web", "_law_blown_web", defArgs (top 27), defBody (top 27), defScope (top 27), [], []⟩
def d__law_days_to : He.DefD := ⟨("_law_days_to", none), "_law_days_to", "_law_days_to", defArgs (top 31), defBody (top 31), defScope (top 31), [], []⟩
def d__law_inside : He.DefD := ⟨("_law_inside", none), "_law_inside", "_law_inside", defArgs (top 32), defBody (top 32), defScope (top 32), [], []⟩
def d__law_fits : He.DefD := ⟨("_law_fits", none), "_law_fits", "_law_fits", defArgs (top 33), defBody (top 33), defScope (top 33), [], []⟩
def d_law : He.DefD := ⟨("law", none), "law", "law", defArgs (top 34), defBody (top 34), defScope (top 34), [], []⟩
def fn : List He.DefD := [d_is_name, d_check_rooms, d_live_rooms, d_room_kinds, d_least_rooms, d_room_behind, d_deeds_of, d_paired, d_from_behind, d_init, d_len, d_eq, d_and, d_or, d_invert, d_has, d_within, d__law_jar, d__law_grab, d__law_callings, d__law_web, d__law_made_rule, d__law_bent_web, d__law_blown_web, d__law_days_to, d__law_inside, d__law_fits, d_law]
def fa : List He.Fa := [.glo "law", .free "len", .free "all", .str "LETTERS" "abcdefghijklmnopqrstuvwxyz", .glo "is_name", .free "range", .free "sorted", .glo "check_rooms", .free "any", .glo "live_rooms", .free "int", .free "tuple", .glo "room_kinds", .glo "least_rooms", .glo "room_behind", .glo "deeds_of", .free "set", .cls "Rule", .noat "Rule" "kept_rooms", .noat "Rule" "kept_ends", .glo "paired", .glo "from_behind", .mkr "Rule", .glo "Rule", .free "isinstance", .meth "Rule" "__eq__", .meth "Rule" "__and__", .meth "Rule" "__or__", .meth "Rule" "has", .meth "Rule" "within", .glo "_law_jar", .glo "_law_grab", .glo "_law_callings", .glo "_law_web", .free "dict", .free "list", .glo "_law_made_rule", .glo "_law_bent_web", .free "enumerate", .glo "_law_blown_web", .glo "_law_days_to", .glo "_law_inside", .free "repr", .glo "_law_fits", .free "min"]
def loose : List Str := ["_wall", "DayError", "InvalidName", "InvalidStep", "InvalidEnd", "InvalidLength", "LETTERS", "is_name", "check_rooms", "live_rooms", "room_kinds", "least_rooms", "room_behind", "deeds_of", "paired", "from_behind", "Rule", "_law_jar", "_law_grab", "_law_callings", "_law_web", "_law_made_rule", "_law_in_web", "_law_bent_web", "_law_blown_web", "_law_unlike_rooms", "_law_least_web", "_law_web_of", "_law_days_to", "_law_inside", "_law_fits"]
abbrev R : PySem.W.OpenRow := PySem.W.OpenLaw.row PySem.Challenge.rw_oncealike_k10_rules_within_rules
def exs : VL.Exs := [fun K => insB K (He.ga K "Rule"), fun K => PySem.W.selfFirst K (He.ga K "Rule")]
abbrev hk : PySem.W.Hook := VL.hookY 5 fa fn exs
def ob (s : PySem.W.SharedT) : He.AlD × Bool := VL.obsY 5 fa fn exs (HandSHeadRun.getT s)
theorem ob_eq (s : PySem.W.SharedT) : ob s = hk.obs s.abs := VL.obsY_eq (HandSHeadRun.getT_eq s)
theorem run (w : World) : HandSHeadRun.RunEq R (PySem.W.view R.prog [34]) hk ob 6000 loose w := by
  intro os
  kernel_rfl
theorem facts {P : Program} {w : World} {K : PySem.W.Frag} {h : Heap} {mg : Str → Option Value} {f : Addr} (X : K.In h) (G : h.Ns mainGlobals mg) (hfa : mg ("law" : Str) = some (.ref f)) (c : He.SaysD fa fn K) (c2 : VL.allX exs K = true) :
    ∃ fd : FuncData, (∀ (s : Shared) (v : Value), BindsTo s fd ⟨[v], []⟩ [("_law_script", v)]) ∧ ∀ base : Heap, K.In base → base.Ns mainGlobals mg → FnG P w K mg base CX0 9 f fd ["_law_script"] (spV onlyL 1 (o_law K)) := by
  obtain ⟨fd0, F0⟩ := c.def_ 0 (d := d_is_name) rfl
  obtain ⟨fd1, F1⟩ := c.def_ 1 (d := d_check_rooms) rfl
  obtain ⟨fd2, F2⟩ := c.def_ 2 (d := d_live_rooms) rfl
  obtain ⟨fd3, F3⟩ := c.def_ 3 (d := d_room_kinds) rfl
  obtain ⟨fd4, F4⟩ := c.def_ 4 (d := d_least_rooms) rfl
  obtain ⟨fd5, F5⟩ := c.def_ 5 (d := d_room_behind) rfl
  obtain ⟨fd6, F6⟩ := c.def_ 6 (d := d_deeds_of) rfl
  obtain ⟨fd7, F7⟩ := c.def_ 7 (d := d_paired) rfl
  obtain ⟨fd8, F8⟩ := c.def_ 8 (d := d_from_behind) rfl
  obtain ⟨fd9, F9⟩ := c.def_ 9 (d := d_init) rfl
  obtain ⟨fd10, F10⟩ := c.def_ 10 (d := d_len) rfl
  obtain ⟨fd11, F11⟩ := c.def_ 11 (d := d_eq) rfl
  obtain ⟨fd12, F12⟩ := c.def_ 12 (d := d_and) rfl
  obtain ⟨fd13, F13⟩ := c.def_ 13 (d := d_or) rfl
  obtain ⟨fd14, F14⟩ := c.def_ 14 (d := d_invert) rfl
  obtain ⟨fd15, F15⟩ := c.def_ 15 (d := d_has) rfl
  obtain ⟨fd16, F16⟩ := c.def_ 16 (d := d_within) rfl
  obtain ⟨fd17, F17⟩ := c.def_ 17 (d := d__law_jar) rfl
  obtain ⟨fd18, F18⟩ := c.def_ 18 (d := d__law_grab) rfl
  obtain ⟨fd19, F19⟩ := c.def_ 19 (d := d__law_callings) rfl
  obtain ⟨fd20, F20⟩ := c.def_ 20 (d := d__law_web) rfl
  obtain ⟨fd21, F21⟩ := c.def_ 21 (d := d__law_made_rule) rfl
  obtain ⟨fd22, F22⟩ := c.def_ 22 (d := d__law_bent_web) rfl
  obtain ⟨fd23, F23⟩ := c.def_ 23 (d := d__law_blown_web) rfl
  obtain ⟨fd24, F24⟩ := c.def_ 24 (d := d__law_days_to) rfl
  obtain ⟨fd25, F25⟩ := c.def_ 25 (d := d__law_inside) rfl
  obtain ⟨fd26, F26⟩ := c.def_ 26 (d := d__law_fits) rfl
  obtain ⟨fd27, F27⟩ := c.def_ 27 (d := d_law) rfl
  have eL := hfa.symm.trans (He.glo_ok X G (c.fact 0 (f := .glo "law") rfl))
  cases eL
  have bL := F27.bindsA (ps := ["_law_script"]) fun _ _ _ _ _ _ us hl => match us, hl with | [_], _ => rfl
  refine ⟨fd27, fun s v => bL s [v] rfl, fun base _ _ => ?_⟩
  have m_len : mg "len" = none := He.free_ok X G (c.fact 1 (f := .free "len") rfl)
  have m_all : mg "all" = none := He.free_ok X G (c.fact 2 (f := .free "all") rfl)
  have g_LETTERS : ∃ tk, mg "LETTERS" = some (.str "abcdefghijklmnopqrstuvwxyz" tk) := He.str_ok X G (c.fact 3 (f := .str "LETTERS" "abcdefghijklmnopqrstuvwxyz") rfl)
  have c_is_name : Cal P w K mg base CX0 "is_name" 1 ["name"] (spV anyL 1 o_is_name) := ⟨_, _, He.glo_ok X G (c.fact 4 (f := .glo "is_name") rfl), F0.kp, (F0.bindsN fun _ _ _ _ _ _ us hl => match us, hl with | [_], _ => rfl), ok_fn F0 sc_is_name rfl (fun lk _ cdv A outer s H E hr => (b_is_name hr m_len m_all g_LETTERS)) (fun xs PP RR hn h => sp_is_name xs PP RR hn h)⟩
  have m_range : mg "range" = none := He.free_ok X G (c.fact 5 (f := .free "range") rfl)
  have m_sorted : mg "sorted" = none := He.free_ok X G (c.fact 6 (f := .free "sorted") rfl)
  have c_check_rooms : Cal P w K mg base CX0 "check_rooms" 2 ["rooms", "ends"] (spV anyL 2 o_check_rooms) := ⟨_, _, He.glo_ok X G (c.fact 7 (f := .glo "check_rooms") rfl), F1.kp, (F1.bindsN fun _ _ _ _ _ _ us hl => match us, hl with | [_, _], _ => rfl), ok_fn F1 sc_check_rooms rfl (fun lk _ cdv A outer s H E hr => (b_check_rooms hr m_range m_len m_sorted c_is_name)) (fun xs PP RR hn h => sp_check_rooms xs PP RR hn h)⟩
  have m_any : mg "any" = none := He.free_ok X G (c.fact 8 (f := .free "any") rfl)
  have c_live_rooms : Cal P w K mg base CX0 "live_rooms" 1 ["rooms", "ends"] (spV anyL 2 o_live_rooms) := ⟨_, _, He.glo_ok X G (c.fact 9 (f := .glo "live_rooms") rfl), F2.kp, (F2.bindsN fun _ _ _ _ _ _ us hl => match us, hl with | [_, _], _ => rfl), ok_fn F2 sc_live_rooms rfl (fun lk _ cdv A outer s H E hr => (b_live_rooms hr m_len m_range m_any)) (fun xs PP RR hn h => sp_live_rooms xs PP RR hn h)⟩
  have m_int : mg "int" = none := He.free_ok X G (c.fact 10 (f := .free "int") rfl)
  have m_tuple : mg "tuple" = none := He.free_ok X G (c.fact 11 (f := .free "tuple") rfl)
  have c_room_kinds : Cal P w K mg base CX0 "room_kinds" 1 ["rooms", "ends", "live"] (spV anyL 3 o_room_kinds) := ⟨_, _, He.glo_ok X G (c.fact 12 (f := .glo "room_kinds") rfl), F3.kp, (F3.bindsN fun _ _ _ _ _ _ us hl => match us, hl with | [_, _, _], _ => rfl), ok_fn F3 sc_room_kinds rfl (fun lk _ cdv A outer s H E hr => (b_room_kinds hr m_range m_len m_int m_sorted m_tuple)) (fun xs PP RR hn h => sp_room_kinds P w xs PP RR hn h)⟩
  have c_least_rooms : Cal P w K mg base CX0 "least_rooms" 2 ["rooms", "ends"] (spV anyL 2 o_least_rooms) := ⟨_, _, He.glo_ok X G (c.fact 13 (f := .glo "least_rooms") rfl), F4.kp, (F4.bindsN fun _ _ _ _ _ _ us hl => match us, hl with | [_, _], _ => rfl), ok_fn F4 sc_least_rooms rfl (fun lk _ cdv A outer s H E hr => (b_least_rooms hr c_live_rooms c_room_kinds m_len m_sorted m_tuple m_range)) (fun xs PP RR hn h => sp_least_rooms xs PP RR hn h)⟩
  have c_room_behind : Cal P w K mg base CX0 "room_behind" 1 ["rooms", "index", "deed"] (spV anyL 3 o_room_behind) := ⟨_, _, He.glo_ok X G (c.fact 14 (f := .glo "room_behind") rfl), F5.kp, (F5.bindsN fun _ _ _ _ _ _ us hl => match us, hl with | [_, _, _], _ => rfl), ok_fn F5 sc_room_behind rfl (fun lk _ cdv A outer s H E hr => (b_room_behind hr)) (fun xs PP RR hn h => sp_room_behind xs PP RR hn h)⟩
  have c_deeds_of : Cal P w K mg base CX0 "deeds_of" 1 ["rooms", "index"] (spV anyL 2 o_deeds_of) := ⟨_, _, He.glo_ok X G (c.fact 15 (f := .glo "deeds_of") rfl), F6.kp, (F6.bindsN fun _ _ _ _ _ _ us hl => match us, hl with | [_, _], _ => rfl), ok_fn F6 sc_deeds_of rfl (fun lk _ cdv A outer s H E hr => (b_deeds_of hr)) (fun xs PP RR hn h => sp_deeds_of xs PP RR hn h)⟩
  have m_set : mg "set" = none := He.free_ok X G (c.fact 16 (f := .free "set") rfl)
  have cls_Rule : Cls K (He.ga K "Rule") := He.cls_ok (c.fact 17 (f := .cls "Rule") rfl)
  have na_Rule_kept_rooms : NoAttr K (He.ga K "Rule") "kept_rooms" := He.noat_ok (c.fact 18 (f := .noat "Rule" "kept_rooms") rfl)
  have na_Rule_kept_ends : NoAttr K (He.ga K "Rule") "kept_ends" := He.noat_ok (c.fact 19 (f := .noat "Rule" "kept_ends") rfl)
  have c_paired : Cal P w K mg base CX0 "paired" 2 ["one", "other", "is_both"] (spV anyL 3 (o_paired (He.ga K "Rule"))) := ⟨_, _, He.glo_ok X G (c.fact 20 (f := .glo "paired") rfl), F7.kp, (F7.bindsN fun _ _ _ _ _ _ us hl => match us, hl with | [_, _, _], _ => rfl), ok_fn F7 sc_paired rfl (fun lk _ cdv A outer s H E hr => (b_paired hr m_len m_sorted m_set c_deeds_of cls_Rule na_Rule_kept_rooms c_room_behind m_range na_Rule_kept_ends m_all m_any)) (fun xs PP RR hn h => sp_paired P w (He.ga K "Rule") xs PP RR hn h)⟩
  have c_from_behind : Cal P w K mg base CX0 "from_behind" 2 ["rule"] (spV anyL 1 (o_from_behind (He.ga K "Rule"))) := ⟨_, _, He.glo_ok X G (c.fact 21 (f := .glo "from_behind") rfl), F8.kp, (F8.bindsN fun _ _ _ _ _ _ us hl => match us, hl with | [_], _ => rfl), ok_fn F8 sc_from_behind rfl (fun lk _ cdv A outer s H E hr => (b_from_behind hr cls_Rule na_Rule_kept_ends m_len m_sorted m_set na_Rule_kept_rooms m_range c_room_behind m_tuple)) (fun xs PP RR hn h => sp_from_behind P w (He.ga K "Rule") xs PP RR hn h)⟩
  have c_Rule : CalC P w K mg base CX0 "Rule" (He.ga K "Rule") 3 ["self", "rooms", "ends"] (spIO anyL 3 (o_init (He.ga K "Rule"))) := ⟨_, _, He.mkr_ok (c.fact 22 (f := .mkr "Rule") rfl), He.glo_ok X G (c.fact 23 (f := .glo "Rule") rfl), (F9.bindsN fun _ _ _ _ _ _ us hl => match us, hl with | [_, _, _], _ => rfl), ok_io F9 sc_init rfl (fun lk _ cdv A outer s H E hr => (b_init hr c_check_rooms c_least_rooms cls_Rule na_Rule_kept_rooms na_Rule_kept_ends)) (fun xs PP RR hn h => sp_init (He.ga K "Rule") xs PP RR hn h)⟩
  have m_isinstance : mg "isinstance" = none := He.free_ok X G (c.fact 24 (f := .free "isinstance") rfl)
  have ins_Rule : C8.InsC K (He.ga K "Rule") := insB_ok cls_Rule (exs_at c2 0)
  have mg_Rule : mg "Rule" = some (.ref (He.ga K "Rule")) := He.glo_ok X G (c.fact 23 (f := .glo "Rule") rfl)
  have c_Rule___eq__ : CalM P w K mg base CX0 (He.ga K "Rule") "__eq__" 1 ["self", "other"] (spV anyL 2 (o_eq (He.ga K "Rule"))) := ⟨_, _, cls_Rule, He.meth_ok (c.fact 25 (f := .meth "Rule" "__eq__") rfl), (F11.bindsN fun _ _ _ _ _ _ us hl => match us, hl with | [_, _], _ => rfl), ok_fn F11 sc_eq rfl (fun lk _ cdv A outer s H E hr => (b_eq hr m_isinstance ins_Rule mg_Rule cls_Rule na_Rule_kept_rooms na_Rule_kept_ends)) (fun xs PP RR hn h => sp_eq (He.ga K "Rule") xs PP RR hn h)⟩
  have c_Rule___and__ : CalM P w K mg base CX0 (He.ga K "Rule") "__and__" 5 ["self", "other"] (spV anyL 2 (o_both (He.ga K "Rule") true)) := ⟨_, _, cls_Rule, He.meth_ok (c.fact 26 (f := .meth "Rule" "__and__") rfl), (F12.bindsN fun _ _ _ _ _ _ us hl => match us, hl with | [_, _], _ => rfl), ok_fn F12 sc_and rfl (fun lk _ cdv A outer s H E hr => (b_and hr c_paired c_Rule)) (fun xs PP RR hn h => sp_and (He.ga K "Rule") xs PP RR hn h)⟩
  have c_Rule___or__ : CalM P w K mg base CX0 (He.ga K "Rule") "__or__" 5 ["self", "other"] (spV anyL 2 (o_both (He.ga K "Rule") false)) := ⟨_, _, cls_Rule, He.meth_ok (c.fact 27 (f := .meth "Rule" "__or__") rfl), (F13.bindsN fun _ _ _ _ _ _ us hl => match us, hl with | [_, _], _ => rfl), ok_fn F13 sc_or rfl (fun lk _ cdv A outer s H E hr => (b_or hr c_paired c_Rule)) (fun xs PP RR hn h => sp_or (He.ga K "Rule") xs PP RR hn h)⟩
  have c_Rule_has : CalM P w K mg base CX0 (He.ga K "Rule") "has" 2 ["self", "day"] (spV anyL 2 (o_has (He.ga K "Rule"))) := ⟨_, _, cls_Rule, He.meth_ok (c.fact 28 (f := .meth "Rule" "has") rfl), (F15.bindsN fun _ _ _ _ _ _ us hl => match us, hl with | [_, _], _ => rfl), ok_fn F15 sc_has rfl (fun lk _ cdv A outer s H E hr => (b_has hr c_room_behind cls_Rule na_Rule_kept_rooms na_Rule_kept_ends)) (fun xs PP RR hn h => sp_has (He.ga K "Rule") xs PP RR hn h)⟩
  have sf_Rule : PySem.W.selfFirst K (He.ga K "Rule") = true := (exs_at c2 1)
  have c_Rule_within : CalM P w K mg base CX0 (He.ga K "Rule") "within" 6 ["self", "other"] (spV anyL 2 (o_within (He.ga K "Rule"))) := ⟨_, _, cls_Rule, He.meth_ok (c.fact 29 (f := .meth "Rule" "within") rfl), (F16.bindsN fun _ _ _ _ _ _ us hl => match us, hl with | [_, _], _ => rfl), ok_fn F16 sc_within rfl (fun lk _ cdv A outer s H E hr => (b_within hr c_Rule___eq__ c_Rule___and__ sf_Rule)) (fun xs PP RR hn h => sp_within (He.ga K "Rule") xs PP RR hn h)⟩
  have ck_Rule_within : CalMK P w K mg base CX0 (He.ga K "Rule") "within" 6 ["self", "other"] ["other"] (spV anyL 2 (o_within (He.ga K "Rule"))) := ⟨_, _, cls_Rule, He.meth_ok (c.fact 29 (f := .meth "Rule" "within") rfl), kbP F16 1 _ (fun _ _ _ _ _ _ us ws hl hk => match us, hl, ws, hk with | [_], _, [_], _ => rfl), ok_fn F16 sc_within rfl (fun lk _ cdv A outer s H E hr => (b_within hr c_Rule___eq__ c_Rule___and__ sf_Rule)) (fun xs PP RR hn h => sp_within (He.ga K "Rule") xs PP RR hn h)⟩
  have c__law_jar : Cal P w K mg base CX0 "_law_jar" 1 ["_law_script", "_law_place"] (spV anyL 2 (o_jar K)) := ⟨_, _, He.glo_ok X G (c.fact 30 (f := .glo "_law_jar") rfl), F17.kp, (F17.bindsN fun _ _ _ _ _ _ us hl => match us, hl with | [_, _], _ => rfl), ok_fn F17 sc__law_jar rfl (fun lk _ cdv A outer s H E hr => (b__law_jar hr m_len)) (fun xs PP RR hn h => sp_jar K xs PP RR hn h)⟩
  have c__law_grab : Cal P w K mg base CX0 "_law_grab" 1 ["_law_jar_here", "_law_many"] (spIO anyL 2 o_grab) := ⟨_, _, He.glo_ok X G (c.fact 31 (f := .glo "_law_grab") rfl), F18.kp, (F18.bindsN fun _ _ _ _ _ _ us hl => match us, hl with | [_, _], _ => rfl), ok_io F18 sc__law_grab rfl (fun lk _ cdv A outer s H E hr => (b__law_grab hr m_int)) (fun xs PP RR hn h => sp_grab xs PP RR hn h)⟩
  have c__law_callings : Cal P w K mg base CX0 "_law_callings" 2 ["_law_jar_here", "_law_many"] (spIO anyL 2 o_callings) := ⟨_, _, He.glo_ok X G (c.fact 32 (f := .glo "_law_callings") rfl), F19.kp, (F19.bindsN fun _ _ _ _ _ _ us hl => match us, hl with | [_, _], _ => rfl), ok_io F19 sc__law_callings rfl (fun lk _ cdv A outer s H E hr => (b__law_callings hr c__law_grab m_range)) (fun xs PP RR hn h => sp_callings xs PP RR hn h)⟩
  have c__law_web : Cal P w K mg base CX0 "_law_web" 2 ["_law_jar_here", "_law_most", "_law_callings_here"] (spIO anyL 3 o_web) := ⟨_, _, He.glo_ok X G (c.fact 33 (f := .glo "_law_web") rfl), F20.kp, (F20.bindsN fun _ _ _ _ _ _ us hl => match us, hl with | [_, _, _], _ => rfl), ok_io F20 sc__law_web rfl (fun lk _ cdv A outer s H E hr => (b__law_web hr c__law_grab m_range m_len)) (fun xs PP RR hn h => sp_web xs PP RR hn h)⟩
  have m_dict : mg "dict" = none := He.free_ok X G (c.fact 34 (f := .free "dict") rfl)
  have m_list : mg "list" = none := He.free_ok X G (c.fact 35 (f := .free "list") rfl)
  have c__law_made_rule : Cal P w K mg base CX0 "_law_made_rule" 5 ["_law_web_here"] (spV onlyL 1 (o_made (He.ga K "Rule"))) := ⟨_, _, He.glo_ok X G (c.fact 36 (f := .glo "_law_made_rule") rfl), F21.kp, (F21.bindsN fun _ _ _ _ _ _ us hl => match us, hl with | [_], _ => rfl), ok_fn F21 sc__law_made_rule rfl (fun lk hL cdv A outer s H E hr => (by subst hL; exact b__law_made_rule hr c_Rule m_dict m_list)) (fun xs PP RR hn h => sp_made (He.ga K "Rule") xs PP RR hn h)⟩
  have c__law_bent_web : Cal P w K mg base CX0 "_law_bent_web" 2 ["_law_jar_here", "_law_web_here", "_law_callings_here"] (spIO onlyL 3 o_bent_web) := ⟨_, _, He.glo_ok X G (c.fact 37 (f := .glo "_law_bent_web") rfl), F22.kp, (F22.bindsN fun _ _ _ _ _ _ us hl => match us, hl with | [_, _, _], _ => rfl), ok_io F22 sc__law_bent_web rfl (fun lk hL cdv A outer s H E hr => (by subst hL; exact b__law_bent_web hr m_dict m_list c__law_grab m_len m_sorted)) (fun xs PP RR hn h => sp_bent_web xs PP RR hn h)⟩
  have m_enumerate : mg "enumerate" = none := He.free_ok X G (c.fact 38 (f := .free "enumerate") rfl)
  have c__law_blown_web : Cal P w K mg base CX0 "_law_blown_web" 2 ["_law_jar_here", "_law_web_here"] (spIO onlyL 2 o_blown_web) := ⟨_, _, He.glo_ok X G (c.fact 39 (f := .glo "_law_blown_web") rfl), F23.kp, (F23.bindsN fun _ _ _ _ _ _ us hl => match us, hl with | [_, _], _ => rfl), ok_io F23 sc__law_blown_web rfl (fun lk hL cdv A outer s H E hr => (by subst hL; exact b__law_blown_web hr m_len m_range m_enumerate c__law_grab m_dict)) (fun xs PP RR hn h => sp_blown_web xs PP RR hn h)⟩
  have c__law_days_to : Cal P w K mg base CX0 "_law_days_to" 1 ["_law_web_here", "_law_most"] (spV anyL 2 o_days_to) := ⟨_, _, He.glo_ok X G (c.fact 40 (f := .glo "_law_days_to") rfl), F24.kp, (F24.bindsN fun _ _ _ _ _ _ us hl => match us, hl with | [_, _], _ => rfl), ok_fn F24 sc__law_days_to rfl (fun lk _ cdv A outer s H E hr => (b__law_days_to hr m_range m_sorted)) (fun xs PP RR hn h => sp_days_to xs PP RR hn h)⟩
  have c__law_inside : Cal P w K mg base CX0 "_law_inside" 1 ["_law_left", "_law_right"] (spV anyL 2 o_inside) := ⟨_, _, He.glo_ok X G (c.fact 41 (f := .glo "_law_inside") rfl), F25.kp, (F25.bindsN fun _ _ _ _ _ _ us hl => match us, hl with | [_, _], _ => rfl), ok_fn F25 sc__law_inside rfl (fun lk _ cdv A outer s H E hr => (b__law_inside hr m_dict m_len m_enumerate m_range)) (fun xs PP RR hn h => sp_inside P w xs PP RR hn h)⟩
  have m_repr : mg "repr" = none := He.free_ok X G (c.fact 42 (f := .free "repr") rfl)
  have c__law_fits : CalG P w K mg base CX0 "_law_fits" 8 ["_law_jar_here"] (spV onlyL 1 o_fits) := ⟨_, _, He.glo_ok X G (c.fact 43 (f := .glo "_law_fits") rfl), F26.kp, (F26.bindsN fun _ _ _ _ _ _ us hl => match us, hl with | [_], _ => rfl), ok_fnG F26 sc__law_fits rfl (fun lk hL cdv A outer s H E hG hr => (by subst hL; exact b__law_fits hG hr c__law_callings c__law_grab c__law_web c__law_bent_web c__law_made_rule c__law_blown_web m_range c__law_inside c_Rule_within ck_Rule_within m_repr c__law_days_to c_Rule_has c_Rule___and__ sf_Rule c_Rule___or__ c_Rule___eq__)) (fun xs PP RR hn h => sp_fits (He.ga K "Rule") xs PP RR hn h)⟩
  have m_min : mg "min" = none := He.free_ok X G (c.fact 44 (f := .free "min") rfl)
  exact ok_fnG F27 sc_law rfl (fun lk hL cdv A outer s H E hG hr => (by subst hL; exact b_law hG hr m_range m_min m_len m_int c__law_fits c__law_jar)) (fun xs PP RR hn h => sp_law K xs PP RR hn h)
end Pg
open PySem PySem.W PySem.Calls PyProof.Rows
theorem PySem.Challenge.cw_oncealike_k10_rules_within_rules_holds : PySem.Challenge.rw_oncealike_k10_rules_within_rules.Holds := by
  w_on; o_law
  refine HandSHeadRun.head_any (r := OpenLaw.row PySem.Challenge.rw_oncealike_k10_rules_within_rules) (q := view (OpenLaw.row PySem.Challenge.rw_oncealike_k10_rules_within_rules).prog [34]) (H := Pg.hk) (ob := Pg.ob) (M := 6000) (loose := Pg.loose) (d := HandSHeadRun.topDef (OpenLaw.row PySem.Challenge.rw_oncealike_k10_rules_within_rules).prog 34) (kwd := []) Pg.ob_eq
    (by kernel_rfl) (fun s => by kernel_rfl) Pg.run (by kernel_rfl) (by kernel_rfl) (by kernel_rfl) (by rfl) (by first | assumption | decide +kernel) (by decide +kernel) ⟨rfl, rfl, rfl, rfl, rfl, by decide +kernel⟩ ?hw ?hc
  case hw => w_witness2
  case hc =>
    refine VL.walk_G (l := PySem.Challenge.rw_oncealike_k10_rules_within_rules) (n := 63) (k := 9) (x := "_law_script") (CX := L2.CX0) rfl (by decide) (by kernel_rfl) ⟨rfl, by decide, by decide⟩ ?F (fun _ _ _ _ z => z)
    intro w mg fa h Y G hmg0
    obtain ⟨K, KX, c, c2⟩ := Y
    have hmg : mg ("law" : PySem.Str) = some (.ref fa) := by
      have e : (HandSHeadRun.topDef (OpenLaw.row PySem.Challenge.rw_oncealike_k10_rules_within_rules).prog 34).name = ("law" : PySem.Str) := by kernel_rfl
      rw [← e]
      exact hmg0
    obtain ⟨fd, hb, hF⟩ := Pg.facts (P := (PySem.Challenge.rw_oncealike_k10_rules_within_rules).prog) (w := w) KX G hmg c c2
    exact ⟨K, fd, VL.spV VL.onlyL 1 (Pg.o_law K), KX, hb, fun H a ns hl hz hO hS => VL.top_spV hS ⟨ns, rfl, hl, hz, rfl⟩, hF⟩
