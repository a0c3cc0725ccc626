import PyProof.Rows.All
import Wide.All
import OpenK.AllK
import Wide.FinOn
import HandS.ForMost
import HandS.ForExc
import KE.KDictKeyed
import HandS.IsInst
import HandS.TupAny
import HandS.WideBits
import HandS.Deep
import HandS.Style
import KE.DataEq
import HandS.Comp
import HandS.Text
import HandS.Iter
import HandS.DictComp
import KE.KDictOf
import KE.KDictCopyH
import KE.KEqNest
import HandS.TupMul
import HandS.EndBits
import PySem.Challenge.RW_lastproof_k63_judged_worlds
set_option Elab.async false
set_option linter.all false
set_option maxRecDepth 100000
set_option maxHeartbeats 1000000
/-! Values of the interpreter: frozen data D, owned trees O; how the abstract heap bears them. -/
namespace PL
open PySem PySem.Spec PyProof.Rows L2

inductive D : Type where
  | non
  | bl (b : Bool)
  | int (i : Int)
  | str (x : Str)
  | tup (ds : List D)
  | lst (ds : List D)
  | dct (ks ds : List D)
  | ins (c : Nat) (ds : List D)
inductive O : Type where
  | val (d : D)
  | lst (os : List O)
  | dct (ks ds : List D)
  | ins (c : Nat) (os : List O)
instance : Inhabited D := ⟨.non⟩
instance : Inhabited O := ⟨.val .non⟩
mutual
def frz : O → D
  | .val d => d
  | .lst os => .lst (frzs os)
  | .dct ks ds => .dct ks ds
  | .ins c os => .ins c (frzs os)
def frzs : List O → List D
  | [] => []
  | o :: os => frz o :: frzs os
end
theorem frzs_map (os : List O) : frzs os = os.map frz := by
  induction os with
  | nil => rfl
  | cons o os ih => simp only [frzs, List.map_cons, ih]
@[simp] theorem frzs_val (ds : List D) : frzs (ds.map O.val) = ds := by
  induction ds with
  | nil => rfl
  | cons d ds ih => simp only [List.map_cons, frzs, frz, ih]

/-- what a law's classes are: addresses, attributes in order -/
structure GC where
  P : Program
  w : World
  K : PySem.W.Frag
  ca : Nat → Addr
  fid : Nat → List Nat
  fn : Nat → Str
/-- the attributes' names, in order -/
def GC.lay (G : GC) (c : Nat) : List Str := (G.fid c).map G.fn

/-- a key of a dict as data -/
def keyD : Key → D
  | .inl i => .int i
  | .inr x => .str x
mutual
def nkD : NestedKey → D
  | .none => .non
  | .num i => .int i
  | .text x => .str x
  | .tup ks => .tup (nkDs ks)
def nkDs : List NestedKey → List D
  | [] => []
  | k :: ks => nkD k :: nkDs ks
end
/-- the dict at a has the keys nks, whose tuples stand at as, with the values vs -/
def nkO (w : World) (a : Addr) (nks : List NestedKey) (as : List Addr) (vs : List V) : HO := .ext fun h =>
  (a == sysModules) = false ∧ vs.length ≤ sizeLine ∧ nks.length = as.length ∧ as.length = vs.length ∧ nks.Nodup ∧ (∀ k ∈ nks, k.depth ≤ 8) ∧
    ∃ (o : Obj) (es : Array DictEntry) (ep : Nat) (us : List Value), Vals vs us ∧ h.get? a = some o ∧ o.ExactDict ∧ o.data = .dict es ep ∧
      es.toList = (nks.zip (as.zip us)).map fun x => ⟨x.1.hash w, .ref x.2.1, x.2.2⟩
/-- u is a dict's object: its keys as data, as values, its values -/
def isTupK : NestedKey → Bool
  | .tup _ => true
  | _ => false
def DctU (w : World) (a : Addr) (u : HO) (ks : List D) (kvs vs : List V) : Prop :=
  (∃ kk : List Key, u = .dK (kk.zip vs) ∧ ks = kk.map keyD ∧ kvs = kk.map kV ∧ kk.length = vs.length ∧ kk.Nodup) ∨
  (∃ (nks : List NestedKey) (as : List Addr), u = nkO w a nks as vs ∧ ks = nkDs nks ∧ kvs = as.map V.ref ∧ nks.length = as.length ∧ as.length = vs.length ∧ nks ≠ [] ∧ nks.all isTupK = true)
theorem DctU.len {w : World} {a : Addr} {u : HO} {ks : List D} {kvs vs : List V} (h : DctU w a u ks kvs vs) : kvs.length = vs.length := by
  rcases h with ⟨kk, rfl, rfl, rfl, e, _⟩ | ⟨nks, as, rfl, rfl, rfl, e1, e2, _⟩
  · rw [List.length_map]; exact e
  · rw [List.length_map]; exact e2
theorem DctU.ne {w : World} {a : Addr} {u : HO} {ks : List D} {kvs vs : List V} (h : DctU w a u ks kvs vs) : (∀ xs, u ≠ .lst xs) ∧ (∀ xs, u ≠ .tup xs) ∧ (∀ C dx fs, u ≠ .ins C dx fs) ∧ (∀ x, u ≠ .own x) := by
  rcases h with ⟨kk, rfl, _⟩ | ⟨nks, as, rfl, _⟩
  · exact ⟨fun _ e => (nomatch e), fun _ e => (nomatch e), fun _ _ _ e => (nomatch e), fun _ e => (nomatch e)⟩
  · exact ⟨fun _ e => (by unfold nkO at e; cases e), fun _ e => (by unfold nkO at e; cases e), fun _ _ _ e => (by unfold nkO at e; cases e), fun _ e => (by unfold nkO at e; cases e)⟩

mutual
def RepV (G : GC) (Z : Hp) : D → V → Prop
  | .non, v => v = .non
  | .bl b, v => v = .bl b
  | .int i, v => v = .int i
  | .str x, v => v = .str x
  | .tup ds, v => ∃ a vs, v = .ref a ∧ SqT G.K Z a vs ∧ RepVs G Z ds vs
  | .lst ds, v => ∃ a vs, v = .ref a ∧ SqL G.K Z a vs ∧ RepVs G Z ds vs
  | .dct ks ds, v => ∃ a u kvs vs, v = .ref a ∧ Rd Z a u ∧ DctU G.w a u ks kvs vs ∧ RepVs G Z ks kvs ∧ RepVs G Z ds vs
  | .ins c ds, v => ∃ a dx vs, v = .ref a ∧ Z a = some (.ins (G.ca c) dx ((G.lay c).zip vs)) ∧ Z dx = some (.own a) ∧ vs.length ≤ (G.lay c).length ∧ RepVs G Z ds vs
def RepVs (G : GC) (Z : Hp) : List D → List V → Prop
  | [], vs => vs = []
  | d :: ds, vs => ∃ v w, vs = v :: w ∧ RepV G Z d v ∧ RepVs G Z ds w
end
mutual
def RepO (G : GC) (H Z : Hp) : O → V → List Addr → Prop
  | .val d, v, F => RepV G Z d v ∧ F = []
  | .lst os, v, F => ∃ a vs E, v = .ref a ∧ H a = some (.lst vs) ∧ RepOs G H Z os vs E ∧ F = a :: E
  | .dct ks ds, v, F => ∃ a u kvs vs, v = .ref a ∧ H a = some u ∧ DctU G.w a u ks kvs vs ∧ RepVs G Z ks kvs ∧ RepVs G Z ds vs ∧ F = [a]
  | .ins c os, v, F => ∃ a dx vs E, v = .ref a ∧ H a = some (.ins (G.ca c) dx ((G.lay c).zip vs)) ∧ H dx = some (.own a) ∧ vs.length ≤ (G.lay c).length ∧ RepOs G H Z os vs E ∧ F = a :: dx :: E
def RepOs (G : GC) (H Z : Hp) : List O → List V → List Addr → Prop
  | [], vs, F => vs = [] ∧ F = []
  | o :: os, vs, F => ∃ v w F1 F2, vs = v :: w ∧ RepO G H Z o v F1 ∧ RepOs G H Z os w F2 ∧ F = F1 ++ F2
end
def Sub (Z H : Hp) : Prop := ∀ a o, Z a = some o → H a = some o
theorem Sub.refl (Z : Hp) : Sub Z Z := fun _ _ h => h
theorem Sub.trans {A B C : Hp} (h : Sub A B) (g : Sub B C) : Sub A C := fun a o e => g a o (h a o e)
theorem Sub.none {A B : Hp} (h : Sub A B) {a : Addr} (e : B a = none) : A a = none := by
  cases q : A a with
  | none => rfl
  | some o => rw [h a o q] at e; cases e
theorem Sub.sqL {K : PySem.W.Frag} {A B : Hp} {a : Addr} {xs : List V} (s : Sub A B) (h : SqL K A a xs) : SqL K B a xs := Same.seq s h
theorem Sub.sqT {K : PySem.W.Frag} {A B : Hp} {a : Addr} {xs : List V} (s : Sub A B) (h : SqT K A a xs) : SqT K B a xs := by
  rcases h with (h | ⟨o, h⟩) | h
  · exact .inl (.inl (s _ _ h))
  · exact .inl (.inr ⟨o, s _ _ h⟩)
  · exact .inr h
theorem Sub.rd {A B : Hp} {a : Addr} {u : HO} (s : Sub A B) (h : Rd A a u) : Rd B a u := by
  rcases h with h | ⟨o, h⟩
  · exact .inl (s _ _ h)
  · exact .inr ⟨o, s _ _ h⟩
mutual
theorem RepV.sub {G : GC} {A B : Hp} (s : Sub A B) : ∀ {d : D} {v : V}, RepV G A d v → RepV G B d v
  | .non, _, h => by unfold RepV at h ⊢; exact h
  | .bl _, _, h => by unfold RepV at h ⊢; exact h
  | .int _, _, h => by unfold RepV at h ⊢; exact h
  | .str _, _, h => by unfold RepV at h ⊢; exact h
  | .tup ds, _, h => by
    unfold RepV at h ⊢
    obtain ⟨a, vs, e, q, r⟩ := h
    exact ⟨a, vs, e, s.sqT q, RepVs.sub s r⟩
  | .lst ds, _, h => by
    unfold RepV at h ⊢
    obtain ⟨a, vs, e, q, r⟩ := h
    exact ⟨a, vs, e, s.sqL q, RepVs.sub s r⟩
  | .dct ks ds, _, h => by
    unfold RepV at h ⊢
    obtain ⟨a, u, kvs, vs, e, q, q2, r, r2⟩ := h
    exact ⟨a, u, kvs, vs, e, s.rd q, q2, RepVs.sub s r, RepVs.sub s r2⟩
  | .ins c ds, _, h => by
    unfold RepV at h ⊢
    obtain ⟨a, dx, vs, e, q, q2, l, r⟩ := h
    exact ⟨a, dx, vs, e, s _ _ q, s _ _ q2, l, RepVs.sub s r⟩
theorem RepVs.sub {G : GC} {A B : Hp} (s : Sub A B) : ∀ {ds : List D} {vs : List V}, RepVs G A ds vs → RepVs G B ds vs
  | [], _, h => by unfold RepVs at h ⊢; exact h
  | d :: ds, _, h => by
    unfold RepVs at h ⊢
    obtain ⟨v, w, e, r, rs⟩ := h
    exact ⟨v, w, e, RepV.sub s r, RepVs.sub s rs⟩
end
mutual
/-- an owned tree stays where its own objects stay -/
theorem RepO.mono {G : GC} {H Z H' Z' : Hp} (s : Sub Z Z') : ∀ {o : O} {v : V} {F : List Addr}, (∀ a ∈ F, ∀ u, H a = some u → H' a = some u) → RepO G H Z o v F → RepO G H' Z' o v F
  | .val d, _, _, _, h => by
    unfold RepO at h ⊢
    exact ⟨h.1.sub s, h.2⟩
  | .lst os, _, _, k, h => by
    unfold RepO at h ⊢
    obtain ⟨a, vs, E, e, q, r, f⟩ := h
    subst f
    exact ⟨a, vs, E, e, k a (by simp) _ q, RepOs.mono s (fun b hb => k b (by simp [hb])) r, rfl⟩
  | .dct ks ds, _, _, k, h => by
    unfold RepO at h ⊢
    obtain ⟨a, u, kvs, vs, e, q, q2, r, r2, f⟩ := h
    subst f
    exact ⟨a, u, kvs, vs, e, k a (by simp) _ q, q2, RepVs.sub s r, RepVs.sub s r2, rfl⟩
  | .ins c os, _, _, k, h => by
    unfold RepO at h ⊢
    obtain ⟨a, dx, vs, E, e, q, q2, l, r, f⟩ := h
    subst f
    exact ⟨a, dx, vs, E, e, k a (by simp) _ q, k dx (by simp) _ q2, l, RepOs.mono s (fun b hb => k b (by simp [hb])) r, rfl⟩
theorem RepOs.mono {G : GC} {H Z H' Z' : Hp} (s : Sub Z Z') : ∀ {os : List O} {vs : List V} {F : List Addr}, (∀ a ∈ F, ∀ u, H a = some u → H' a = some u) → RepOs G H Z os vs F → RepOs G H' Z' os vs F
  | [], _, _, _, h => by unfold RepOs at h ⊢; exact h
  | o :: os, _, _, k, h => by
    unfold RepOs at h ⊢
    obtain ⟨v, w, F1, F2, e, r, rs, f⟩ := h
    subst f
    exact ⟨v, w, F1, F2, e, RepO.mono s (fun b hb => k b (List.mem_append_left _ hb)) r, RepOs.mono s (fun b hb => k b (List.mem_append_right _ hb)) rs, rfl⟩
end
mutual
/-- every address of a footprint is tracked -/
theorem RepO.there {G : GC} {H Z : Hp} : ∀ {o : O} {v : V} {F : List Addr}, RepO G H Z o v F → ∀ a ∈ F, ∃ u, H a = some u
  | .val d, _, _, h, a, m => by
    unfold RepO at h
    rw [h.2] at m; cases m
  | .lst os, _, _, h, b, m => by
    unfold RepO at h
    obtain ⟨a, vs, E, e, q, r, f⟩ := h
    rw [f] at m
    rcases List.mem_cons.mp m with rfl | m
    · exact ⟨_, q⟩
    · exact RepOs.there r b m
  | .dct ks ds, _, _, h, b, m => by
    unfold RepO at h
    obtain ⟨a, u, kvs, vs, e, q, q2, r, r2, f⟩ := h
    rw [f] at m
    rcases List.mem_cons.mp m with rfl | m
    · exact ⟨_, q⟩
    · cases m
  | .ins c os, _, _, h, b, m => by
    unfold RepO at h
    obtain ⟨a, dx, vs, E, e, q, q2, l, r, f⟩ := h
    rw [f] at m
    rcases List.mem_cons.mp m with rfl | m
    · exact ⟨_, q⟩
    rcases List.mem_cons.mp m with rfl | m
    · exact ⟨_, q2⟩
    · exact RepOs.there r b m
theorem RepOs.there {G : GC} {H Z : Hp} : ∀ {os : List O} {vs : List V} {F : List Addr}, RepOs G H Z os vs F → ∀ a ∈ F, ∃ u, H a = some u
  | [], _, _, h, a, m => by
    unfold RepOs at h
    rw [h.2] at m; cases m
  | o :: os, _, _, h, b, m => by
    unfold RepOs at h
    obtain ⟨v, w, F1, F2, e, r, rs, f⟩ := h
    rw [f] at m
    rcases List.mem_append.mp m with m | m
    · exact RepO.there r b m
    · exact RepOs.there rs b m
end
/-- Z with what stands at F -/
def add (Z H : Hp) (F : List Addr) : Hp := fun a => if a ∈ F then H a else Z a
theorem add_in {Z H : Hp} {F : List Addr} {a : Addr} (h : a ∈ F) : add Z H F a = H a := if_pos h
theorem add_out {Z H : Hp} {F : List Addr} {a : Addr} (h : a ∉ F) : add Z H F a = Z a := if_neg h
theorem add_sub {Z H : Hp} {F : List Addr} (s : Sub Z H) : Sub (add Z H F) H := fun a o e => by
  by_cases m : a ∈ F
  · rwa [add_in m] at e
  · rw [add_out m] at e
    exact s a o e
theorem sub_add {Z H : Hp} {F : List Addr} (s : Sub Z H) : Sub Z (add Z H F) := fun a o e => by
  by_cases m : a ∈ F
  · rw [add_in m]; exact s a o e
  · rw [add_out m]; exact e
mutual
/-- frozen: its own objects go to Z -/
theorem RepO.frz {G : GC} {H Z Z' : Hp} (s : Sub Z Z') : ∀ {o : O} {v : V} {F : List Addr}, (∀ a ∈ F, ∀ u, H a = some u → Z' a = some u) → RepO G H Z o v F → RepV G Z' (frz o) v
  | .val d, _, _, _, h => by
    unfold RepO at h
    unfold PL.frz
    exact h.1.sub s
  | .lst os, _, _, k, h => by
    unfold RepO at h
    obtain ⟨a, vs, E, e, q, r, f⟩ := h
    subst f
    unfold PL.frz RepV
    exact ⟨a, vs, e, SqL.of (k a (by simp) _ q), RepOs.frz s (fun b hb => k b (by simp [hb])) r⟩
  | .dct ks ds, _, _, k, h => by
    unfold RepO at h
    obtain ⟨a, u, kvs, vs, e, q, q2, r, r2, f⟩ := h
    subst f
    unfold PL.frz RepV
    exact ⟨a, u, kvs, vs, e, .inl (k a (by simp) _ q), q2, RepVs.sub s r, RepVs.sub s r2⟩
  | .ins c os, _, _, k, h => by
    unfold RepO at h
    obtain ⟨a, dx, vs, E, e, q, q2, l, r, f⟩ := h
    subst f
    unfold PL.frz RepV
    exact ⟨a, dx, vs, e, k a (by simp) _ q, k dx (by simp) _ q2, l, RepOs.frz s (fun b hb => k b (by simp [hb])) r⟩
theorem RepOs.frz {G : GC} {H Z Z' : Hp} (s : Sub Z Z') : ∀ {os : List O} {vs : List V} {F : List Addr}, (∀ a ∈ F, ∀ u, H a = some u → Z' a = some u) → RepOs G H Z os vs F → RepVs G Z' (frzs os) vs
  | [], _, _, _, h => by
    unfold RepOs at h
    unfold frzs RepVs
    exact h.1
  | o :: os, _, _, k, h => by
    unfold RepOs at h
    obtain ⟨v, w, F1, F2, e, r, rs, f⟩ := h
    subst f
    unfold frzs RepVs
    exact ⟨v, w, e, RepO.frz s (fun b hb => k b (List.mem_append_left _ hb)) r, RepOs.frz s (fun b hb => k b (List.mem_append_right _ hb)) rs⟩
end
theorem RepVs.length {G : GC} {Z : Hp} : ∀ {ds : List D} {vs : List V}, RepVs G Z ds vs → ds.length = vs.length
  | [], _, h => by unfold RepVs at h; rw [h]; rfl
  | d :: ds, _, h => by
    unfold RepVs at h
    obtain ⟨v, w, e, r, rs⟩ := h
    rw [e, List.length_cons, List.length_cons, rs.length]
theorem RepOs.length {G : GC} {H Z : Hp} : ∀ {os : List O} {vs : List V} {F : List Addr}, RepOs G H Z os vs F → os.length = vs.length
  | [], _, _, h => by unfold RepOs at h; rw [h.1]; rfl
  | o :: os, _, _, h => by
    unfold RepOs at h
    obtain ⟨v, w, F1, F2, e, r, rs, f⟩ := h
    rw [e, List.length_cons, List.length_cons, rs.length]
theorem RepVs.get {G : GC} {Z : Hp} : ∀ {ds : List D} {vs : List V} {i : Nat} {d : D}, RepVs G Z ds vs → ds[i]? = some d → ∃ v, vs[i]? = some v ∧ RepV G Z d v
  | [], _, i, d, _, e => by simp at e
  | d :: ds, _, i, x, h, e => by
    unfold RepVs at h
    obtain ⟨v, w, rfl, r, rs⟩ := h
    cases i with
    | zero =>
      simp only [List.getElem?_cons_zero, Option.some.injEq] at e
      subst e
      exact ⟨v, rfl, r⟩
    | succ i =>
      rw [List.getElem?_cons_succ] at e
      obtain ⟨u, e1, e2⟩ := rs.get e
      exact ⟨u, by rw [List.getElem?_cons_succ]; exact e1, e2⟩
theorem RepVs.getR {G : GC} {Z : Hp} : ∀ {ds : List D} {vs : List V} {i : Nat} {v : V}, RepVs G Z ds vs → vs[i]? = some v → ∃ d, ds[i]? = some d ∧ RepV G Z d v
  | [], _, i, v, h, e => by unfold RepVs at h; rw [h] at e; simp at e
  | d :: ds, _, i, x, h, e => by
    unfold RepVs at h
    obtain ⟨v, w, rfl, r, rs⟩ := h
    cases i with
    | zero =>
      simp only [List.getElem?_cons_zero, Option.some.injEq] at e
      subst e
      exact ⟨d, rfl, r⟩
    | succ i =>
      rw [List.getElem?_cons_succ] at e
      obtain ⟨u, e1, e2⟩ := rs.getR e
      exact ⟨u, by rw [List.getElem?_cons_succ]; exact e1, e2⟩
theorem RepVs.nil {G : GC} {Z : Hp} : RepVs G Z [] [] := by unfold RepVs; rfl
theorem RepVs.cons {G : GC} {Z : Hp} {d : D} {ds : List D} {v : V} {vs : List V} (h : RepV G Z d v) (t : RepVs G Z ds vs) : RepVs G Z (d :: ds) (v :: vs) := by
  unfold RepVs; exact ⟨v, vs, rfl, h, t⟩
theorem RepVs.append {G : GC} {Z : Hp} : ∀ {ds es : List D} {vs ws : List V}, RepVs G Z ds vs → RepVs G Z es ws → RepVs G Z (ds ++ es) (vs ++ ws)
  | [], _, _, _, h, t => by unfold RepVs at h; subst h; exact t
  | d :: ds, _, _, _, h, t => by
    unfold RepVs at h
    obtain ⟨v, w, rfl, r, rs⟩ := h
    exact .cons r (rs.append t)
theorem RepVs.take {G : GC} {Z : Hp} : ∀ {ds : List D} {vs : List V} (n : Nat), RepVs G Z ds vs → RepVs G Z (ds.take n) (vs.take n)
  | [], _, n, h => by unfold RepVs at h; subst h; simp only [List.take_nil]; exact .nil
  | d :: ds, _, n, h => by
    unfold RepVs at h
    obtain ⟨v, w, rfl, r, rs⟩ := h
    cases n with
    | zero => exact .nil
    | succ n => exact .cons r (rs.take n)
theorem RepVs.drop {G : GC} {Z : Hp} : ∀ {ds : List D} {vs : List V} (n : Nat), RepVs G Z ds vs → RepVs G Z (ds.drop n) (vs.drop n)
  | [], _, n, h => by unfold RepVs at h; subst h; simp only [List.drop_nil]; exact .nil
  | d :: ds, _, n, h => by
    unfold RepVs at h
    obtain ⟨v, w, rfl, r, rs⟩ := h
    cases n with
    | zero => exact .cons r rs
    | succ n => exact rs.drop n
theorem RepVs.set {G : GC} {Z : Hp} : ∀ {ds : List D} {vs : List V} (i : Nat) {d : D} {v : V}, RepV G Z d v → RepVs G Z ds vs → RepVs G Z (ds.set i d) (vs.set i v)
  | [], _, n, _, _, _, h => by unfold RepVs at h; subst h; exact .nil
  | d :: ds, _, n, _, _, q, h => by
    unfold RepVs at h
    obtain ⟨v, w, rfl, r, rs⟩ := h
    cases n with
    | zero => exact .cons q rs
    | succ n => exact .cons r (rs.set n q)
theorem RepOs.nil {G : GC} {H Z : Hp} : RepOs G H Z [] [] [] := by unfold RepOs; exact ⟨rfl, rfl⟩
theorem RepOs.cons {G : GC} {H Z : Hp} {o : O} {os : List O} {v : V} {vs : List V} {F E : List Addr} (h : RepO G H Z o v F) (t : RepOs G H Z os vs E) : RepOs G H Z (o :: os) (v :: vs) (F ++ E) := by
  unfold RepOs; exact ⟨v, vs, F, E, rfl, h, t, rfl⟩
theorem RepO.ofV {G : GC} {H Z : Hp} {d : D} {v : V} (h : RepV G Z d v) : RepO G H Z (.val d) v [] := by unfold RepO; exact ⟨h, rfl⟩
theorem RepOs.vals {G : GC} {H Z : Hp} : ∀ {ds : List D} {vs : List V}, RepVs G Z ds vs → RepOs G H Z (ds.map .val) vs []
  | [], _, h => by unfold RepVs at h; subst h; exact .nil
  | d :: ds, _, h => by
    unfold RepVs at h
    obtain ⟨v, w, rfl, r, rs⟩ := h
    exact RepOs.cons (F := []) (E := []) (RepO.ofV r) (RepOs.vals rs)
mutual
def D.beq : D → D → Bool
  | .non, .non => true
  | .bl a, .bl b => a == b
  | .int a, .int b => a == b
  | .str a, .str b => decide (a = b)
  | .tup a, .tup b => D.beqs a b
  | .lst a, .lst b => D.beqs a b
  | .dct a b, .dct c d => D.beqs a c && D.beqs b d
  | .ins a b, .ins c d => a == c && D.beqs b d
  | _, _ => false
def D.beqs : List D → List D → Bool
  | [], [] => true
  | a :: as, b :: bs => D.beq a b && D.beqs as bs
  | _, _ => false
end
mutual
theorem D.beq_self : ∀ a : D, D.beq a a = true
  | .non => rfl
  | .bl a => by simp [D.beq]
  | .int a => by simp [D.beq]
  | .str a => by simp [D.beq]
  | .tup a => by rw [D.beq]; exact D.beqs_self a
  | .lst a => by rw [D.beq]; exact D.beqs_self a
  | .dct a b => by rw [D.beq, D.beqs_self a, D.beqs_self b]; rfl
  | .ins a b => by rw [D.beq, D.beqs_self b]; simp
theorem D.beqs_self : ∀ a : List D, D.beqs a a = true
  | [] => rfl
  | a :: as => by rw [D.beqs, D.beq_self a, D.beqs_self as]; rfl
end
mutual
theorem D.eq_of : ∀ a b : D, D.beq a b = true → a = b := by
  intro a b h
  match a, b with
  | .non, .non => rfl
  | .bl a, .bl b => simp only [D.beq, beq_iff_eq] at h; rw [h]
  | .int a, .int b => simp only [D.beq, beq_iff_eq] at h; rw [h]
  | .str a, .str b => simp only [D.beq, decide_eq_true_eq] at h; rw [h]
  | .tup a, .tup b => rw [D.beq] at h; rw [D.eqs_of a b h]
  | .lst a, .lst b => rw [D.beq] at h; rw [D.eqs_of a b h]
  | .dct a b, .dct c d => rw [D.beq, Bool.and_eq_true] at h; rw [D.eqs_of a c h.1, D.eqs_of b d h.2]
  | .ins a b, .ins c d => rw [D.beq, Bool.and_eq_true, beq_iff_eq] at h; rw [h.1, D.eqs_of b d h.2]
  | .non, .bl _ | .non, .int _ | .non, .str _ | .non, .tup _ | .non, .lst _ | .non, .dct _ _ | .non, .ins _ _ => simp [D.beq] at h
  | .bl _, .non | .bl _, .int _ | .bl _, .str _ | .bl _, .tup _ | .bl _, .lst _ | .bl _, .dct _ _ | .bl _, .ins _ _ => simp [D.beq] at h
  | .int _, .non | .int _, .bl _ | .int _, .str _ | .int _, .tup _ | .int _, .lst _ | .int _, .dct _ _ | .int _, .ins _ _ => simp [D.beq] at h
  | .str _, .non | .str _, .bl _ | .str _, .int _ | .str _, .tup _ | .str _, .lst _ | .str _, .dct _ _ | .str _, .ins _ _ => simp [D.beq] at h
  | .tup _, .non | .tup _, .bl _ | .tup _, .int _ | .tup _, .str _ | .tup _, .lst _ | .tup _, .dct _ _ | .tup _, .ins _ _ => simp [D.beq] at h
  | .lst _, .non | .lst _, .bl _ | .lst _, .int _ | .lst _, .str _ | .lst _, .tup _ | .lst _, .dct _ _ | .lst _, .ins _ _ => simp [D.beq] at h
  | .dct _ _, .non | .dct _ _, .bl _ | .dct _ _, .int _ | .dct _ _, .str _ | .dct _ _, .tup _ | .dct _ _, .lst _ | .dct _ _, .ins _ _ => simp [D.beq] at h
  | .ins _ _, .non | .ins _ _, .bl _ | .ins _ _, .int _ | .ins _ _, .str _ | .ins _ _, .tup _ | .ins _ _, .lst _ | .ins _ _, .dct _ _ => simp [D.beq] at h
theorem D.eqs_of : ∀ a b : List D, D.beqs a b = true → a = b := by
  intro a b h
  match a, b with
  | [], [] => rfl
  | a :: as, b :: bs => rw [D.beqs, Bool.and_eq_true] at h; rw [D.eq_of a b h.1, D.eqs_of as bs h.2]
  | [], _ :: _ => simp [D.beqs] at h
  | _ :: _, [] => simp [D.beqs] at h
end
instance : DecidableEq D := fun a b => if h : D.beq a b = true then Decidable.isTrue (D.eq_of a b h) else Decidable.isFalse fun e => h (e ▸ D.beq_self a)
end PL
set_option Elab.async false
set_option linter.all false
set_option maxRecDepth 100000
set_option maxHeartbeats 1000000
namespace PL
open PySem PySem.Spec PyProof.Rows L2

abbrev Env := List (Option O)
/-- an exception: its class, its attributes -/
structure Exc where
  c : Nat
  fs : List D
inductive R (α : Type) : Type where
  | ok (a : α) (r : Env)
  | exc (x : Exc) (r : Env)
  | stuck
abbrev EM := Env → R O
abbrev TM := Env → R Bool

/-- the slots bear the environment -/
def RepEnv (G : GC) (H Z : Hp) : Env → L2.St → List Addr → Prop
  | [], _, F => F = []
  | none :: r, s, F => ∃ x s', s = x :: s' ∧ RepEnv G H Z r s' F
  | some o :: r, s, F => ∃ v s' F1 F2, s = some v :: s' ∧ RepO G H Z o v F1 ∧ RepEnv G H Z r s' F2 ∧ F = F1 ++ F2
theorem RepEnv.mono {G : GC} {H Z H' Z' : Hp} (s : Sub Z Z') : ∀ {r : Env} {t : L2.St} {F : List Addr}, (∀ a ∈ F, ∀ u, H a = some u → H' a = some u) → RepEnv G H Z r t F → RepEnv G H' Z' r t F
  | [], _, _, _, h => h
  | none :: r, _, _, k, h => by
    obtain ⟨x, s', e, h⟩ := h
    exact ⟨x, s', e, RepEnv.mono s k h⟩
  | some o :: r, _, _, k, h => by
    obtain ⟨v, s', F1, F2, e, h1, h2, f⟩ := h
    subst f
    exact ⟨v, s', F1, F2, e, h1.mono s fun b hb => k b (List.mem_append_left _ hb), h2.mono s fun b hb => k b (List.mem_append_right _ hb), rfl⟩
theorem RepEnv.there {G : GC} {H Z : Hp} : ∀ {r : Env} {t : L2.St} {F : List Addr}, RepEnv G H Z r t F → ∀ a ∈ F, ∃ u, H a = some u
  | [], _, _, h, a, m => by
    have h : _ = [] := h
    rw [h] at m; cases m
  | none :: r, _, _, h, a, m => by
    obtain ⟨x, s', e, h⟩ := h
    exact h.there a m
  | some o :: r, _, _, h, a, m => by
    obtain ⟨v, s', F1, F2, e, h1, h2, f⟩ := h
    rw [f] at m
    rcases List.mem_append.mp m with m | m
    · exact h1.there a m
    · exact h2.there a m
/-- a slot read: its tree, the rest -/
theorem RepEnv.get {G : GC} {H Z : Hp} : ∀ {r : Env} {t : L2.St} {F : List Addr} {i : Nat} {o : O}, RepEnv G H Z r t F → r[i]? = some (some o) →
    ∃ v F1 F2, t[i]? = some (some v) ∧ RepO G H Z o v F1 ∧ RepEnv G H Z (r.set i none) t F2 ∧ (F1 ++ F2).Perm F
  | [], _, _, i, o, _, e => by simp at e
  | none :: r, _, _, i, o, h, e => by
    obtain ⟨x, s', rfl, h⟩ := h
    cases i with
    | zero => simp at e
    | succ i =>
      rw [List.getElem?_cons_succ] at e
      obtain ⟨v, F1, F2, e1, h1, h2, p⟩ := h.get e
      exact ⟨v, F1, F2, by rw [List.getElem?_cons_succ]; exact e1, h1, ⟨x, s', rfl, h2⟩, p⟩
  | some q :: r, _, _, i, o, h, e => by
    obtain ⟨v, s', F1, F2, rfl, h1, h2, rfl⟩ := h
    cases i with
    | zero =>
      simp only [List.getElem?_cons_zero, Option.some.injEq] at e
      subst e
      exact ⟨v, F1, F2, rfl, h1, ⟨_, s', rfl, h2⟩, .refl _⟩
    | succ i =>
      rw [List.getElem?_cons_succ] at e
      obtain ⟨w, E1, E2, e1, g1, g2, p⟩ := h2.get e
      refine ⟨w, E1, F1 ++ E2, by rw [List.getElem?_cons_succ]; exact e1, g1, ⟨v, s', F1, E2, rfl, h1, g2, rfl⟩, ?_⟩
      exact (List.perm_append_comm_assoc E1 F1 E2).trans (p.append_left F1)
/-- a slot put (free before): the value there is told by the slots -/
theorem RepEnv.put {G : GC} {H Z : Hp} : ∀ {r : Env} {t : L2.St} {F F1 : List Addr} {i : Nat} {o : O} {v : V}, RepEnv G H Z r t F → r[i]? = some none → t[i]? = some (some v) → RepO G H Z o v F1 →
    ∃ F2, RepEnv G H Z (r.set i (some o)) t F2 ∧ F2.Perm (F1 ++ F)
  | [], _, _, _, i, o, v, _, e, _, _ => by simp at e
  | none :: r, _, _, _, i, o, v, h, e, et, g => by
    obtain ⟨x, s', rfl, h⟩ := h
    cases i with
    | zero =>
      simp only [List.getElem?_cons_zero, Option.some.injEq] at et
      subst et
      exact ⟨_, ⟨v, s', _, _, rfl, g, h, rfl⟩, .refl _⟩
    | succ i =>
      rw [List.getElem?_cons_succ] at e et
      obtain ⟨F2, h2, p⟩ := h.put e et g
      exact ⟨F2, ⟨x, s', rfl, h2⟩, p⟩
  | some q :: r, _, _, _, i, o, v, h, e, et, g => by
    obtain ⟨w, s', E1, E2, rfl, h1, h2, rfl⟩ := h
    cases i with
    | zero => simp at e
    | succ i =>
      rw [List.getElem?_cons_succ] at e et
      obtain ⟨F2, h3, p⟩ := h2.put e et g
      exact ⟨E1 ++ F2, ⟨w, s', E1, F2, rfl, h1, h3, rfl⟩, (p.append_left E1).trans (List.perm_append_comm_assoc E1 _ E2)⟩
/-- a slot forgotten -/
theorem RepEnv.drop {G : GC} {H Z : Hp} : ∀ {r : Env} {t : L2.St} {F : List Addr} (i : Nat), RepEnv G H Z r t F → ∃ F2, RepEnv G H Z (r.set i none) t F2 ∧ F2.Sublist F
  | [], _, F, i, h => ⟨F, h, .refl _⟩
  | none :: r, _, F, i, h => by
    obtain ⟨x, s', rfl, h⟩ := h
    cases i with
    | zero => exact ⟨F, ⟨x, s', rfl, h⟩, .refl _⟩
    | succ i =>
      obtain ⟨F2, h2, p⟩ := h.drop i
      exact ⟨F2, ⟨x, s', rfl, h2⟩, p⟩
  | some q :: r, _, F, i, h => by
    obtain ⟨v, s', F1, F2, rfl, h1, h2, rfl⟩ := h
    cases i with
    | zero => exact ⟨F2, ⟨_, s', rfl, h2⟩, List.sublist_append_right F1 F2⟩
    | succ i =>
      obtain ⟨E2, g2, p⟩ := h2.drop i
      exact ⟨F1 ++ E2, ⟨v, s', F1, E2, rfl, h1, g2, rfl⟩, p.append_left F1⟩
/-- a slot stored: what the name holds now -/
theorem RepEnv.store {G : GC} {H Z : Hp} : ∀ {r : Env} {t : L2.St} {F F1 : List Addr} {i : Nat} {o : O} {v : V}, RepEnv G H Z r t F → i < r.length → RepO G H Z o v F1 →
    ∃ F2, RepEnv G H Z (r.set i (some o)) (t.set i (some v)) F2 ∧ ∃ E, E.Sublist F ∧ F2.Perm (F1 ++ E)
  | [], _, _, _, i, o, v, _, l, _ => by simp at l
  | q :: r, t, F, F1, 0, o, v, h, l, g => by
    cases q with
    | none =>
      obtain ⟨x, s', rfl, h⟩ := h
      exact ⟨_, ⟨v, s', F1, F, rfl, g, h, rfl⟩, F, .refl _, .refl _⟩
    | some q =>
      obtain ⟨w, s', E1, E2, rfl, h1, h2, rfl⟩ := h
      exact ⟨_, ⟨v, s', F1, E2, rfl, g, h2, rfl⟩, E2, List.sublist_append_right _ _, .refl _⟩
  | q :: r, t, F, F1, i + 1, o, v, h, l, g => by
    have l' : i < r.length := by simpa using l
    cases q with
    | none =>
      obtain ⟨x, s', rfl, h⟩ := h
      obtain ⟨F2, h2, E, s, p⟩ := h.store l' g
      exact ⟨F2, ⟨x, _, rfl, h2⟩, E, s, p⟩
    | some q =>
      obtain ⟨w, s', E1, E2, rfl, h1, h2, rfl⟩ := h
      obtain ⟨F2, h3, E, s, p⟩ := h2.store l' g
      exact ⟨E1 ++ F2, ⟨w, _, E1, F2, rfl, h1, h3, rfl⟩, E1 ++ E, s.append_left E1, (p.append_left E1).trans (List.perm_append_comm_assoc E1 F1 E)⟩
theorem RepEnv.len {G : GC} {H Z : Hp} : ∀ {r : Env} {t : L2.St} {F : List Addr}, RepEnv G H Z r t F → r.length ≤ t.length
  | [], _, _, _ => Nat.zero_le _
  | none :: r, _, _, h => by
    obtain ⟨x, s', rfl, h⟩ := h
    have := h.len
    simp only [List.length_cons]; omega
  | some q :: r, _, _, h => by
    obtain ⟨v, s', F1, F2, rfl, h1, h2, rfl⟩ := h
    have := h2.len
    simp only [List.length_cons]; omega

/-- F is owned over Z, H: Z stands in H, the footprint is apart -/
structure Ow (Z H : Hp) (F : List Addr) : Prop where
  sub : Sub Z H
  nd : F.Nodup
  sep : ∀ a ∈ F, Z a = none
/-- from (Z, H, F) to (Z', H', F'): what is not F's stands, what is F's now was F's or is new -/
structure Fr (Z H : Hp) (F : List Addr) (Z' H' : Hp) (F' : List Addr) : Prop where
  zs : Sub Z Z'
  fr : ∀ a o, H a = some o → a ∉ F → H' a = some o
  ow : ∀ a ∈ F', a ∈ F ∨ H a = none
  zn : ∀ a o, Z' a = some o → Z a = some o ∨ a ∈ F ∨ H a = none
theorem Fr.refl {Z H : Hp} {F : List Addr} : Fr Z H F Z H F := ⟨.refl _, fun _ _ h _ => h, fun _ h => .inl h, fun _ _ h => .inl h⟩
theorem Fr.trans {Z H Z1 H1 Z2 H2 : Hp} {F F1 F2 : List Addr} (a : Fr Z H F Z1 H1 F1) (b : Fr Z1 H1 F1 Z2 H2 F2) : Fr Z H F Z2 H2 F2 := by
  have up : ∀ c, H1 c = none → c ∈ F ∨ H c = none := fun c n => by
    cases q : H c with
    | none => exact .inr rfl
    | some u =>
      by_cases m : c ∈ F
      · exact .inl m
      · rw [a.fr c u q m] at n; cases n
  refine ⟨a.zs.trans b.zs, fun c o e m => b.fr c o (a.fr c o e m) fun m1 => ?_, fun c m => ?_, fun c o e => ?_⟩
  · rcases a.ow c m1 with x | x
    · exact m x
    · rw [e] at x; cases x
  · rcases b.ow c m with x | x
    · exact a.ow c x
    · exact up c x
  · rcases b.zn c o e with x | x | x
    · exact a.zn c o x
    · exact .inr (a.ow c x)
    · exact .inr (up c x)
/-- less is owned -/
theorem Fr.less {Z H Z1 H1 : Hp} {F F1 F2 : List Addr} (a : Fr Z H F Z1 H1 F1) (s : ∀ b ∈ F2, b ∈ F1) : Fr Z H F Z1 H1 F2 := ⟨a.zs, a.fr, fun c m => a.ow c (s c m), a.zn⟩
theorem Ow.less {Z H : Hp} {F F2 : List Addr} (a : Ow Z H F) (s : F2.Sublist F) : Ow Z H F2 := ⟨a.sub, s.nodup a.nd, fun c m => a.sep c (s.subset m)⟩
theorem Ow.perm {Z H : Hp} {F F2 : List Addr} (a : Ow Z H F) (s : F2.Perm F) : Ow Z H F2 := ⟨a.sub, s.nodup_iff.mpr a.nd, fun c m => a.sep c (s.mem_iff.mp m)⟩
/-- a frame G beside F through a step of F -/
theorem Fr.beside {Z H Z1 H1 : Hp} {F F1 E : List Addr} (a : Fr Z H F Z1 H1 F1) (o : Ow Z H (E ++ F)) (o1 : Ow Z1 H1 F1) (t : ∀ b ∈ E, ∃ u, H b = some u) :
    Fr Z H (E ++ F) Z1 H1 (E ++ F1) ∧ Ow Z1 H1 (E ++ F1) ∧ (∀ b ∈ E, ∀ u, H b = some u → H1 b = some u) := by
  have nd := List.nodup_append.mp o.nd
  have k : ∀ b ∈ E, b ∉ F := fun b m m2 => nd.2.2 b m b m2 rfl
  refine ⟨⟨a.zs, fun c u e m => a.fr c u e fun x => m (List.mem_append_right _ x), fun c m => ?_, fun c u e => ?_⟩, ⟨o1.sub, ?_, fun c m => ?_⟩, fun b m u e => a.fr b u e (k b m)⟩
  · rcases List.mem_append.mp m with m | m
    · exact .inl (List.mem_append_left _ m)
    · rcases a.ow c m with x | x
      · exact .inl (List.mem_append_right _ x)
      · exact .inr x
  · rcases a.zn c u e with x | x | x
    · exact .inl x
    · exact .inr (.inl (List.mem_append_right _ x))
    · exact .inr (.inr x)
  · refine List.nodup_append.mpr ⟨nd.1, o1.nd, fun x mx y my e => ?_⟩
    subst e
    obtain ⟨u, hu⟩ := t x mx
    rcases a.ow x my with z | z
    · exact k x mx z
    · rw [hu] at z; cases z
  · rcases List.mem_append.mp m with m | m
    · cases q : Z1 c with
      | none => rfl
      | some u =>
        obtain ⟨v, hv⟩ := t c m
        rcases a.zn c u q with x | x | x
        · rw [o.sep c (List.mem_append_left _ m)] at x; cases x
        · exact absurd x (k c m)
        · rw [hv] at x; cases x
    · exact o1.sep c m
/-- a part of what is owned is frozen -/
theorem Ow.freeze {Z H : Hp} {F E : List Addr} (o : Ow Z H (E ++ F)) : Ow (add Z H E) H F ∧ Sub Z (add Z H E) ∧ (∀ a ∈ E, ∀ u, H a = some u → add Z H E a = some u) ∧ Fr Z H (E ++ F) (add Z H E) H F := by
  have nd := List.nodup_append.mp o.nd
  refine ⟨⟨add_sub o.sub, nd.2.1, fun a m => ?_⟩, sub_add o.sub, fun a m u e => by rw [add_in m]; exact e, ⟨sub_add o.sub, fun a u e _ => e, fun a m => .inl (List.mem_append_right _ m), fun a u e => ?_⟩⟩
  · rw [add_out fun x => nd.2.2 a x a m rfl]
    exact o.sep a (List.mem_append_right _ m)
  · by_cases m : a ∈ E
    · exact .inr (.inl (List.mem_append_left _ m))
    · rw [add_out m] at e
      exact .inl e
/-- a new object, owned -/
theorem Ow.new {Z H : Hp} {F : List Addr} {p : Addr} {u : HO} (o : Ow Z H F) (t : ∀ a ∈ F, ∃ u, H a = some u) (n : H p = none) : Ow Z (upd H p u) (p :: F) ∧ Fr Z H F Z (upd H p u) (p :: F) ∧ (∀ a x, H a = some x → upd H p u a = some x) := by
  have k : ∀ a x, H a = some x → upd H p u a = some x := fun a x e => by rw [upd_ne (ne_of_none e n)]; exact e
  refine ⟨⟨fun a x e => k a x (o.sub a x e), List.nodup_cons.mpr ⟨fun m => ?_, o.nd⟩, fun a m => ?_⟩, ⟨.refl _, fun a x e _ => k a x e, fun a m => ?_, fun _ _ e => .inl e⟩, k⟩
  · obtain ⟨x, e⟩ := t p m
    rw [n] at e; cases e
  · rcases List.mem_cons.mp m with rfl | m
    · exact o.sub.none n
    · exact o.sep a m
  · rcases List.mem_cons.mp m with rfl | m
    · exact .inr n
    · exact .inl m
/-- a new object, frozen at once (a tuple) -/
theorem Ow.newZ {Z H : Hp} {F : List Addr} {p : Addr} {u : HO} (o : Ow Z H F) (t : ∀ a ∈ F, ∃ u, H a = some u) (n : H p = none) : Ow (upd Z p u) (upd H p u) F ∧ Fr Z H F (upd Z p u) (upd H p u) F ∧ (∀ a x, H a = some x → upd H p u a = some x) ∧ Sub Z (upd Z p u) := by
  have k : ∀ a x, H a = some x → upd H p u a = some x := fun a x e => by rw [upd_ne (ne_of_none e n)]; exact e
  have kz : Sub Z (upd Z p u) := fun a x e => by rw [upd_ne (ne_of_none e (o.sub.none n))]; exact e
  refine ⟨⟨fun a x e => ?_, o.nd, fun a m => ?_⟩, ⟨kz, fun a x e _ => k a x e, fun a m => .inl m, fun a x e => ?_⟩, k, kz⟩
  · by_cases h : a = p
    · subst h; rw [upd_same] at e ⊢; exact e
    · rw [upd_ne h] at e ⊢; exact o.sub a x e
  · obtain ⟨x, e⟩ := t a m
    rw [upd_ne (ne_of_none e n)]
    exact o.sep a m
  · by_cases h : a = p
    · subst h; exact .inr (.inr n)
    · rw [upd_ne h] at e; exact .inl e
end PL
set_option Elab.async false
set_option linter.all false
set_option maxRecDepth 100000
set_option maxHeartbeats 1000000
namespace PL
open PySem PySem.Spec PyProof.Rows L2

/-! ### the largest readings -/
def wE (X : Cx) (e : Expr) : TE := fun s H Q => ∀ pins t, Inv X pins s H t → wpAny (model X.prog X.w) X.A (eval e X.env) (EP X pins s Q) X.xe t
def wT (X : Cx) (e : Expr) : TT := fun s H Q => ∀ pins t, Inv X pins s H t → wpAny (model X.prog X.w) X.A (isTrue e X.env (eval e X.env)) (TP X pins s Q) X.xe t
def wA (X : Cx) (es : List Expr) : TA := fun s H Q => ∀ pos pins t, Inv X pins s H t → wpAny (model X.prog X.w) X.A (spliced (backTo pos (starEach es X.env))) (AP X pins s Q) X.xe t
def wS (X : Cx) (st : Stmt) : TS := fun D s H => ∀ pins t, Inv X pins s H t → wpAny (model X.prog X.w) X.A (exec st X.env) (SP X pins D) X.xe t
def wSs (X : Cx) (st : List Stmt) : TS := fun D s H => ∀ pins t, Inv X pins s H t → wpAny (model X.prog X.w) X.A (execs st X.env) (SP X pins D) X.xe t
section
variable {X : Cx} {e : Expr} {es : List Expr} {st : Stmt} {sts : List Stmt} {s : L2.St} {H : Hp}
theorem pwE : PE X e (wE X e) := ⟨fun pins t s H Q I h => h pins t I⟩
theorem pwT : PT X e (wT X e) := ⟨fun pins t s H Q I h => h pins t I⟩
theorem pwA : PA X es (wA X es) := ⟨fun pos pins t s H Q I h => h pos pins t I⟩
theorem pwS : PS X st (wS X st) := ⟨fun pins t s H D I h => h pins t I⟩
theorem pwSs : PSs X sts (wSs X sts) := ⟨fun pins t s H D I h => h pins t I⟩
theorem wE.of {t : TE} {Q : VK} (h : PE X e t) (q : t s H Q) : wE X e s H Q := fun pins u I => h.run pins u s H Q I q
theorem wT.of {t : TT} {Q : Bool → Hp → Prop} (h : PT X e t) (q : t s H Q) : wT X e s H Q := fun pins u I => h.run pins u s H Q I q
theorem wA.of {t : TA} {Q : List V → Hp → Prop} (h : PA X es t) (q : t s H Q) : wA X es s H Q := fun pos pins u I => h.run pos pins u s H Q I q
theorem wS.of {t : TS} {D : Ends} (h : PS X st t) (q : t D s H) : wS X st D s H := fun pins u I => h.run pins u s H D I q
theorem wSs.of {t : TS} {D : Ends} (h : PSs X sts t) (q : t D s H) : wSs X sts D s H := fun pins u I => h.run pins u s H D I q
theorem wE.mono {Q Q' : VK} (h : wE X e s H Q) (k : ∀ v H', Q v H' → Q' v H') : wE X e s H Q' := fun pins u I =>
  thn (h pins u I) fun a t ⟨v, H', I', r, q⟩ => ⟨v, H', I', r, k v H' q⟩
theorem wT.mono {Q Q' : Bool → Hp → Prop} (h : wT X e s H Q) (k : ∀ v H', Q v H' → Q' v H') : wT X e s H Q' := fun pins u I =>
  thn (h pins u I) fun a t ⟨H', I', q⟩ => ⟨H', I', k a H' q⟩
theorem wA.mono {Q Q' : List V → Hp → Prop} (h : wA X es s H Q) (k : ∀ v H', Q v H' → Q' v H') : wA X es s H Q' := fun pos pins u I =>
  thn (h pos pins u I) fun a t ⟨v, H', I', r, q⟩ => ⟨v, H', I', r, k v H' q⟩
/-- ends that follow from ends -/
structure Ends.Le (D D' : Ends) : Prop where
  nx : ∀ s H, D.nx s H → D'.nx s H
  rt : ∀ v H, D.rt v H → D'.rt v H
  bk : ∀ s H, D.bk s H → D'.bk s H
  ct : ∀ s H, D.ct s H → D'.ct s H
theorem SP.mono {pins : List (Addr × Obj)} {D D' : Ends} (l : Ends.Le D D') {f : Flow} {t : Shared} (h : SP X pins D f t) : SP X pins D' f t := by
  cases f with
  | next => obtain ⟨a, b, c, d⟩ := h; exact ⟨a, b, c, l.nx _ _ d⟩
  | brk => obtain ⟨a, b, c, d⟩ := h; exact ⟨a, b, c, l.bk _ _ d⟩
  | cont => obtain ⟨a, b, c, d⟩ := h; exact ⟨a, b, c, l.ct _ _ d⟩
  | ret u => obtain ⟨v, a, b, c, r, d⟩ := h; exact ⟨v, a, b, c, r, l.rt _ _ d⟩
theorem wS.mono {D D' : Ends} (h : wS X st D s H) (l : Ends.Le D D') : wS X st D' s H := fun pins u I => thn (h pins u I) fun f t q => SP.mono l q
theorem wSs.mono {D D' : Ends} (h : wSs X sts D s H) (l : Ends.Le D D') : wSs X sts D' s H := fun pins u I => thn (h pins u I) fun f t q => SP.mono l q
end
/-- what is wanted of an exception -/
def eX (X : Cx) (cls : Value) (d : Option Addr) (s : L2.St) (H : Hp) : Prop := ∀ u t, XE X (fun c' d' s' H' => c' = cls ∧ d' = d ∧ s' = s ∧ H' = H) u t → X.xe u t
theorem takes_eX {X : Cx} : Takes X (eX X) := fun u t ⟨a, B, sI, pins, s, H, cls, d, e, I, nb, up, sky, na, os, ag, w⟩ =>
  w u t ⟨a, B, sI, pins, s, H, cls, d, e, I, nb, up, sky, na, os, ag, rfl, rfl, rfl, rfl⟩
theorem eX_of {X : Cx} {W : WX} (tk : Takes X W) {cls : Value} {d : Option Addr} {s : L2.St} {H : Hp} (w : W cls d s H) : eX X cls d s H := fun u t ⟨a, B, sI, pins, s', H', cls', d', e, I, nb, up, sky, na, os, ag, e1, e2, e3, e4⟩ => by
  subst e1 e2 e3 e4
  exact tk u t ⟨a, B, sI, pins, _, _, _, _, e, I, nb, up, sky, na, os, ag, w⟩

/-! ### what holds behind -/
section
variable (G : GC) (Z H : Hp) (s : L2.St) (F : List Addr)
def OkE (o : O) (r : Env) (nm : Bool) (v : V) (H' : Hp) : Prop :=
  ∃ Z' E F', RepO G H' Z' o v E ∧ RepEnv G H' Z' r s F' ∧ Ow Z' H' (E ++ F') ∧ Fr Z H F Z' H' (E ++ F') ∧ (nm = true → Sub H H')
def OkT (r : Env) (nm : Bool) (H' : Hp) : Prop :=
  ∃ Z' F', RepEnv G H' Z' r s F' ∧ Ow Z' H' F' ∧ Fr Z H F Z' H' F' ∧ (nm = true → Sub H H')
def OkA (os : List O) (r : Env) (nm : Bool) (vs : List V) (H' : Hp) : Prop :=
  ∃ Z' E F', RepOs G H' Z' os vs E ∧ RepEnv G H' Z' r s F' ∧ Ow Z' H' (E ++ F') ∧ Fr Z H F Z' H' (E ++ F') ∧ (nm = true → Sub H H')
/-- an exception and its attributes -/
def RepX (Z : Hp) (x : Exc) (cls : Value) (d : Option Addr) : Prop :=
  cls = .ref (G.ca x.c) ∧ (x.fs = [] ∨ ∃ dx vs, d = some dx ∧ Z dx = some (.xd ((G.lay x.c).zip vs)) ∧ RepVs G Z x.fs vs ∧ vs.length ≤ (G.lay x.c).length)
def OkX (x : Exc) (r : Env) (cls : Value) (d : Option Addr) (H' : Hp) : Prop :=
  ∃ Z' F', RepEnv G H' Z' r s F' ∧ Ow Z' H' F' ∧ Fr Z H F Z' H' F' ∧ RepX G Z' x cls d
end
/-! ### the judgements -/
section
variable (G : GC) (X : Cx)
def SimE (e : Expr) (m : EM) (nm : Bool) : Prop := ∀ Z H r s F, Ow Z H F → RepEnv G H Z r s F → match m r with
  | .ok o r' => wE X e s H (OkE G Z H s F o r' nm)
  | .exc x r' => (∀ cls d H', OkX G Z H s F x r' cls d H' → eX X cls d s H') → wE X e s H (fun _ _ => False)
  | .stuck => True
def SimT (e : Expr) (m : TM) (nm : Bool) : Prop := ∀ Z H r s F, Ow Z H F → RepEnv G H Z r s F → match m r with
  | .ok b r' => wT X e s H (fun c H' => c = b ∧ OkT G Z H s F r' nm H')
  | .exc x r' => (∀ cls d H', OkX G Z H s F x r' cls d H' → eX X cls d s H') → wT X e s H (fun _ _ => False)
  | .stuck => True
def SimA (es : List Expr) (m : Env → R (List O)) (nm : Bool) : Prop := ∀ Z H r s F, Ow Z H F → RepEnv G H Z r s F → match m r with
  | .ok os r' => wA X es s H (OkA G Z H s F os r' nm)
  | .exc x r' => (∀ cls d H', OkX G Z H s F x r' cls d H' → eX X cls d s H') → wA X es s H (fun _ _ => False)
  | .stuck => True
end
/-! ### steps one behind another -/
section
variable {G : GC} {Z H Z1 H1 : Hp} {s : L2.St} {F E F1 : List Addr} {o : O} {v : V} {r r' : Env} {os : List O} {vs : List V} {nm nm1 : Bool} {H2 : Hp}
/-- behind one result (o at E) and a step over the rest F1: both stand -/
theorem OkE.then (h1 : RepO G H1 Z1 o v E) (ow1 : Ow Z1 H1 (E ++ F1)) (f1 : Fr Z H F Z1 H1 (E ++ F1)) (nm1' : nm = true → Sub H H1)
    (h : OkA G Z1 H1 s F1 os r' nm1 vs H2) : OkA G Z H s F (o :: os) r' (nm && nm1) (v :: vs) H2 := by
  obtain ⟨Z2, E2, F2, a1, a2, a3, a4, a5⟩ := h
  obtain ⟨b1, b2, b3⟩ := a4.beside ow1 a3 h1.there
  refine ⟨Z2, E ++ E2, F2, .cons (h1.mono a4.zs b3) a1, a2, ?_, ?_, fun q => ?_⟩
  · rw [List.append_assoc]; exact b2
  · rw [List.append_assoc]; exact f1.trans b1
  · rw [Bool.and_eq_true] at q
    exact (nm1' q.1).trans (a5 q.2)
theorem OkX.then (h1 : RepO G H1 Z1 o v E) (ow1 : Ow Z1 H1 (E ++ F1)) (f1 : Fr Z H F Z1 H1 (E ++ F1)) {x : Exc} {cls : Value} {d : Option Addr}
    (h : OkX G Z1 H1 s F1 x r' cls d H2) : OkX G Z H s F x r' cls d H2 := by
  obtain ⟨Z2, F2, a2, a3, a4, a5⟩ := h
  obtain ⟨b1, b2, b3⟩ := a4.beside ow1 a3 h1.there
  exact ⟨Z2, F2, a2, a3, (f1.trans b1).less fun b m => List.mem_append_right _ m, a5⟩
theorem OkX.thenT (f1 : Fr Z H F Z1 H1 F1) {x : Exc} {cls : Value} {d : Option Addr}
    (h : OkX G Z1 H1 s F1 x r' cls d H2) : OkX G Z H s F x r' cls d H2 := by
  obtain ⟨Z2, F2, a2, a3, a4, a5⟩ := h
  exact ⟨Z2, F2, a2, a3, f1.trans a4, a5⟩
theorem OkE.one (h : OkE G Z H s F o r' nm v H2) : OkA G Z H s F [o] r' nm [v] H2 := by
  obtain ⟨Z2, E2, F2, a1, a2, a3, a4, a5⟩ := h
  exact ⟨Z2, E2, F2, by rw [← List.append_nil E2]; exact .cons a1 .nil, a2, a3, a4, a5⟩
theorem OkA.one (h : OkA G Z H s F [o] r' nm vs H2) : ∃ v, vs = [v] ∧ OkE G Z H s F o r' nm v H2 := by
  obtain ⟨Z2, E2, F2, a1, a2, a3, a4, a5⟩ := h
  unfold RepOs at a1
  obtain ⟨v, w, F1, F3, rfl, b1, b2, rfl⟩ := a1
  unfold RepOs at b2
  obtain ⟨rfl, rfl⟩ := b2
  rw [List.append_nil] at a3 a4
  exact ⟨v, rfl, Z2, F1, F2, b1, a2, a3, a4, a5⟩
end
/-! ### combining the interpreter's steps -/
def R.bind {α β : Type} : R α → (α → Env → R β) → R β
  | .ok a r, f => f a r
  | .exc x r, _ => .exc x r
  | .stuck, _ => .stuck
def mNil : Env → R (List O) := fun r => .ok [] r
def mCons (m : EM) (ms : Env → R (List O)) : Env → R (List O) := fun r => match m r with
  | .ok o r1 => match ms r1 with
    | .ok os r2 => .ok (o :: os) r2
    | .exc x r2 => .exc x r2
    | .stuck => .stuck
  | .exc x r1 => .exc x r1
  | .stuck => .stuck
section
variable {G : GC} {X : Cx}
theorem sim_nil : SimA G X [] mNil true := fun Z H r s F ow en => wA.of pa_nil ⟨Z, [], F, .nil, en, ow, .refl, fun _ => .refl _⟩
theorem sim_cons {e : Expr} {es : List Expr} {m : EM} {ms : Env → R (List O)} {nm nm1 : Bool} (h : SimE G X e m nm) (hs : SimA G X es ms nm1)
    (ha : starEach (e :: es) X.env = (false, eval e X.env) :: starEach es X.env := by rfl) : SimA G X (e :: es) (mCons m ms) (nm && nm1) := fun Z H r s F ow en => by
  have h1 := h Z H r s F ow en
  unfold mCons
  cases em : m r with
  | stuck => trivial
  | exc x r1 =>
    rw [em] at h1
    exact fun k => wA.of (pa_cons pwE pwA ha) ((h1 k).mono fun _ _ z => z.elim)
  | ok o r1 =>
    rw [em] at h1
    dsimp only
    have step : ∀ (Q : List V → Hp → Prop), (∀ v H1, OkE G Z H s F o r1 nm v H1 → wA X es s H1 fun xs H2 => Q (v :: xs) H2) → wA X (e :: es) s H Q := fun Q hq => wA.of (pa_cons pwE pwA ha) (h1.mono hq)
    cases em2 : ms r1 with
    | stuck => trivial
    | exc x r2 =>
      intro k
      refine step _ fun v H1 ⟨Z1, E1, F1, a1, a2, a3, a4, a5⟩ => ?_
      have h2 := hs Z1 H1 r1 s F1 (a3.less (List.sublist_append_right _ _)) a2
      rw [em2] at h2
      exact h2 fun cls d H' q => k cls d H' (q.then a1 a3 a4)
    | ok os r2 =>
      refine step _ fun v H1 ⟨Z1, E1, F1, a1, a2, a3, a4, a5⟩ => ?_
      have h2 := hs Z1 H1 r1 s F1 (a3.less (List.sublist_append_right _ _)) a2
      rw [em2] at h2
      exact wA.mono h2 fun vs H2 q => OkE.then a1 a3 a4 a5 q
end
end PL
set_option Elab.async false
set_option linter.all false
set_option maxRecDepth 100000
set_option maxHeartbeats 1000000
namespace PL
open PySem PySem.Spec PyProof.Rows L2

/-! ### frozen arguments, new objects -/
def OkV (G : GC) (Z H : Hp) (s : L2.St) (F : List Addr) (ds : List D) (r : Env) (nm : Bool) (vs : List V) (H' : Hp) : Prop :=
  ∃ Z' F', RepVs G Z' ds vs ∧ RepEnv G H' Z' r s F' ∧ Ow Z' H' F' ∧ Fr Z H F Z' H' F' ∧ (nm = true → Sub H H')
theorem OkA.frozen {G : GC} {Z H : Hp} {s : L2.St} {F : List Addr} {os : List O} {r : Env} {nm : Bool} {vs : List V} {H' : Hp} (h : OkA G Z H s F os r nm vs H') : OkV G Z H s F (frzs os) r nm vs H' := by
  obtain ⟨Z1, E, F1, a1, a2, a3, a4, a5⟩ := h
  obtain ⟨b1, b2, b3, b4⟩ := a3.freeze
  exact ⟨add Z1 H' E, F1, RepOs.frz b2 b3 a1, a2.mono b2 fun _ _ _ e => e, b1, a4.trans b4, a5⟩
theorem OkE.frozen {G : GC} {Z H : Hp} {s : L2.St} {F : List Addr} {o : O} {r : Env} {nm : Bool} {v : V} {H' : Hp} (h : OkE G Z H s F o r nm v H') : OkE G Z H s F (.val (frz o)) r nm v H' := by
  obtain ⟨Z1, E, F1, a1, a2, a3, a4, a5⟩ := h
  obtain ⟨b1, b2, b3, b4⟩ := a3.freeze
  exact ⟨add Z1 H' E, [], F1, .ofV (RepO.frz b2 b3 a1), a2.mono b2 fun _ _ _ e => e, b1, a4.trans b4, a5⟩
inductive New (G : GC) (Z H : Hp) : O → V → Hp → Prop
  | val {d : D} {v : V} : RepV G Z d v → New G Z H (.val d) v H
  | lst {p : Addr} {ds : List D} {vs : List V} : H p = none → RepVs G Z ds vs → New G Z H (.lst (ds.map .val)) (.ref p) (upd H p (.lst vs))
  | tup {p : Addr} {ds : List D} {vs : List V} : H p = none → RepVs G Z ds vs → New G Z H (.val (.tup ds)) (.ref p) (upd H p (.tup vs))
  | dct {p : Addr} {ks ds : List D} {u : HO} {kvs vs : List V} : H p = none → DctU G.w p u ks kvs vs → RepVs G Z ks kvs → RepVs G Z ds vs → New G Z H (.dct ks ds) (.ref p) (upd H p u)
theorem New.fin {G : GC} {Z H Z1 H1 H2 : Hp} {s : L2.St} {F F1 : List Addr} {o : O} {v : V} {r : Env} {nm : Bool} (h : New G Z1 H1 o v H2) (en : RepEnv G H1 Z1 r s F1) (ow : Ow Z1 H1 F1) (fr : Fr Z H F Z1 H1 F1) (hn : nm = true → Sub H H1) : OkE G Z H s F o r nm v H2 := by
  have th := en.there
  cases h with
  | val q => exact ⟨Z1, [], F1, .ofV q, en, ow, fr, hn⟩
  | @lst p ds vs n q =>
    obtain ⟨b1, b2, b3⟩ := ow.new (u := .lst vs) th n
    refine ⟨Z1, [p], F1, ?_, en.mono (.refl _) fun a m u e => b3 a u e, b1, fr.trans b2, fun z a u e => b3 a u (hn z a u e)⟩
    unfold RepO
    exact ⟨p, vs, [], rfl, upd_same, .vals q, rfl⟩
  | @tup p ds vs n q =>
    obtain ⟨b1, b2, b3, b4⟩ := ow.newZ (u := .tup vs) th n
    refine ⟨_, [], F1, .ofV ?_, en.mono b4 fun a m u e => b3 a u e, b1, fr.trans b2, fun z a u e => b3 a u (hn z a u e)⟩
    unfold RepV
    exact ⟨p, vs, rfl, SqT.of upd_same, q.sub b4⟩
  | @dct p ks ds u kvs vs n q1 q2 q3 =>
    obtain ⟨b1, b2, b3⟩ := ow.new (u := u) th n
    refine ⟨Z1, [p], F1, ?_, en.mono (.refl _) fun a m u e => b3 a u e, b1, fr.trans b2, fun z a u e => b3 a u (hn z a u e)⟩
    unfold RepO
    exact ⟨p, u, kvs, vs, rfl, upd_same, q1, q2, q3, rfl⟩
theorem OkV.fin {G : GC} {Z H : Hp} {s : L2.St} {F : List Addr} {ds : List D} {r : Env} {nm : Bool} {vs : List V} {H1 : Hp} {Q : VK} {o : O} {rd : Hp → VK → Prop} (h : OkV G Z H s F ds r nm vs H1)
    (k : ∀ Z1, RepVs G Z1 ds vs → Sub Z1 H1 → (∀ v H2, New G Z1 H1 o v H2 → OkE G Z H s F o r nm v H2) → rd H1 (OkE G Z H s F o r nm)) : rd H1 (OkE G Z H s F o r nm) := by
  obtain ⟨Z1, F1, a1, a2, a3, a4, a5⟩ := h
  exact k Z1 a1 a3.sub fun v H2 n => n.fin a2 a3 a4 a5

/-! ### names, constants -/
def mSlot (i : Nat) : EM := fun r => match r[i]? with
  | some (some (.val d)) => .ok (.val d) r
  | some (some o) => .ok (.val (frz o)) (r.set i (some (.val (frz o))))
  | _ => .stuck
def mTake (i : Nat) : EM := fun r => match r[i]? with
  | some (some o) => .ok o (r.set i none)
  | _ => .stuck
def mCon (d : D) : EM := fun r => .ok (.val d) r
section
variable {G : GC} {X : Cx}
theorem slot_get {Z H : Hp} {r : Env} {s : L2.St} {F : List Addr} {i : Nat} {o : O} (ow : Ow Z H F) (en : RepEnv G H Z r s F) (e : r[i]? = some (some o)) :
    ∃ v, s[i]? = some (some v) ∧ OkE G Z H s F o (r.set i none) true v H := by
  obtain ⟨v, F1, F2, e1, a1, a2, p⟩ := en.get e
  exact ⟨v, e1, Z, F1, F2, a1, a2, ow.perm p, Fr.refl.less fun b m => p.mem_iff.mp m, fun _ => .refl _⟩
theorem slot_frz {Z H : Hp} {r : Env} {s : L2.St} {F : List Addr} {i : Nat} {o : O} (ow : Ow Z H F) (en : RepEnv G H Z r s F) (e : r[i]? = some (some o)) :
    ∃ v, s[i]? = some (some v) ∧ OkE G Z H s F (.val (frz o)) (r.set i (some (.val (frz o)))) true v H := by
  obtain ⟨v, F1, F2, e1, a1, a2, p⟩ := en.get e
  obtain ⟨b1, b2, b3, b4⟩ := (ow.perm p).freeze
  have rv := RepO.frz b2 b3 a1
  have hi : i < r.length := by
    rcases Nat.lt_or_ge i r.length with h | h
    · exact h
    · rw [List.getElem?_eq_none_iff.mpr h] at e; cases e
  obtain ⟨F3, c1, c2⟩ := (a2.mono b2 fun _ _ _ e => e).put (i := i) (by rw [List.getElem?_set_self hi]) e1 (RepO.ofV rv)
  rw [List.set_set] at c1
  refine ⟨v, e1, add Z H F1, [], F3, .ofV rv, c1, b1.perm c2, (Fr.trans (Fr.refl.less fun b m => p.mem_iff.mp m) b4).less fun b m => ?_, fun _ => .refl _⟩
  exact c2.mem_iff.mp m
theorem list_set_get {α : Type} {l : List α} {i : Nat} {a : α} (h : l[i]? = some a) : l.set i a = l := by
  refine List.ext_getElem? fun j => ?_
  by_cases e : i = j
  · subst e
    have : i < l.length := by
      rcases Nat.lt_or_ge i l.length with h' | h'
      · exact h'
      · rw [List.getElem?_eq_none_iff.mpr h'] at h; cases h
    rw [List.getElem?_set_self this, h]
  · rw [List.getElem?_set_ne e]
theorem sim_slot {i : Nat} {x : Str} {pos : Pos} (hN : X.N[i]? = some x) (hv : Vis X.env.scope x) (hd : (x == ("__debug__" : Str)) = false := by decide) (hcd : (x == ("__classdict__" : Str)) = false := by decide) : SimE G X (.Name x pos) (mSlot i) true := fun Z H r s F ow en => by
  unfold mSlot
  cases e : r[i]? with
  | none => trivial
  | some q =>
    cases q with
    | none => trivial
    | some o =>
      obtain ⟨v, e1, h⟩ := slot_frz ow en e
      cases o with
      | val d =>
        refine wE.of (pe_var hN hv hd hcd) ⟨v, e1, ?_⟩
        have e2 : r.set i (some (.val (frz (.val d)))) = r := list_set_get e
        rw [e2] at h
        exact h
      | lst os => exact wE.of (pe_var hN hv hd hcd) ⟨v, e1, h⟩
      | dct ks ds => exact wE.of (pe_var hN hv hd hcd) ⟨v, e1, h⟩
      | ins c os => exact wE.of (pe_var hN hv hd hcd) ⟨v, e1, h⟩
theorem sim_take {i : Nat} {x : Str} {pos : Pos} (hN : X.N[i]? = some x) (hv : Vis X.env.scope x) (hd : (x == ("__debug__" : Str)) = false := by decide) (hcd : (x == ("__classdict__" : Str)) = false := by decide) : SimE G X (.Name x pos) (mTake i) true := fun Z H r s F ow en => by
  unfold mTake
  cases e : r[i]? with
  | none => trivial
  | some q =>
    cases q with
    | none => trivial
    | some o =>
      obtain ⟨v, e1, h⟩ := slot_get ow en e
      exact wE.of (pe_var hN hv hd hcd) ⟨v, e1, h⟩
theorem sim_val {e : Expr} {d : D} (h : ∀ Z, ∃ v, RepV G Z d v ∧ PE X e (tC v)) : SimE G X e (mCon d) true := fun Z H r s F ow en => by
  obtain ⟨v, h1, h2⟩ := h Z
  exact wE.of h2 ⟨Z, [], F, .ofV h1, en, ow, .refl, fun _ => .refl _⟩
theorem sim_int {i : Int} {j : Nat} {pos : Pos} : SimE G X (.Constant (.int i) j pos) (mCon (.int i)) true := sim_val fun Z => ⟨.int i, by unfold RepV; rfl, pe_int⟩
theorem sim_bl {i : Bool} {j : Nat} {pos : Pos} : SimE G X (.Constant (.bool i) j pos) (mCon (.bl i)) true := sim_val fun Z => ⟨.bl i, by unfold RepV; rfl, pe_bl⟩
theorem sim_non {j : Nat} {pos : Pos} : SimE G X (.Constant .none j pos) (mCon .non) true := sim_val fun Z => ⟨.non, by unfold RepV; rfl, pe_non⟩
theorem sim_str {i : Str} {j : Nat} {pos : Pos} : SimE G X (.Constant (.str i) j pos) (mCon (.str i)) true := sim_val fun Z => ⟨.str i, by unfold RepV; rfl, pe_str⟩
/-- a module's constant -/
theorem sim_glob {x : Str} {d : D} {u : Value} {pos : Pos} (hg : Gl X x) (hm : X.mg x = some u) (hd : ∀ Z, ∃ v, RepV G Z d v ∧ RelV v u) (hb : (x == ("__debug__" : Str)) = false := by decide) : SimE G X (.Name x pos) (mCon d) true := sim_val fun Z => by
  obtain ⟨v, h1, h2⟩ := hd Z
  exact ⟨v, h1, pe_glob hg hm h2 hb⟩

/-! ### displays -/
def lenOk (n : Nat) : Bool := decide (n ≤ 16777216)
theorem lenOk_le {n : Nat} (h : lenOk n = true) : n ≤ sizeLine := by rw [sizeLine_eq]; exact of_decide_eq_true h
def mTup (ms : Env → R (List O)) : EM := fun r => match ms r with
  | .ok os r1 => if lenOk os.length = true then .ok (.val (.tup (frzs os))) r1 else .stuck
  | .exc x r1 => .exc x r1
  | .stuck => .stuck
def mLst (ms : Env → R (List O)) : EM := fun r => match ms r with
  | .ok os r1 => if lenOk os.length = true then .ok (.lst os) r1 else .stuck
  | .exc x r1 => .exc x r1
  | .stuck => .stuck
theorem sim_tup {es : List Expr} {ms : Env → R (List O)} {nm : Bool} {k : Nat} {pos : Pos} (h : SimA G X es ms nm) : SimE G X (.Tuple es k pos) (mTup ms) nm := fun Z H r s F ow en => by
  have h1 := h Z H r s F ow en
  unfold mTup
  cases em : ms r with
  | stuck => trivial
  | exc x r1 =>
    rw [em] at h1
    exact fun k => wE.of (pe_tup pwA) ((h1 k).mono fun _ _ z => z.elim)
  | ok os r1 =>
    rw [em] at h1
    dsimp only
    cases hl : lenOk os.length with
    | false => trivial
    | true =>
      rw [if_pos rfl]
      refine wE.of (pe_tup pwA) (h1.mono fun vs H1 q => ?_)
      obtain ⟨Z1, F1, a1, a2, a3, a4, a5⟩ := q.frozen
      refine ⟨?_, fun p np => New.fin (.tup np a1) a2 a3 a4 a5⟩
      rw [← a1.length, frzs_map, List.length_map]
      exact lenOk_le hl
theorem sim_lst {es : List Expr} {ms : Env → R (List O)} {nm : Bool} {pos : Pos} (h : SimA G X es ms nm) : SimE G X (.List es pos) (mLst ms) nm := fun Z H r s F ow en => by
  have h1 := h Z H r s F ow en
  unfold mLst
  cases em : ms r with
  | stuck => trivial
  | exc x r1 =>
    rw [em] at h1
    exact fun k => wE.of (pe_lst pwA) ((h1 k).mono fun _ _ z => z.elim)
  | ok os r1 =>
    rw [em] at h1
    dsimp only
    cases hl : lenOk os.length with
    | false => trivial
    | true =>
      rw [if_pos rfl]
      refine wE.of (pe_lst pwA) (h1.mono fun vs H1 ⟨Z1, E1, F1, a1, a2, a3, a4, a5⟩ => ?_)
      have th : ∀ a ∈ E1 ++ F1, ∃ u, H1 a = some u := fun a m => (List.mem_append.mp m).elim (a1.there a) (a2.there a)
      refine ⟨by rw [← a1.length]; exact lenOk_le hl, fun p np => ?_⟩
      obtain ⟨b1, b2, b3⟩ := a3.new (u := .lst vs) th np
      refine ⟨Z1, p :: E1, F1, ?_, a2.mono (.refl _) fun a m u e => b3 a u e, b1, a4.trans b2, fun z a u e => b3 a u (a5 z a u e)⟩
      unfold RepO
      exact ⟨p, vs, E1, rfl, upd_same, a1.mono (.refl _) fun a m u e => b3 a u e, rfl⟩
end

end PL
set_option Elab.async false
set_option linter.all false
set_option maxRecDepth 100000
set_option maxHeartbeats 1000000
namespace PL
open PySem PySem.Spec PyProof.Rows L2

/-- the place of an attribute -/
def ixF (L : Nat → List Nat) (c f : Nat) : Option Nat := (L c).findIdx? (· == f)
/-- what stands along attributes -/
def getP (L : Nat → List Nat) : O → List Nat → Option O
  | o, [] => some o
  | .ins c os, f :: fs => match ixF L c f with
    | some i => match os[i]? with
      | some o => getP L o fs
      | none => none
    | none => none
  | .val (.ins c ds), f :: fs => match ixF L c f with
    | some i => match ds[i]? with
      | some d => getP L (.val d) fs
      | none => none
    | none => none
  | _, _ :: _ => none
/-- another tree along attributes -/
def setP (L : Nat → List Nat) : O → List Nat → O → O
  | _, [], o2 => o2
  | .ins c os, f :: fs, o2 => match ixF L c f with
    | some i => match os[i]? with
      | some o => .ins c (os.set i (setP L o fs o2))
      | none => .ins c os
    | none => .ins c os
  | o, _ :: _, _ => o
/-- is the path through owned instances alone -/
def ownP (L : Nat → List Nat) : O → List Nat → Bool
  | _, [] => true
  | .ins c os, f :: fs => match ixF L c f with
    | some i => match os[i]? with
      | some o => ownP L o fs
      | none => false
    | none => false
  | _, _ :: _ => false
/-- the value along attributes, in the heap -/
def PathV (G : GC) (H : Hp) : V → List Nat → V → Prop
  | v, [], w => v = w
  | v, f :: fs, w => ∃ a c dx kv u, v = .ref a ∧ H a = some (.ins (G.ca c) dx kv) ∧ f ∈ G.fid c ∧ kv.lookup (G.fn f) = some u ∧ PathV G H u fs w
/-- the classes of the law: what the top has written of them -/
structure ClsOk (G : GC) : Prop where
  cl : ∀ c f, f ∈ G.fid c → Cls G.K (G.ca c)
  no : ∀ c f, f ∈ G.fid c → NoAttr G.K (G.ca c) (G.fn f)
  inj : ∀ c, (G.lay c).Nodup
theorem ixF_mem {L : Nat → List Nat} {c f i : Nat} (h : ixF L c f = some i) : (L c)[i]? = some f := by
  unfold ixF at h
  obtain ⟨h1, h2, _⟩ := List.findIdx?_eq_some_iff_getElem.mp h
  rw [List.getElem?_eq_getElem h1]
  simpa using h2
theorem lookup_zip {α β : Type} [BEq α] [LawfulBEq α] : ∀ {xs : List α} {ys : List β} {i : Nat} {x : α} {y : β}, xs.Nodup → xs[i]? = some x → ys[i]? = some y → (xs.zip ys).lookup x = some y
  | [], _, i, x, y, _, h, _ => by simp at h
  | _ :: _, [], i, x, y, _, _, h => by simp at h
  | a :: xs, b :: ys, 0, x, y, nd, h, k => by
    simp only [List.getElem?_cons_zero, Option.some.injEq] at h k
    subst h k
    simp [List.zip_cons_cons]
  | a :: xs, b :: ys, i + 1, x, y, nd, h, k => by
    rw [List.getElem?_cons_succ] at h k
    have nd' := List.nodup_cons.mp nd
    have ne : (x == a) = false := by
      apply beq_eq_false_iff_ne.mpr
      intro e
      subst e
      exact nd'.1 (List.mem_of_getElem? h)
    rw [List.zip_cons_cons, List.lookup_cons, ne]
    exact lookup_zip nd'.2 h k
theorem putF_zip {x : Str} {y : V} : ∀ {xs : List Str} {ys : List V} {i : Nat}, xs.Nodup → xs[i]? = some x → i < ys.length → putF x y (xs.zip ys) = xs.zip (ys.set i y)
  | [], _, i, _, h, _ => by simp at h
  | _ :: _, [], i, _, _, h => by simp at h
  | a :: xs, b :: ys, 0, nd, h, k => by
    simp only [List.getElem?_cons_zero, Option.some.injEq] at h
    subst h
    simp [List.zip_cons_cons, putF]
  | a :: xs, b :: ys, i + 1, nd, h, k => by
    rw [List.getElem?_cons_succ] at h
    have nd' := List.nodup_cons.mp nd
    have ne : ¬ a = x := fun e => by
      subst e
      exact nd'.1 (List.mem_of_getElem? h)
    rw [List.zip_cons_cons, putF, if_neg ne, List.set_cons_succ, List.zip_cons_cons, putF_zip nd'.2 h (by simpa using k)]
theorem putF_zip_new {x : Str} {y : V} : ∀ {xs : List Str} {ys : List V}, xs.Nodup → xs[ys.length]? = some x → putF x y (xs.zip ys) = xs.zip (ys ++ [y])
  | [], _, _, h => by simp at h
  | a :: xs, [], nd, h => by
    simp only [List.length_nil, List.getElem?_cons_zero, Option.some.injEq] at h
    subst h
    simp [putF]
  | a :: xs, b :: ys, nd, h => by
    rw [List.length_cons, List.getElem?_cons_succ] at h
    have nd' := List.nodup_cons.mp nd
    have ne : ¬ a = x := fun e => by
      subst e
      exact nd'.1 (List.mem_of_getElem? h)
    rw [List.zip_cons_cons, putF, if_neg ne, List.cons_append, List.zip_cons_cons, putF_zip_new nd'.2 h]
theorem lay_at {G : GC} {c i f : Nat} (h : (G.fid c)[i]? = some f) : (G.lay c)[i]? = some (G.fn f) := by
  unfold GC.lay
  rw [List.getElem?_map, h]; rfl
theorem RepOs.get {G : GC} {H Z : Hp} : ∀ {os : List O} {vs : List V} {F : List Addr} {i : Nat} {o : O}, RepOs G H Z os vs F → os[i]? = some o →
    ∃ v F1 E, vs[i]? = some v ∧ RepO G H Z o v F1 ∧ F.Perm (F1 ++ E) ∧
      ∀ H2 Z2 o2 F2 v2, (∀ a ∈ E, ∀ u, H a = some u → H2 a = some u) → Sub Z Z2 → RepO G H2 Z2 o2 v2 F2 → ∃ F3, RepOs G H2 Z2 (os.set i o2) (vs.set i v2) F3 ∧ F3.Perm (F2 ++ E)
  | [], _, _, i, o, _, e => by simp at e
  | q :: os, _, _, i, o, h, e => by
    unfold RepOs at h
    obtain ⟨v, w, F1, F2, rfl, h1, h2, rfl⟩ := h
    cases i with
    | zero =>
      simp only [List.getElem?_cons_zero, Option.some.injEq] at e
      subst e
      exact ⟨v, F1, F2, rfl, h1, .refl _, fun H2 Z2 o2 F3 v2 k z r => ⟨F3 ++ F2, .cons r (h2.mono z k), .refl _⟩⟩
    | succ i =>
      rw [List.getElem?_cons_succ] at e
      obtain ⟨u, E1, E2, e1, g1, p, g2⟩ := h2.get e
      refine ⟨u, E1, F1 ++ E2, by rw [List.getElem?_cons_succ]; exact e1, g1, (p.append_left F1).trans (List.perm_append_comm_assoc F1 E1 E2), fun H2 Z2 o2 F3 v2 k z r => ?_⟩
      obtain ⟨F4, r4, p4⟩ := g2 H2 Z2 o2 F3 v2 (fun a m => k a (List.mem_append_right _ m)) z r
      exact ⟨F1 ++ F4, .cons (h1.mono z fun a m => k a (List.mem_append_left _ m)) r4, (p4.append_left F1).trans (List.perm_append_comm_assoc F1 F3 E2)⟩
/-- the focus on what stands along a path -/
theorem RepO.focus {G : GC} (ok : ClsOk G) {H Z : Hp} (sz : Sub Z H) : ∀ {ps : List Nat} {o o' : O} {v : V} {F : List Addr}, RepO G H Z o v F → getP G.fid o ps = some o' →
    ∃ v' F1 E, PathV G H v ps v' ∧ RepO G H Z o' v' F1 ∧ F.Perm (F1 ++ E) ∧
      (ownP G.fid o ps = true → ∀ H2 Z2 o2 F2, (∀ a ∈ E, ∀ u, H a = some u → H2 a = some u) → Sub Z Z2 → RepO G H2 Z2 o2 v' F2 → ∃ F3, RepO G H2 Z2 (setP G.fid o ps o2) v F3 ∧ F3.Perm (F2 ++ E))
  | [], o, o', v, F, h, e => by
    unfold getP at e
    cases e
    refine ⟨v, F, [], rfl, h, by rw [List.append_nil], fun _ H2 Z2 o2 F2 _ _ r => ⟨F2, ?_, by rw [List.append_nil]⟩⟩
    cases o <;> exact r
  | f :: fs, .ins c os, o', v, F, h, e => by
    unfold getP at e
    unfold RepO at h
    obtain ⟨a, dx, vs, E, rfl, h1, h2, hl, hr, rfl⟩ := h
    cases ei : ixF G.fid c f with
    | none => rw [ei] at e; cases e
    | some i =>
      rw [ei] at e
      dsimp only at e
      cases eo : os[i]? with
      | none => rw [eo] at e; cases e
      | some o1 =>
        rw [eo] at e
        dsimp only at e
        obtain ⟨u, F1, E1, e1, r1, p1, g1⟩ := hr.get eo
        obtain ⟨v', F2, E2, pv, r2, p2, g2⟩ := RepO.focus ok sz r1 e
        have hf := ixF_mem ei
        have nd := ok.inj c
        refine ⟨v', F2, a :: dx :: (E2 ++ E1), ⟨a, c, dx, _, u, rfl, h1, List.mem_of_getElem? hf, lookup_zip nd (lay_at hf) e1, pv⟩, r2, ?_, fun ow H2 Z2 o2 F3 k z r => ?_⟩
        · have q : E.Perm (F2 ++ (E2 ++ E1)) := by rw [← List.append_assoc]; exact p1.trans (p2.append_right E1)
          exact ((q.cons dx).cons a).trans ((List.Perm.cons a (List.perm_middle (l₁ := F2)).symm).trans (List.perm_middle (l₁ := F2)).symm)
        · unfold ownP at ow
          rw [ei] at ow
          dsimp only at ow
          rw [eo] at ow
          dsimp only at ow
          obtain ⟨F4, r4, p4⟩ := g2 ow H2 Z2 o2 F3 (fun b m => k b (by simp [m])) z r
          obtain ⟨F5, r5, p5⟩ := g1 H2 Z2 _ F4 u (fun b m => k b (by simp [m])) z r4
          have es : setP G.fid (.ins c os) (f :: fs) o2 = .ins c (os.set i (setP G.fid o1 fs o2)) := by
            rw [setP, ei]
            dsimp only
            rw [eo]
          rw [list_set_get e1] at r5
          refine ⟨a :: dx :: F5, ?_, ?_⟩
          · rw [es]
            unfold RepO
            exact ⟨a, dx, vs, F5, rfl, k a (by simp) _ h1, k dx (by simp) _ h2, hl, r5, rfl⟩
          · have q : F5.Perm (F3 ++ (E2 ++ E1)) := by rw [← List.append_assoc]; exact p5.trans (p4.append_right E1)
            exact ((q.cons dx).cons a).trans ((List.Perm.cons a (List.perm_middle (l₁ := F3)).symm).trans (List.perm_middle (l₁ := F3)).symm)
  | f :: fs, .val (.ins c ds), o', v, F, h, e => by
    unfold getP at e
    unfold RepO RepV at h
    obtain ⟨⟨a, dx, vs, rfl, h1, h2, hl, hr⟩, rfl⟩ := h
    cases ei : ixF G.fid c f with
    | none => rw [ei] at e; cases e
    | some i =>
      rw [ei] at e
      dsimp only at e
      cases eo : ds[i]? with
      | none => rw [eo] at e; cases e
      | some d1 =>
        rw [eo] at e
        dsimp only at e
        obtain ⟨u, e1, r1⟩ := hr.get eo
        obtain ⟨v', F2, E2, pv, r2, p2, g2⟩ := RepO.focus ok sz (RepO.ofV (H := H) r1) e
        have hf := ixF_mem ei
        refine ⟨v', F2, E2, ⟨a, c, dx, _, u, rfl, sz _ _ h1, List.mem_of_getElem? hf, lookup_zip (ok.inj c) (lay_at hf) e1, pv⟩, r2, p2, fun ow => ?_⟩
        unfold ownP at ow
        cases ow
  | _ :: _, .val .non, _, _, _, _, e => by simp [getP] at e
  | _ :: _, .val (.bl _), _, _, _, _, e => by simp [getP] at e
  | _ :: _, .val (.int _), _, _, _, _, e => by simp [getP] at e
  | _ :: _, .val (.str _), _, _, _, _, e => by simp [getP] at e
  | _ :: _, .val (.tup _), _, _, _, _, e => by simp [getP] at e
  | _ :: _, .val (.lst _), _, _, _, _, e => by simp [getP] at e
  | _ :: _, .val (.dct _ _), _, _, _, _, e => by simp [getP] at e
  | _ :: _, .lst _, _, _, _, _, e => by simp [getP] at e
  | _ :: _, .dct _ _, _, _, _, _, e => by simp [getP] at e
end PL
set_option Elab.async false
set_option linter.all false
set_option maxRecDepth 100000
set_option maxHeartbeats 1000000
namespace PL
open PySem PySem.Spec PyProof.Rows L2

/-! ### paths -/
def PthE (G : GC) (X : Cx) (e : Expr) (i : Nat) (ps : List Nat) : Prop := ∀ s H v w, s[i]? = some (some v) → PathV G H v ps w → wE X e s H (fun u H' => u = w ∧ H' = H)
theorem PathV.snoc {G : GC} {H : Hp} {f : Nat} : ∀ {ps : List Nat} {v w : V}, PathV G H v (ps ++ [f]) w → ∃ u, PathV G H v ps u ∧ PathV G H u [f] w
  | [], v, w, h => ⟨v, rfl, h⟩
  | g :: ps, v, w, h => by
    obtain ⟨a, c, dx, kv, u, e1, e2, e3, e4, h⟩ := h
    obtain ⟨x, h1, h2⟩ := PathV.snoc h
    exact ⟨x, ⟨a, c, dx, kv, u, e1, e2, e3, e4, h1⟩, h2⟩
section
variable {G : GC} {X : Cx}
theorem pth_name {i : Nat} {x : Str} {pos : Pos} (hN : X.N[i]? = some x) (hv : Vis X.env.scope x) (hd : (x == ("__debug__" : Str)) = false := by decide) (hcd : (x == ("__classdict__" : Str)) = false := by decide) : PthE G X (.Name x pos) i [] := fun s H v w e p => by
  cases p
  exact wE.of (pe_var hN hv hd hcd) ⟨v, e, rfl, rfl⟩
theorem pth_attr (ok : ClsOk G) (hK : X.K = G.K) {e : Expr} {i f : Nat} {ps : List Nat} {n : Str} {pos : Pos} (h : PthE G X e i ps) (hn : G.fn f = n) (hb : attributeBase e n X.env (eval e X.env) = eval e X.env) : PthE G X (.Attribute e n pos) i (ps ++ [f]) := fun s H v w e1 p => by
  obtain ⟨u, p1, a, c, dx, kv, w', rfl, e2, e3, e4, e5⟩ := p.snoc
  cases e5
  subst hn
  refine wE.of (pe_fld pwE hb) ((h s H v _ e1 p1).mono fun u H' ⟨eu, eH⟩ => ?_)
  subst eu eH
  refine ⟨a, _, dx, kv, _, rfl, e2, ?_, ?_, e4, rfl, rfl⟩
  · rw [hK]; exact ok.cl c f e3
  · rw [hK]; exact ok.no c f e3
end
/-- what a path leads to, in the state -/
theorem path_at {G : GC} (ok : ClsOk G) {Z H : Hp} {r : Env} {s : L2.St} {F : List Addr} {i : Nat} {ps : List Nat} {o o' : O} (ow : Ow Z H F) (en : RepEnv G H Z r s F) (e : r[i]? = some (some o)) (ep : getP G.fid o ps = some o') :
    ∃ v w F1 F2, s[i]? = some (some v) ∧ PathV G H v ps w ∧ RepO G H Z o' w F1 ∧ (F1 ++ F2).Perm F ∧
      (ownP G.fid o ps = true → ∀ H2 Z2 o2 F3, (∀ a ∈ F2, ∀ u, H a = some u → H2 a = some u) → Sub Z Z2 → RepO G H2 Z2 o2 w F3 → ∃ F4, RepEnv G H2 Z2 (r.set i (some (setP G.fid o ps o2))) s F4 ∧ F4.Perm (F3 ++ F2)) := by
  obtain ⟨v, F1, F2, e1, a1, a2, p⟩ := en.get e
  obtain ⟨w, E1, E2, b1, b2, b3, b4⟩ := a1.focus ok ow.sub ep
  have hi : i < r.length := by
    rcases Nat.lt_or_ge i r.length with h | h
    · exact h
    · rw [List.getElem?_eq_none_iff.mpr h] at e; cases e
  refine ⟨v, w, E1, E2 ++ F2, e1, b1, b2, ?_, fun hw H2 Z2 o2 F3 k z ro => ?_⟩
  · rw [← List.append_assoc]
    exact (b3.symm.append_right F2).trans p
  · obtain ⟨F4, c1, c2⟩ := b4 hw H2 Z2 o2 F3 (fun a m => k a (List.mem_append_left _ m)) z ro
    obtain ⟨F5, d1, d2⟩ := (a2.mono z fun a m => k a (List.mem_append_right _ m)).put (i := i) (by rw [List.getElem?_set_self hi]) e1 c1
    rw [List.set_set] at d1
    refine ⟨F5, d1, d2.trans ?_⟩
    rw [← List.append_assoc]
    exact c2.append_right F2
/-! ### a path read: frozen there -/
def mRd (L : Nat → List Nat) (i : Nat) (ps : List Nat) : EM := fun r => match r[i]? with
  | some (some o) => match getP L o ps with
    | some (.val d) => .ok (.val d) r
    | some o' => if ownP L o ps = true then .ok (.val (frz o')) (r.set i (some (setP L o ps (.val (frz o'))))) else .stuck
    | none => .stuck
  | _ => .stuck
/-! ### operands: what may be read now -/
abbrev OM := Env → R D
def RepB (G : GC) (H Z : Hp) : D → V → Prop
  | .lst ds, v => ∃ a vs, v = .ref a ∧ SqL G.K H a vs ∧ RepVs G Z ds vs
  | .dct ks ds, v => ∃ a u kvs vs, v = .ref a ∧ Rd H a u ∧ DctU G.w a u ks kvs vs ∧ RepVs G Z ks kvs ∧ RepVs G Z ds vs
  | d, v => RepV G Z d v
theorem RepV.b {G : GC} {H Z : Hp} (s : Sub Z H) {d : D} {v : V} (h : RepV G Z d v) : RepB G H Z d v := by
  cases d with
  | lst ds =>
    unfold RepV at h
    obtain ⟨a, vs, e, q, t⟩ := h
    exact ⟨a, vs, e, s.sqL q, t⟩
  | dct ks ds =>
    unfold RepV at h
    obtain ⟨a, u, kvs, vs, e, q, q2, t, t2⟩ := h
    exact ⟨a, u, kvs, vs, e, s.rd q, q2, t, t2⟩
  | _ => exact h
theorem RepB.mono {G : GC} {H Z H' Z' : Hp} (s : Sub H H') (z : Sub Z Z') {d : D} {v : V} (h : RepB G H Z d v) : RepB G H' Z' d v := by
  cases d with
  | lst ds =>
    obtain ⟨a, vs, e, q, t⟩ := h
    exact ⟨a, vs, e, s.sqL q, t.sub z⟩
  | dct ks ds =>
    obtain ⟨a, u, kvs, vs, e, q, q2, t, t2⟩ := h
    exact ⟨a, u, kvs, vs, e, s.rd q, q2, t.sub z, t2.sub z⟩
  | _ => exact RepV.sub z h
def OkO (G : GC) (Z H : Hp) (s : L2.St) (F : List Addr) (d : D) (r : Env) (nm pth : Bool) (v : V) (H' : Hp) : Prop :=
  ∃ Z' F', RepB G H' Z' d v ∧ (pth = false → RepV G Z' d v) ∧ RepEnv G H' Z' r s F' ∧ Ow Z' H' F' ∧ Fr Z H F Z' H' F' ∧ (nm = true → Sub H H')
def SimO (G : GC) (X : Cx) (e : Expr) (m : OM) (nm pth : Bool) : Prop := ∀ Z H r s F, Ow Z H F → RepEnv G H Z r s F → match m r with
  | .ok d r' => wE X e s H (OkO G Z H s F d r' nm pth)
  | .exc x r' => (∀ cls d H', OkX G Z H s F x r' cls d H' → eX X cls d s H') → wE X e s H (fun _ _ => False)
  | .stuck => True
/-- a value as an operand -/
def oV (m : EM) : OM := fun r => match m r with
  | .ok o r1 => .ok (frz o) r1
  | .exc x r1 => .exc x r1
  | .stuck => .stuck
/-- the elements of a list frozen, the list owned as before -/
def settle : O → O
  | .lst os => .lst ((frzs os).map .val)
  | o => o
/-- what a path leads to as an operand: it stays owned -/
def oP (L : Nat → List Nat) (i : Nat) (ps : List Nat) : OM := fun r => match r[i]? with
  | some (some o) => match getP L o ps with
    | some (.val d) => .ok d r
    | some (.lst os) => if ownP L o ps = true then .ok (.lst (frzs os)) (r.set i (some (setP L o ps (.lst ((frzs os).map .val))))) else .stuck
    | some (.dct ks ds) => .ok (.dct ks ds) r
    | _ => .stuck
  | _ => .stuck
section
variable {G : GC} {X : Cx} {e : Expr}
theorem sim_oV {m : EM} {nm : Bool} (h : SimE G X e m nm) : SimO G X e (oV m) nm false := fun Z H r s F ow en => by
  have h1 := h Z H r s F ow en
  unfold oV
  cases em : m r with
  | stuck => trivial
  | exc x r1 => rw [em] at h1; exact h1
  | ok o r1 =>
    rw [em] at h1
    refine wE.mono h1 fun v H1 q => ?_
    obtain ⟨Z1, E, F1, a1, a2, a3, a4, a5⟩ := q.frozen
    unfold RepO at a1
    obtain ⟨a1, rfl⟩ := a1
    exact ⟨Z1, F1, a1.b a3.sub, fun _ => a1, a2, a3, a4, a5⟩
theorem sim_rd (ok : ClsOk G) {i : Nat} {ps : List Nat} (h : PthE G X e i ps) : SimE G X e (mRd G.fid i ps) true := fun Z H r s F ow en => by
  unfold mRd
  cases er : r[i]? with
  | none => trivial
  | some q =>
    cases q with
    | none => trivial
    | some o =>
      dsimp only
      cases ep : getP G.fid o ps with
      | none => trivial
      | some o' =>
        obtain ⟨v, w, F1, F2, e1, e2, a1, a2, a3⟩ := path_at ok ow en er ep
        have key : wE X e s H (OkE G Z H s F (.val (frz o')) (r.set i (some (setP G.fid o ps (.val (frz o'))))) true) ∨ ¬ ownP G.fid o ps = true := by
          by_cases hw : ownP G.fid o ps = true
          · refine .inl ((h s H v w e1 e2).mono fun u H1 ⟨eu, eH⟩ => ?_)
            subst eu eH
            obtain ⟨b1, b2, b3, b4⟩ := (ow.perm a2).freeze
            have rv := RepO.frz b2 b3 a1
            obtain ⟨F4, c1, c2⟩ := a3 hw H1 _ (.val (frz o')) [] (fun _ _ _ z => z) b2 (.ofV rv)
            exact ⟨add Z H1 F1, [], F4, .ofV rv, c1, b1.perm c2, (Fr.trans (Fr.refl.less fun b m => a2.mem_iff.mp m) b4).less fun b m => c2.mem_iff.mp m, fun _ => .refl _⟩
          · exact .inr hw
        cases o' with
        | val d =>
          refine wE.mono (h s H v w e1 e2) fun u H1 ⟨eu, eH⟩ => ?_
          subst eu eH
          unfold RepO at a1
          exact ⟨Z, [], F, .ofV a1.1, en, ow, .refl, fun _ => .refl _⟩
        | lst os =>
          dsimp only
          rcases key with k | k
          · cases hw : ownP G.fid o ps with
            | true => exact k
            | false => trivial
          · rw [if_neg k]; trivial
        | dct ks ds =>
          dsimp only
          rcases key with k | k
          · cases hw : ownP G.fid o ps with
            | true => exact k
            | false => trivial
          · rw [if_neg k]; trivial
        | ins c os =>
          dsimp only
          rcases key with k | k
          · cases hw : ownP G.fid o ps with
            | true => exact k
            | false => trivial
          · rw [if_neg k]; trivial
theorem sim_oP (ok : ClsOk G) {i : Nat} {ps : List Nat} (h : PthE G X e i ps) : SimO G X e (oP G.fid i ps) true true := fun Z H r s F ow en => by
  unfold oP
  cases er : r[i]? with
  | none => trivial
  | some q =>
    cases q with
    | none => trivial
    | some o =>
      dsimp only
      cases ep : getP G.fid o ps with
      | none => trivial
      | some o' =>
        obtain ⟨v, w, F1, F2, e1, e2, a1, a2, a3⟩ := path_at ok ow en er ep
        cases o' with
        | val d =>
          refine wE.mono (h s H v w e1 e2) fun u H1 ⟨eu, eH⟩ => ?_
          subst eu eH
          unfold RepO at a1
          exact ⟨Z, F, a1.1.b ow.sub, fun z => (by cases z), en, ow, .refl, fun _ => .refl _⟩
        | lst os =>
          dsimp only
          cases hw : ownP G.fid o ps with
          | false => trivial
          | true =>
            refine wE.mono (h s H v w e1 e2) fun u H1 ⟨eu, eH⟩ => ?_
            subst eu eH
            unfold RepO at a1
            obtain ⟨a, vs, E, rfl, b0, b1, rfl⟩ := a1
            -- the elements are frozen
            have pw : (E ++ (a :: F2)).Perm F := (List.perm_middle).trans a2
            obtain ⟨c1, c2, c3, c4⟩ := (ow.perm pw).freeze
            have rv := RepOs.frz c2 c3 b1
            obtain ⟨F4, d1, d2⟩ := a3 hw H1 _ (.lst ((frzs os).map .val)) [a] (fun _ _ _ z => z) c2 (by
              unfold RepO
              exact ⟨a, vs, [], rfl, b0, .vals rv, rfl⟩)
            exact ⟨add Z H1 E, F4, ⟨a, vs, rfl, SqL.of b0, rv⟩, fun z => (by cases z), d1, c1.perm d2, (Fr.trans (Fr.refl.less fun b m => pw.mem_iff.mp m) c4).less fun b m => d2.mem_iff.mp m, fun _ => .refl _⟩
        | dct ks ds =>
          refine wE.mono (h s H v w e1 e2) fun u H1 ⟨eu, eH⟩ => ?_
          subst eu eH
          unfold RepO at a1
          obtain ⟨a, u, kvs, vs, rfl, b0, b1, b2, b3, rfl⟩ := a1
          exact ⟨Z, F, ⟨a, u, kvs, vs, rfl, .inl b0, b1, b2, b3⟩, fun z => (by cases z), en, ow, .refl, fun _ => .refl _⟩
        | ins c os => trivial
end
/-! ### two operands -/
def m2 (a b : OM) : Env → R (D × D) := fun r => match a r with
  | .ok d r1 => match b r1 with
    | .ok e r2 => .ok (d, e) r2
    | .exc x r2 => .exc x r2
    | .stuck => .stuck
  | .exc x r1 => .exc x r1
  | .stuck => .stuck
def Ok2 (G : GC) (Z H : Hp) (s : L2.St) (F : List Addr) (d e : D) (r : Env) (nm : Bool) (v w : V) (H' : Hp) : Prop :=
  ∃ Z' F', RepB G H' Z' d v ∧ RepB G H' Z' e w ∧ RepEnv G H' Z' r s F' ∧ Ow Z' H' F' ∧ Fr Z H F Z' H' F' ∧ (nm = true → Sub H H')
section
variable {G : GC} {X : Cx} {a b : Expr} {ma mb : OM} {na nb pa pb : Bool}
theorem two (ha : SimO G X a ma na pa) (hb : SimO G X b mb nb pb) (hp : pa = true → nb = true) {Z H : Hp} {r : Env} {s : L2.St} {F : List Addr} (ow : Ow Z H F) (en : RepEnv G H Z r s F) : match m2 ma mb r with
  | .ok (d, e) r' => wE X a s H fun x H1 => wE X b s H1 fun y H2 => Ok2 G Z H s F d e r' (na && nb) x y H2
  | .exc x r' => (∀ cls d H', OkX G Z H s F x r' cls d H' → eX X cls d s H') → wE X a s H fun x H1 => wE X b s H1 fun y H2 => False
  | .stuck => True := by
  have h1 := ha Z H r s F ow en
  unfold m2
  cases em : ma r with
  | stuck => trivial
  | exc x r1 =>
    rw [em] at h1
    exact fun k => (h1 k).mono fun _ _ z => z.elim
  | ok d r1 =>
    rw [em] at h1
    dsimp only
    cases em2 : mb r1 with
    | stuck => trivial
    | exc x r2 =>
      intro k
      refine wE.mono h1 fun v H1 ⟨Z1, F1, a0, a1, a2, a3, a4, a5⟩ => ?_
      have h2 := hb Z1 H1 r1 s F1 a3 a2
      rw [em2] at h2
      exact h2 fun cls d H' q => k cls d H' (q.thenT a4)
    | ok e r2 =>
      refine wE.mono h1 fun v H1 ⟨Z1, F1, a0, a1, a2, a3, a4, a5⟩ => ?_
      have h2 := hb Z1 H1 r1 s F1 a3 a2
      rw [em2] at h2
      refine wE.mono h2 fun w H2 ⟨Z2, F2, b0, b1, b2, b3, b4, b5⟩ => ?_
      refine ⟨Z2, F2, ?_, b0, b2, b3, a4.trans b4, fun q => ?_⟩
      · cases pa with
        | true => exact a0.mono (b5 (hp rfl)) b4.zs
        | false => exact ((a1 rfl).sub b4.zs).b b3.sub
      · rw [Bool.and_eq_true] at q
        exact (a5 q.1).trans (b5 q.2)
end
/-! ### operators by values -/
def mOp2 (f : D → D → Option O) (a b : OM) : EM := fun r => match m2 a b r with
  | .ok (x, y) r1 => match f x y with
    | some o => .ok o r1
    | none => .stuck
  | .exc x r1 => .exc x r1
  | .stuck => .stuck
/-- an operator on data: what it gives is what the machine's operator gives -/
def Op2 (G : GC) (f : D → D → Option O) (rd : R2) : Prop := ∀ Z H d e v w o Q, RepB G H Z d v → RepB G H Z e w → f d e = some o → Sub Z H → (∀ u H', New G Z H o u H' → Q u H') → rd v w H Q
section
variable {G : GC} {X : Cx} {a b : Expr} {ma mb : OM} {na nb pa pb : Bool} {f : D → D → Option O} {rd : R2}
theorem two_ok {Z H : Hp} {s : L2.St} {F : List Addr} {d e : D} {r : Env} {nm : Bool} {x y : V} {H2 : Hp} {o : O} {Q : VK} (h : Ok2 G Z H s F d e r nm x y H2) (hf : Op2 G f rd) (ef : f d e = some o) (hQ : ∀ v H', OkE G Z H s F o r nm v H' → Q v H') : rd x y H2 Q := by
  obtain ⟨Z1, F1, q1, q2, a2, a3, a4, a5⟩ := h
  exact hf Z1 H2 _ _ _ _ o _ q1 q2 ef a3.sub fun u H' n => hQ _ _ (n.fin a2 a3 a4 a5)
theorem sim_op2E {E : Expr} (ha : SimO G X a ma na pa) (hb : SimO G X b mb nb pb) (hf : Op2 G f rd) (hE : PE X E (tOp rd (wE X a) (wE X b))) (hp : pa = true → nb = true) : SimE G X E (mOp2 f ma mb) (na && nb) := fun Z H r s F ow en => by
  have h := two ha hb hp ow en
  unfold mOp2
  cases em : m2 ma mb r with
  | stuck => trivial
  | exc x r1 =>
    rw [em] at h
    exact fun k => wE.of hE ((h k).mono fun _ _ z => z.mono fun _ _ z => z.elim)
  | ok p r1 =>
    rw [em] at h
    obtain ⟨d, e⟩ := p
    dsimp only at h ⊢
    cases ef : f d e with
    | none => trivial
    | some o => exact wE.of hE (h.mono fun _ _ z => z.mono fun _ _ q => two_ok q hf ef fun _ _ z => z)
theorem sim_bin {op : Operator} {pos : Pos} (ho : OpR X (binaryOp op) rd) (hf : Op2 G f rd) (ha : SimO G X a ma na pa) (hb : SimO G X b mb nb pb) (hp : pa = true → nb = true := by decide) : SimE G X (.BinOp a op b pos) (mOp2 f ma mb) (na && nb) :=
  sim_op2E ha hb hf (pe_op ho pwE pwE) hp
theorem sim_cmp {op : CmpOp} {pos : Pos} (ho : OpR X (compareOp op) rd) (hf : Op2 G f rd) (ha : SimO G X a ma na pa) (hb : SimO G X b mb nb pb) (hm : behindInMarks op b = false) (hp : pa = true → nb = true := by decide) : SimE G X (.Compare a [op] [b] pos) (mOp2 f ma mb) (na && nb) :=
  sim_op2E ha hb hf (pe_cmpR ho pwE pwE hm) hp
theorem sim_ix {pos : Pos} (ho : IxR X rd) (hf : Op2 G f rd) (ha : SimO G X a ma na pa) (hb : SimO G X b mb nb pb) (hm : PlainIx b) (hp : pa = true → nb = true := by decide) : SimE G X (.Subscript a b pos) (mOp2 f ma mb) (na && nb) :=
  sim_op2E ha hb hf (pe_ix ho pwE pwE hm) hp
end
/-- a bool's expression as a test -/
def mTst (m : EM) : TM := fun r => match m r with
  | .ok (.val (.bl b)) r1 => .ok b r1
  | .ok _ _ => .stuck
  | .exc x r1 => .exc x r1
  | .stuck => .stuck
section
variable {G : GC} {X : Cx} {e : Expr} {m : EM} {nm : Bool}
theorem tst_of {Z H : Hp} {r' : Env} {s : L2.St} {F : List Addr} {b : Bool} {v : V} {H' : Hp} (h : OkE G Z H s F (.val (.bl b)) r' nm v H') : v = .bl b ∧ OkT G Z H s F r' nm H' := by
  obtain ⟨Z1, E, F1, a1, a2, a3, a4, a5⟩ := h
  unfold RepO RepV at a1
  obtain ⟨rfl, rfl⟩ := a1
  exact ⟨rfl, Z1, F1, a2, a3, a4, a5⟩
/-- where the test's reading is the value's: hT is pt_val -/
theorem sim_tst (h : SimE G X e m nm) (hT : PT X e (tB (wE X e))) : SimT G X e (mTst m) nm := fun Z H r s F ow en => by
  have h1 := h Z H r s F ow en
  unfold mTst
  cases em : m r with
  | stuck => trivial
  | exc x r1 =>
    rw [em] at h1
    exact fun k => wT.of hT ((h1 k).mono fun _ _ z => z.elim)
  | ok o r1 =>
    rw [em] at h1
    have key : ∀ b, o = .val (.bl b) → wT X e s H (fun c H' => c = b ∧ OkT G Z H s F r1 nm H') := fun b eo => by
      subst eo
      refine wT.of hT (h1.mono fun v H1 q => ?_)
      obtain ⟨e1, q⟩ := tst_of q
      exact ⟨b, e1, rfl, q⟩
    cases o with
    | val d =>
      cases d with
      | bl b => exact key b rfl
      | _ => trivial
    | _ => trivial
theorem sim_tval (h : SimE G X e m nm) (he : ∀ whole, isTrue e X.env whole = (do let v ← whole; standAt e.pos; holding [v] (truthy v)) := by intro _; rfl) : SimT G X e (mTst m) nm := sim_tst h (pt_val pwE he)
/-- a comparison as a test -/
theorem sim_tcmp {a b : Expr} {ma mb : OM} {na nb pa pb : Bool} {f : D → D → Option O} {rd : R2} {op : CmpOp} {pos : Pos} (ho : OpR X (compareOp op) rd) (hf : Op2 G f rd) (ha : SimO G X a ma na pa) (hb : SimO G X b mb nb pb) (hm : behindInMarks op b = false) (hp : pa = true → nb = true := by decide) :
    SimT G X (.Compare a [op] [b] pos) (mTst (mOp2 f ma mb)) (na && nb) := fun Z H r s F ow en => by
  have h := two ha hb hp ow en
  have hT : PT X (.Compare a [op] [b] pos) (tTest (tOp rd (wE X a) (wE X b))) := pt_cmpR ho pwE pwE hm
  unfold mTst mOp2
  cases em : m2 ma mb r with
  | stuck => trivial
  | exc x r1 =>
    rw [em] at h
    exact fun k => wT.of hT ((h k).mono fun _ _ z => z.mono fun _ _ z => z.elim)
  | ok p r1 =>
    rw [em] at h
    obtain ⟨d, e⟩ := p
    dsimp only at h ⊢
    cases ef : f d e with
    | none => trivial
    | some o =>
      have key : ∀ b', o = .val (.bl b') → wT X (.Compare a [op] [b] pos) s H (fun c H' => c = b' ∧ OkT G Z H s F r1 (na && nb) H') := fun b' eo => by
        subst eo
        refine wT.of hT (h.mono fun _ _ z => z.mono fun x H2 q => two_ok q hf ef fun v H' q => ?_)
        obtain ⟨e1, q⟩ := tst_of q
        exact ⟨b', e1, rfl, q⟩
      cases o with
      | val d =>
        cases d with
        | bl b => exact key b rfl
        | _ => trivial
      | _ => trivial
end
end PL
set_option Elab.async false
set_option linter.all false
set_option maxRecDepth 100000
set_option maxHeartbeats 1000000
namespace PL
open PySem PySem.Spec PyProof.Rows L2

/-! ### tests: and, or, not -/
def wW (X : Cx) (e : Expr) : TT := fun s H Q => ∀ whole pins t, Inv X pins s H t → wpAny (model X.prog X.w) X.A (isTrue e X.env whole) (TP X pins s Q) X.xe t
theorem pwW {X : Cx} {e : Expr} : PW X e (wW X e) := ⟨fun whole pins t s H Q I h => h whole pins t I⟩
theorem wW.of {X : Cx} {e : Expr} {s : L2.St} {H : Hp} {t : TT} {Q : Bool → Hp → Prop} (h : PW X e t) (q : t s H Q) : wW X e s H Q := fun whole pins u I => h.run whole pins u s H Q I q
theorem wW.mono {X : Cx} {e : Expr} {s : L2.St} {H : Hp} {Q Q' : Bool → Hp → Prop} (h : wW X e s H Q) (k : ∀ v H', Q v H' → Q' v H') : wW X e s H Q' := fun whole pins u I =>
  thn (h whole pins u I) fun a t ⟨H', I', q⟩ => ⟨H', I', k a H' q⟩
def SimW (G : GC) (X : Cx) (e : Expr) (m : TM) (nm : Bool) : Prop := ∀ Z H r s F, Ow Z H F → RepEnv G H Z r s F → match m r with
  | .ok b r' => wW X e s H (fun c H' => c = b ∧ OkT G Z H s F r' nm H')
  | .exc x r' => (∀ cls d H', OkX G Z H s F x r' cls d H' → eX X cls d s H') → wW X e s H (fun _ _ => False)
  | .stuck => True
def mAnd (a b : TM) : TM := fun r => match a r with
  | .ok true r1 => b r1
  | .ok false r1 => .ok false r1
  | .exc x r1 => .exc x r1
  | .stuck => .stuck
def mOr (a b : TM) : TM := fun r => match a r with
  | .ok true r1 => .ok true r1
  | .ok false r1 => b r1
  | .exc x r1 => .exc x r1
  | .stuck => .stuck
def mNot (a : TM) : TM := fun r => match a r with
  | .ok c r1 => .ok (!c) r1
  | .exc x r1 => .exc x r1
  | .stuck => .stuck
theorem OkT.then {G : GC} {Z H Z1 H1 : Hp} {s : L2.St} {F F1 : List Addr} {r' : Env} {nm nm1 : Bool} {H2 : Hp} (a4 : Fr Z H F Z1 H1 F1) (a5 : nm = true → Sub H H1)
    (h : OkT G Z1 H1 s F1 r' nm1 H2) : OkT G Z H s F r' (nm && nm1) H2 := by
  obtain ⟨Z2, F2, b1, b2, b3, b4⟩ := h
  refine ⟨Z2, F2, b1, b2, a4.trans b3, fun q => ?_⟩
  rw [Bool.and_eq_true] at q
  exact (a5 q.1).trans (b4 q.2)
theorem OkT.weak {G : GC} {Z H : Hp} {s : L2.St} {F : List Addr} {r' : Env} {nm nm1 : Bool} {H2 : Hp} (h : OkT G Z H s F r' nm H2) : OkT G Z H s F r' (nm && nm1) H2 := by
  obtain ⟨Z2, F2, b1, b2, b3, b4⟩ := h
  exact ⟨Z2, F2, b1, b2, b3, fun q => b4 (Bool.and_eq_true _ _ ▸ q).1⟩
section
variable {G : GC} {X : Cx} {a b : Expr} {es : List Expr} {ma mb : TM} {na nb : Bool} {pos : Pos}
theorem sim_w2t (h : SimW G X a ma na) : SimT G X a ma na := fun Z H r s F ow en => by
  have h1 := h Z H r s F ow en
  cases em : ma r with
  | stuck => trivial
  | exc x r1 =>
    rw [em] at h1
    exact fun k => wT.of pwW.pt (h1 k)
  | ok c r1 =>
    rw [em] at h1
    exact wT.of pwW.pt h1
theorem sim_and1 (h : SimT G X a ma na) : SimW G X (.BoolOp .And [a] pos) ma na := fun Z H r s F ow en => by
  have h1 := h Z H r s F ow en
  cases em : ma r with
  | stuck => trivial
  | exc x r1 =>
    rw [em] at h1
    exact fun k => wW.of (pw_and1 pwT) (h1 k)
  | ok c r1 =>
    rw [em] at h1
    exact wW.of (pw_and1 pwT) h1
theorem sim_or1 (h : SimT G X a ma na) : SimW G X (.BoolOp .Or [a] pos) ma na := fun Z H r s F ow en => by
  have h1 := h Z H r s F ow en
  cases em : ma r with
  | stuck => trivial
  | exc x r1 =>
    rw [em] at h1
    exact fun k => wW.of (pw_or1 pwT) (h1 k)
  | ok c r1 =>
    rw [em] at h1
    exact wW.of (pw_or1 pwT) h1
theorem sim_and (ha : SimT G X a ma na) (hb : SimW G X (.BoolOp .And (b :: es) pos) mb nb) : SimW G X (.BoolOp .And (a :: b :: es) pos) (mAnd ma mb) (na && nb) := fun Z H r s F ow en => by
  have h1 := ha Z H r s F ow en
  unfold mAnd
  cases em : ma r with
  | stuck => trivial
  | exc x r1 =>
    rw [em] at h1
    exact fun k => wW.of (pw_and pwT pwW) ((h1 k).mono fun _ _ z => z.elim)
  | ok c r1 =>
    rw [em] at h1
    cases c with
    | false => exact wW.of (pw_and pwT pwW) (h1.mono fun v H1 ⟨e, q⟩ => by subst e; exact iteF ⟨rfl, q.weak⟩)
    | true =>
      dsimp only
      cases em2 : mb r1 with
      | stuck => trivial
      | exc x r2 =>
        intro k
        refine wW.of (pw_and pwT pwW) (h1.mono fun v H1 ⟨e, Z1, F1, b1, b2, b3, b4⟩ => ?_)
        subst e
        have h2 := hb Z1 H1 r1 s F1 b2 b1
        rw [em2] at h2
        exact iteT ((h2 fun cls d H' q => k cls d H' (q.thenT b3)).mono fun _ _ z => z.elim)
      | ok d r2 =>
        refine wW.of (pw_and pwT pwW) (h1.mono fun v H1 ⟨e, Z1, F1, b1, b2, b3, b4⟩ => ?_)
        subst e
        have h2 := hb Z1 H1 r1 s F1 b2 b1
        rw [em2] at h2
        exact iteT (wW.mono h2 fun v H2 ⟨e, q⟩ => ⟨e, q.then b3 b4⟩)
theorem sim_or (ha : SimT G X a ma na) (hb : SimW G X (.BoolOp .Or (b :: es) pos) mb nb) : SimW G X (.BoolOp .Or (a :: b :: es) pos) (mOr ma mb) (na && nb) := fun Z H r s F ow en => by
  have h1 := ha Z H r s F ow en
  unfold mOr
  cases em : ma r with
  | stuck => trivial
  | exc x r1 =>
    rw [em] at h1
    exact fun k => wW.of (pw_or pwT pwW) ((h1 k).mono fun _ _ z => z.elim)
  | ok c r1 =>
    rw [em] at h1
    cases c with
    | true => exact wW.of (pw_or pwT pwW) (h1.mono fun v H1 ⟨e, q⟩ => by subst e; exact iteT ⟨rfl, q.weak⟩)
    | false =>
      dsimp only
      cases em2 : mb r1 with
      | stuck => trivial
      | exc x r2 =>
        intro k
        refine wW.of (pw_or pwT pwW) (h1.mono fun v H1 ⟨e, Z1, F1, b1, b2, b3, b4⟩ => ?_)
        subst e
        have h2 := hb Z1 H1 r1 s F1 b2 b1
        rw [em2] at h2
        exact iteF ((h2 fun cls d H' q => k cls d H' (q.thenT b3)).mono fun _ _ z => z.elim)
      | ok d r2 =>
        refine wW.of (pw_or pwT pwW) (h1.mono fun v H1 ⟨e, Z1, F1, b1, b2, b3, b4⟩ => ?_)
        subst e
        have h2 := hb Z1 H1 r1 s F1 b2 b1
        rw [em2] at h2
        exact iteF (wW.mono h2 fun v H2 ⟨e, q⟩ => ⟨e, q.then b3 b4⟩)
theorem sim_not (ha : SimT G X a ma na) : SimT G X (.UnaryOp .Not a pos) (mNot ma) na := fun Z H r s F ow en => by
  have h1 := ha Z H r s F ow en
  unfold mNot
  cases em : ma r with
  | stuck => trivial
  | exc x r1 =>
    rw [em] at h1
    exact fun k => wT.of (pt_not pwT) ((h1 k).mono fun _ _ z => z.elim)
  | ok c r1 =>
    rw [em] at h1
    exact wT.of (pt_not pwT) (h1.mono fun v H1 ⟨e, q⟩ => ⟨by rw [e], q⟩)
end
/-! ### and, or, not, if as values -/
def mAndV (a b : EM) : EM := fun r => match a r with
  | .ok (.val (.bl true)) r1 => b r1
  | .ok (.val (.bl false)) r1 => .ok (.val (.bl false)) r1
  | .ok _ _ => .stuck
  | .exc x r1 => .exc x r1
  | .stuck => .stuck
def mOrV (a b : EM) : EM := fun r => match a r with
  | .ok (.val (.bl true)) r1 => .ok (.val (.bl true)) r1
  | .ok (.val (.bl false)) r1 => b r1
  | .ok _ _ => .stuck
  | .exc x r1 => .exc x r1
  | .stuck => .stuck
def mNotV (a : EM) : EM := fun r => match a r with
  | .ok (.val (.bl c)) r1 => .ok (.val (.bl (!c))) r1
  | .ok _ _ => .stuck
  | .exc x r1 => .exc x r1
  | .stuck => .stuck
def mIf (c : TM) (a b : EM) : EM := fun r => match c r with
  | .ok true r1 => a r1
  | .ok false r1 => b r1
  | .exc x r1 => .exc x r1
  | .stuck => .stuck
theorem OkE.thenT {G : GC} {Z H Z1 H1 : Hp} {s : L2.St} {F F1 : List Addr} {o : O} {v : V} {r' : Env} {nm nm1 : Bool} {H2 : Hp} (a4 : Fr Z H F Z1 H1 F1) (a5 : nm = true → Sub H H1)
    (h : OkE G Z1 H1 s F1 o r' nm1 v H2) : OkE G Z H s F o r' (nm && nm1) v H2 := by
  obtain ⟨Z2, E2, F2, b0, b1, b2, b3, b4⟩ := h
  refine ⟨Z2, E2, F2, b0, b1, b2, a4.trans b3, fun q => ?_⟩
  rw [Bool.and_eq_true] at q
  exact (a5 q.1).trans (b4 q.2)
theorem OkE.weak {G : GC} {Z H : Hp} {s : L2.St} {F : List Addr} {o : O} {v : V} {r' : Env} {nm nm1 : Bool} {H2 : Hp} (h : OkE G Z H s F o r' nm v H2) (k : nm1 = true → nm = true) : OkE G Z H s F o r' nm1 v H2 := by
  obtain ⟨Z2, E2, F2, b0, b1, b2, b3, b4⟩ := h
  exact ⟨Z2, E2, F2, b0, b1, b2, b3, fun q => b4 (k q)⟩
theorem and_l {a b : Bool} (h : (a && b) = true) : a = true := (Bool.and_eq_true _ _ ▸ h).1
theorem and_r {a b : Bool} (h : (a && b) = true) : b = true := (Bool.and_eq_true _ _ ▸ h).2
section
variable {G : GC} {X : Cx} {a b c : Expr} {es : List Expr} {ma mb : EM} {mc : TM} {na nb nc : Bool} {pos : Pos}
theorem sim_one {op : BoolOp} (h : SimE G X a ma na) : SimE G X (.BoolOp op [a] pos) ma na := fun Z H r s F ow en => by
  have h1 := h Z H r s F ow en
  cases em : ma r with
  | stuck => trivial
  | exc x r1 =>
    rw [em] at h1
    exact fun k => wE.of (pe_one pwE) (h1 k)
  | ok c r1 =>
    rw [em] at h1
    exact wE.of (pe_one pwE) h1
/-- behind the first of two: the second goes on -/
theorem go_on {Z H Z1 H1 : Hp} {r1 : Env} {s : L2.St} {F F1 : List Addr} {e : Expr} {m : EM} {nm nm1 : Bool} (hb : SimE G X e m nm1) (b1 : RepEnv G H1 Z1 r1 s F1) (b2 : Ow Z1 H1 F1) (b3 : Fr Z H F Z1 H1 F1) (b4 : nm = true → Sub H H1) : match m r1 with
  | .ok o r' => wE X e s H1 (OkE G Z H s F o r' (nm && nm1))
  | .exc x r' => (∀ cls d H', OkX G Z H s F x r' cls d H' → eX X cls d s H') → wE X e s H1 (fun _ _ => False)
  | .stuck => True := by
  have h2 := hb Z1 H1 r1 s F1 b2 b1
  cases em : m r1 with
  | stuck => trivial
  | exc x r2 =>
    rw [em] at h2
    exact fun k => h2 fun cls d H' q => k cls d H' (q.thenT b3)
  | ok o r2 =>
    rw [em] at h2
    exact wE.mono h2 fun v H2 q => q.thenT b3 b4
theorem sim_andV (ha : SimE G X a ma na) (hb : SimE G X (.BoolOp .And (b :: es) pos) mb nb) : SimE G X (.BoolOp .And (a :: b :: es) pos) (mAndV ma mb) (na && nb) := fun Z H r s F ow en => by
  have h1 := ha Z H r s F ow en
  unfold mAndV
  cases em : ma r with
  | stuck => trivial
  | exc x r1 =>
    rw [em] at h1
    exact fun k => wE.of (pe_and pwE pwE) ((h1 k).mono fun _ _ z => z.elim)
  | ok o r1 =>
    rw [em] at h1
    have key : ∀ c, o = .val (.bl c) → match (if c = true then mb r1 else .ok (.val (.bl false)) r1) with
        | .ok o r' => wE X (.BoolOp .And (a :: b :: es) pos) s H (OkE G Z H s F o r' (na && nb))
        | .exc x r' => (∀ cls d H', OkX G Z H s F x r' cls d H' → eX X cls d s H') → wE X (.BoolOp .And (a :: b :: es) pos) s H (fun _ _ => False)
        | .stuck => True := fun c e => by
      subst e
      cases c with
      | false =>
        rw [if_neg Bool.false_ne_true]
        refine wE.of (pe_and pwE pwE) (wE.mono h1 fun v H1 q => ?_)
        obtain ⟨e1, _⟩ := tst_of q
        subst e1
        exact ⟨false, rfl, iteF (q.weak and_l)⟩
      | true =>
        rw [if_pos rfl]
        have h2 : ∀ {Z1 H1 : Hp} {F1 : List Addr}, _ := fun {Z1 H1 : Hp} {F1 : List Addr} (b1 : RepEnv G H1 Z1 r1 s F1) (b2 : Ow Z1 H1 F1) (b3 : Fr Z H F Z1 H1 F1) (b4 : na = true → Sub H H1) => go_on (G := G) (X := X) hb b1 b2 b3 b4
        cases em2 : mb r1 with
        | stuck => trivial
        | exc x r2 =>
          intro k
          refine wE.of (pe_and pwE pwE) (wE.mono h1 fun v H1 q => ?_)
          obtain ⟨e1, Z1, F1, b1, b2, b3, b4⟩ := tst_of q
          subst e1
          have h3 := h2 b1 b2 b3 b4
          rw [em2] at h3
          exact ⟨true, rfl, iteT ((h3 k).mono fun _ _ z => z.elim)⟩
        | ok o2 r2 =>
          refine wE.of (pe_and pwE pwE) (wE.mono h1 fun v H1 q => ?_)
          obtain ⟨e1, Z1, F1, b1, b2, b3, b4⟩ := tst_of q
          subst e1
          have h3 := h2 b1 b2 b3 b4
          rw [em2] at h3
          exact ⟨true, rfl, iteT h3⟩
    cases o with
    | val d =>
      cases d with
      | bl c =>
        cases c with
        | true =>
          have h := key true rfl
          rw [if_pos rfl] at h
          dsimp only
          cases em2 : mb r1 with
          | stuck => trivial
          | exc x r2 => rw [em2] at h; exact h
          | ok o2 r2 => rw [em2] at h; exact h
        | false =>
          have h := key false rfl
          rw [if_neg Bool.false_ne_true] at h
          exact h
      | _ => trivial
    | _ => trivial
theorem sim_orV (ha : SimE G X a ma na) (hb : SimE G X (.BoolOp .Or (b :: es) pos) mb nb) : SimE G X (.BoolOp .Or (a :: b :: es) pos) (mOrV ma mb) (na && nb) := fun Z H r s F ow en => by
  have h1 := ha Z H r s F ow en
  unfold mOrV
  cases em : ma r with
  | stuck => trivial
  | exc x r1 =>
    rw [em] at h1
    exact fun k => wE.of (pe_or pwE pwE) ((h1 k).mono fun _ _ z => z.elim)
  | ok o r1 =>
    rw [em] at h1
    have key : ∀ c, o = .val (.bl c) → match (if c = true then .ok (.val (.bl true)) r1 else mb r1) with
        | .ok o r' => wE X (.BoolOp .Or (a :: b :: es) pos) s H (OkE G Z H s F o r' (na && nb))
        | .exc x r' => (∀ cls d H', OkX G Z H s F x r' cls d H' → eX X cls d s H') → wE X (.BoolOp .Or (a :: b :: es) pos) s H (fun _ _ => False)
        | .stuck => True := fun c e => by
      subst e
      cases c with
      | true =>
        rw [if_pos rfl]
        refine wE.of (pe_or pwE pwE) (wE.mono h1 fun v H1 q => ?_)
        obtain ⟨e1, _⟩ := tst_of q
        subst e1
        exact ⟨true, rfl, iteT (q.weak and_l)⟩
      | false =>
        rw [if_neg Bool.false_ne_true]
        have h2 : ∀ {Z1 H1 : Hp} {F1 : List Addr}, _ := fun {Z1 H1 : Hp} {F1 : List Addr} (b1 : RepEnv G H1 Z1 r1 s F1) (b2 : Ow Z1 H1 F1) (b3 : Fr Z H F Z1 H1 F1) (b4 : na = true → Sub H H1) => go_on (G := G) (X := X) hb b1 b2 b3 b4
        cases em2 : mb r1 with
        | stuck => trivial
        | exc x r2 =>
          intro k
          refine wE.of (pe_or pwE pwE) (wE.mono h1 fun v H1 q => ?_)
          obtain ⟨e1, Z1, F1, b1, b2, b3, b4⟩ := tst_of q
          subst e1
          have h3 := h2 b1 b2 b3 b4
          rw [em2] at h3
          exact ⟨false, rfl, iteF ((h3 k).mono fun _ _ z => z.elim)⟩
        | ok o2 r2 =>
          refine wE.of (pe_or pwE pwE) (wE.mono h1 fun v H1 q => ?_)
          obtain ⟨e1, Z1, F1, b1, b2, b3, b4⟩ := tst_of q
          subst e1
          have h3 := h2 b1 b2 b3 b4
          rw [em2] at h3
          exact ⟨false, rfl, iteF h3⟩
    cases o with
    | val d =>
      cases d with
      | bl c =>
        cases c with
        | true =>
          have h := key true rfl
          rw [if_pos rfl] at h
          exact h
        | false =>
          have h := key false rfl
          rw [if_neg Bool.false_ne_true] at h
          dsimp only
          cases em2 : mb r1 with
          | stuck => trivial
          | exc x r2 => rw [em2] at h; exact h
          | ok o2 r2 => rw [em2] at h; exact h
      | _ => trivial
    | _ => trivial
theorem sim_notV (ha : SimE G X a ma na) : SimE G X (.UnaryOp .Not a pos) (mNotV ma) na := fun Z H r s F ow en => by
  have h1 := ha Z H r s F ow en
  unfold mNotV
  cases em : ma r with
  | stuck => trivial
  | exc x r1 =>
    rw [em] at h1
    exact fun k => wE.of (pe_not pwE) ((h1 k).mono fun _ _ z => z.elim)
  | ok o r1 =>
    rw [em] at h1
    have key : ∀ c, o = .val (.bl c) → wE X (.UnaryOp .Not a pos) s H (OkE G Z H s F (.val (.bl (!c))) r1 na) := fun c e => by
      subst e
      refine wE.of (pe_not pwE) (wE.mono h1 fun v H1 q => ?_)
      obtain ⟨e1, Z1, F1, b1, b2, b3, b4⟩ := tst_of q
      subst e1
      exact ⟨c, rfl, Z1, [], F1, .ofV (by unfold RepV; rfl), b1, b2, b3, b4⟩
    cases o with
    | val d =>
      cases d with
      | bl c => exact key c rfl
      | _ => trivial
    | _ => trivial
theorem sim_if (hc : SimT G X c mc nc) (ha : SimE G X a ma na) (hb : SimE G X b mb nb) : SimE G X (.IfExp c a b pos) (mIf mc ma mb) (nc && (na && nb)) := fun Z H r s F ow en => by
  have h1 := hc Z H r s F ow en
  unfold mIf
  cases em : mc r with
  | stuck => trivial
  | exc x r1 =>
    rw [em] at h1
    exact fun k => wE.of (pe_ifExp pwT pwE pwE) ((h1 k).mono fun _ _ z => z.elim)
  | ok d r1 =>
    rw [em] at h1
    cases d with
    | true =>
      dsimp only
      cases em2 : ma r1 with
      | stuck => trivial
      | exc x r2 =>
        intro k
        refine wE.of (pe_ifExp pwT pwE pwE) (h1.mono fun v H1 ⟨e, Z1, F1, b1, b2, b3, b4⟩ => ?_)
        subst e
        have h3 := go_on (nm := nc) ha b1 b2 b3 b4
        rw [em2] at h3
        exact iteT (h3 k)
      | ok o2 r2 =>
        refine wE.of (pe_ifExp pwT pwE pwE) (h1.mono fun v H1 ⟨e, Z1, F1, b1, b2, b3, b4⟩ => ?_)
        subst e
        have h3 := go_on (nm := nc) ha b1 b2 b3 b4
        rw [em2] at h3
        exact iteT (wE.mono h3 fun _ _ q => q.weak fun z => by rw [and_l z, and_l (and_r z)]; rfl)
    | false =>
      dsimp only
      cases em2 : mb r1 with
      | stuck => trivial
      | exc x r2 =>
        intro k
        refine wE.of (pe_ifExp pwT pwE pwE) (h1.mono fun v H1 ⟨e, Z1, F1, b1, b2, b3, b4⟩ => ?_)
        subst e
        have h3 := go_on (nm := nc) hb b1 b2 b3 b4
        rw [em2] at h3
        exact iteF (h3 k)
      | ok o2 r2 =>
        refine wE.of (pe_ifExp pwT pwE pwE) (h1.mono fun v H1 ⟨e, Z1, F1, b1, b2, b3, b4⟩ => ?_)
        subst e
        have h3 := go_on (nm := nc) hb b1 b2 b3 b4
        rw [em2] at h3
        exact iteF (wE.mono h3 fun _ _ q => q.weak fun z => by rw [and_l z, and_r (and_r z)]; rfl)
end
/-! ### one operand -/
def mOp1 (f : D → Option O) (a : OM) : EM := fun r => match a r with
  | .ok d r1 => match f d with
    | some o => .ok o r1
    | none => .stuck
  | .exc x r1 => .exc x r1
  | .stuck => .stuck
def mTr (f : D → Option Bool) (a : OM) : TM := fun r => match a r with
  | .ok d r1 => match f d with
    | some o => .ok o r1
    | none => .stuck
  | .exc x r1 => .exc x r1
  | .stuck => .stuck
/-- a function on data is what the machine's is -/
def Op1 (G : GC) (f : D → Option O) (rd : V → Hp → VK → Prop) : Prop := ∀ Z H d v o Q, RepB G H Z d v → f d = some o → Sub Z H → (∀ u H', New G Z H o u H' → Q u H') → rd v H Q
section
variable {G : GC} {X : Cx} {a : Expr} {ma : OM} {na pa : Bool} {f : D → Option O} {rd : V → Hp → VK → Prop}
theorem sim_op1E {E : Expr} (ha : SimO G X a ma na pa) (hf : Op1 G f rd) (hE : PE X E (fun s H Q => wE X a s H fun x H1 => rd x H1 Q)) : SimE G X E (mOp1 f ma) na := fun Z H r s F ow en => by
  have h := ha Z H r s F ow en
  unfold mOp1
  cases em : ma r with
  | stuck => trivial
  | exc x r1 =>
    rw [em] at h
    exact fun k => wE.of hE ((h k).mono fun _ _ z => z.elim)
  | ok d r1 =>
    rw [em] at h
    dsimp only
    cases ef : f d with
    | none => trivial
    | some o => exact wE.of hE (wE.mono h fun v H1 ⟨Z1, F1, a0, a1, a2, a3, a4, a5⟩ => hf Z1 H1 d v o _ a0 ef a3.sub fun u H' n => n.fin a2 a3 a4 a5)
theorem sim_un {op : UnaryOp} {pos : Pos} (ho : UnR X (unaryOp op) rd) (hf : Op1 G f rd) (ha : SimO G X a ma na pa) : SimE G X (.UnaryOp op a pos) (mOp1 f ma) na := sim_op1E ha hf (pe_un ho pwE)
theorem sim_callB1 {x : Str} {id : String} {p pos : Pos} {rl : List V → Hp → VK → Prop} (hc : CallR X (.builtin id) rl) (hr : ∀ v H Q, rd v H Q → rl [v] H Q) (hf : Op1 G f rd) (ha : SimO G X a ma na pa) (hg : Gl X x) (hm : X.mg x = none) (hv : bootBuiltins x = some (.builtin id)) (hn : x ≠ "__name__" := by decide) (hdb : (x == ("__debug__" : Str)) = false := by decide)
    (he : starEach [a] X.env = (false, eval a X.env) :: starEach [] X.env := by rfl) (hpl : (backTo pos (starEach [] X.env)).any (·.1) = false := by rfl) : SimE G X (.Call (.Name x p) [a] [] pos) (mOp1 f ma) na :=
  sim_op1E ha hf ⟨fun pins t s H Q I h => (pe_callB hc hg hm hv (pa_cons pwE pa_nil he) hn hdb he hpl).run pins t s H Q I (wE.mono h fun v H' q => hr v H' Q q)⟩
theorem sim_callT1 {x : Str} {T : String} {p pos : Pos} {rl : List V → Hp → VK → Prop} (hc : CallR X (.type T) rl) (hr : ∀ v H Q, rd v H Q → rl [v] H Q) (hf : Op1 G f rd) (ha : SimO G X a ma na pa) (hg : Gl X x) (hm : X.mg x = none) (hv : bootBuiltins x = some (.type T)) (hn : x ≠ "__name__" := by decide) (hdb : (x == ("__debug__" : Str)) = false := by decide)
    (he : starEach [a] X.env = (false, eval a X.env) :: starEach [] X.env := by rfl) (hpl : (backTo pos (starEach [] X.env)).any (·.1) = false := by rfl) : SimE G X (.Call (.Name x p) [a] [] pos) (mOp1 f ma) na :=
  sim_op1E ha hf ⟨fun pins t s H Q I h => (pe_callTy hc hg hm hv (pa_cons pwE pa_nil he) hn hdb he hpl).run pins t s H Q I (wE.mono h fun v H' q => hr v H' Q q)⟩
/-! ### truth of any value -/
def strOk (x : Str) : Bool := decide (x.length ≤ 16777216)
theorem strOk_le {x : Str} (h : strOk x = true) : x.length ≤ sizeLine := by rw [sizeLine_eq]; exact of_decide_eq_true h
def truD : D → Option Bool
  | .non => some false
  | .bl b => some b
  | .int i => some (i != 0)
  | .str x => if strOk x = true then some (x.length != 0) else none
  | .tup ds => some (!ds.isEmpty)
  | .lst ds => some (!ds.isEmpty)
  | _ => none
theorem isEmpty_reps {Z : Hp} {ds : List D} {vs : List V} (h : RepVs G Z ds vs) : vs.isEmpty = ds.isEmpty := by
  have := h.length
  cases ds <;> cases vs <;> simp_all
theorem tru_of {Z H : Hp} {d : D} {v : V} {k : Bool} (h : RepB G H Z d v) (s : Sub Z H) (e : truD d = some k) : TruV G.K v H k := by
  cases d with
  | non => unfold RepB RepV at h; subst h; cases e; rfl
  | bl b => unfold RepB RepV at h; subst h; cases e; rfl
  | int i => unfold RepB RepV at h; subst h; cases e; rfl
  | str x =>
    unfold RepB RepV at h; subst h
    unfold truD at e
    dsimp only at e
    cases ho : strOk x with
    | false => rw [ho] at e; cases e
    | true =>
      rw [ho, if_pos rfl] at e
      cases e
      refine ⟨strOk_le ho, ?_⟩
      cases hx : x.length with
      | zero => rfl
      | succ n => simp; omega
  | tup ds =>
    unfold RepB RepV at h
    obtain ⟨a, vs, rfl, q, t⟩ := h
    cases e
    exact .inr (.inl ⟨vs, s.sqT q, by rw [isEmpty_reps t]⟩)
  | lst ds =>
    obtain ⟨a, vs, rfl, q, t⟩ := h
    cases e
    exact .inl ⟨vs, q, by rw [isEmpty_reps t]⟩
  | dct ks ds => cases e
  | ins c ds => cases e
theorem sim_tru (hK : X.K = G.K) (ha : SimO G X a ma na pa) (he : ∀ whole, isTrue a X.env whole = (do let v ← whole; standAt a.pos; holding [v] (truthy v)) := by intro _; rfl) : SimT G X a (mTr truD ma) na := fun Z H r s F ow en => by
  have h := ha Z H r s F ow en
  unfold mTr
  cases em : ma r with
  | stuck => trivial
  | exc x r1 =>
    rw [em] at h
    exact fun k => wT.of (pt_truth pwE he) ((h k).mono fun _ _ z => z.elim)
  | ok d r1 =>
    rw [em] at h
    dsimp only
    cases ef : truD d with
    | none => trivial
    | some k =>
      refine wT.of (pt_truth pwE he) (wE.mono h fun v H1 ⟨Z1, F1, a0, a1, a2, a3, a4, a5⟩ => ⟨k, ?_, rfl, Z1, F1, a2, a3, a4, a5⟩)
      rw [hK]
      exact tru_of a0 a3.sub ef
end
/-! ### isinstance with a built-in type -/
def tyD : D → Option String
  | .non => some "NoneType"
  | .bl _ => some "bool"
  | .int _ => some "int"
  | .str _ => some "str"
  | .tup _ => some "tuple"
  | .lst _ => some "list"
  | _ => none
def isiD (T : String) (d : D) : Option O := match tyD d with
  | some t => (kitB t T).map fun b => .val (.bl b)
  | none => none
end PL
set_option Elab.async false
set_option linter.all false
set_option maxRecDepth 100000
set_option maxHeartbeats 1000000
namespace PL
open PySem PySem.Spec PyProof.Rows L2

/-! ### statements -/
inductive Out where
  | nx (r : Env)
  | ret (o : O) (r : Env)
  | brk (r : Env)
  | ct (r : Env)
  | exc (x : Exc) (r : Env)
  | stuck
abbrev SM := Env → Out
def Keep (M : List Nat) (s s' : L2.St) : Prop := ∀ i ∈ M, s'[i]? = s[i]?
theorem Keep.refl {M : List Nat} {s : L2.St} : Keep M s s := fun _ _ => rfl
theorem Keep.trans {M : List Nat} {s s1 s2 : L2.St} (a : Keep M s s1) (b : Keep M s1 s2) : Keep M s s2 := fun i m => (b i m).trans (a i m)
theorem Keep.set {M : List Nat} {s : L2.St} {i : Nat} {x : Option V} (h : M.contains i = false) : Keep M s (s.set i x) := fun j m => by
  have ne : i ≠ j := fun e => by
    subst e
    rw [List.contains_iff_mem.mpr m] at h
    cases h
  exact List.getElem?_set_ne ne
section
variable (G : GC) (M : List Nat) (Z H : Hp) (s : L2.St) (F : List Addr)
def OkS (r : Env) (s' : L2.St) (H' : Hp) : Prop := ∃ Z' F', RepEnv G H' Z' r s' F' ∧ Ow Z' H' F' ∧ Fr Z H F Z' H' F' ∧ Keep M s s'
def OkR (o : O) (r : Env) (v : V) (H' : Hp) : Prop := ∃ Z' E F' s', RepO G H' Z' o v E ∧ RepEnv G H' Z' r s' F' ∧ Ow Z' H' (E ++ F') ∧ Fr Z H F Z' H' (E ++ F') ∧ Keep M s s'
def endsOf (out : Out) : Ends where
  nx := fun s' H' => match out with
    | .nx r => OkS G M Z H s F r s' H'
    | _ => False
  rt := fun v H' => match out with
    | .ret o r => OkR G M Z H s F o r v H'
    | _ => False
  bk := fun s' H' => match out with
    | .brk r => OkS G M Z H s F r s' H'
    | _ => False
  ct := fun s' H' => match out with
    | .ct r => OkS G M Z H s F r s' H'
    | _ => False
def excOf (X : Cx) (out : Out) : Prop := match out with
  | .exc x r => ∀ cls d s' H', Keep M s s' → OkX G Z H s' F x r cls d H' → eX X cls d s' H'
  | _ => True
end
def SimS (G : GC) (X : Cx) (M : List Nat) (st : Stmt) (m : SM) : Prop := ∀ Z H r s F, Ow Z H F → RepEnv G H Z r s F → m r ≠ .stuck → excOf G M Z H s F X (m r) → wS X st (endsOf G M Z H s F (m r)) s H
def SimSs (G : GC) (X : Cx) (M : List Nat) (st : List Stmt) (m : SM) : Prop := ∀ Z H r s F, Ow Z H F → RepEnv G H Z r s F → m r ≠ .stuck → excOf G M Z H s F X (m r) → wSs X st (endsOf G M Z H s F (m r)) s H
section
variable {G : GC} {X : Cx} {M : List Nat} {Z H Z1 H1 : Hp} {s s1 : L2.St} {F F1 : List Addr}
theorem OkS.from' {r : Env} {s' : L2.St} {H' : Hp} (f : Fr Z H F Z1 H1 F1) (k : Keep M s s1) (h : OkS G M Z1 H1 s1 F1 r s' H') : OkS G M Z H s F r s' H' := by
  obtain ⟨Z2, F2, a1, a2, a3, a4⟩ := h
  exact ⟨Z2, F2, a1, a2, f.trans a3, k.trans a4⟩
theorem OkR.from' {o : O} {r : Env} {v : V} {H' : Hp} (f : Fr Z H F Z1 H1 F1) (k : Keep M s s1) (h : OkR G M Z1 H1 s1 F1 o r v H') : OkR G M Z H s F o r v H' := by
  obtain ⟨Z2, E2, F2, s2, a0, a1, a2, a3, a4⟩ := h
  exact ⟨Z2, E2, F2, s2, a0, a1, a2, f.trans a3, k.trans a4⟩
theorem ends_from (f : Fr Z H F Z1 H1 F1) (k : Keep M s s1) (out : Out) : Ends.Le (endsOf G M Z1 H1 s1 F1 out) (endsOf G M Z H s F out) := by
  refine ⟨fun s' H' h => ?_, fun v H' h => ?_, fun s' H' h => ?_, fun s' H' h => ?_⟩
  · cases out with
    | nx r => exact OkS.from' f k h
    | _ => exact h
  · cases out with
    | ret o r => exact OkR.from' f k h
    | _ => exact h
  · cases out with
    | brk r => exact OkS.from' f k h
    | _ => exact h
  · cases out with
    | ct r => exact OkS.from' f k h
    | _ => exact h
theorem exc_from (f : Fr Z H F Z1 H1 F1) (k : Keep M s s1) (out : Out) (h : excOf G M Z H s F X out) : excOf G M Z1 H1 s1 F1 X out := by
  cases out with
  | exc x r => exact fun cls d s' H' k1 q => h cls d s' H' (k.trans k1) (q.thenT f)
  | _ => trivial
/-- what an expression lets out -/
theorem exc_e {x : Exc} {r : Env} (h : excOf G M Z H s F X (.exc x r)) : ∀ cls d H', OkX G Z H s F x r cls d H' → eX X cls d s H' := fun cls d H' q => h cls d s H' .refl q
end
/-! ### in a row -/
def mSkip : SM := fun r => .nx r
def mSeq (m ms : SM) : SM := fun r => match m r with
  | .nx r1 => ms r1
  | o => o
section
variable {G : GC} {X : Cx} {M : List Nat}
theorem ss_nil : SimSs G X M [] mSkip := fun Z H r s F ow en _ _ => wSs.of pss_nil ⟨Z, F, en, ow, .refl, .refl⟩
theorem ss_cons {st : Stmt} {sts : List Stmt} {m ms : SM} (h : SimS G X M st m) (hs : SimSs G X M sts ms) : SimSs G X M (st :: sts) (mSeq m ms) := fun Z H r s F ow en ns ex => by
  have h1 := h Z H r s F ow en
  have step : ∀ D, wS X st { D with nx := wSs X sts D } s H → wSs X (st :: sts) D s H := fun D q => wSs.of (pss_cons pwS pwSs) q
  unfold mSeq at ns ex ⊢
  cases em : m r with
  | nx r1 =>
    rw [em] at h1 ns ex
    refine step _ (wS.mono (h1 (fun z => nomatch z) trivial) ⟨fun s' H' q => ?_, fun _ _ z => z.elim, fun _ _ z => z.elim, fun _ _ z => z.elim⟩)
    obtain ⟨Z2, F2, a1, a2, a3, a4⟩ := q
    exact wSs.mono (hs Z2 H' r1 s' F2 a2 a1 ns (exc_from a3 a4 _ ex)) (ends_from a3 a4 _)
  | ret o r1 =>
    rw [em] at h1
    exact step _ (wS.mono (h1 (fun z => nomatch z) trivial) ⟨fun _ _ z => z.elim, fun _ _ z => z, fun _ _ z => z, fun _ _ z => z⟩)
  | brk r1 =>
    rw [em] at h1
    exact step _ (wS.mono (h1 (fun z => nomatch z) trivial) ⟨fun _ _ z => z.elim, fun _ _ z => z, fun _ _ z => z, fun _ _ z => z⟩)
  | ct r1 =>
    rw [em] at h1
    exact step _ (wS.mono (h1 (fun z => nomatch z) trivial) ⟨fun _ _ z => z.elim, fun _ _ z => z, fun _ _ z => z, fun _ _ z => z⟩)
  | exc x r1 =>
    rw [em] at h1 ex
    exact step _ (wS.mono (h1 (fun z => nomatch z) ex) ⟨fun _ _ z => z.elim, fun _ _ z => z, fun _ _ z => z, fun _ _ z => z⟩)
  | stuck =>
    rw [em] at ns
    exact absurd rfl ns
theorem ss_one {st : Stmt} {m : SM} (h : SimS G X M st m) : SimSs G X M [st] m := fun Z H r s F ow en ns ex => wSs.of (pss_one pwS) (h Z H r s F ow en ns ex)
/-! ### name = value; return; an expression; pass, break, continue -/
def mSet (i : Nat) (m : EM) : SM := fun r => match m r with
  | .ok o r1 => if i < r1.length then .nx (r1.set i (some o)) else .stuck
  | .exc x r1 => .exc x r1
  | .stuck => .stuck
def mRet (m : EM) : SM := fun r => match m r with
  | .ok o r1 => .ret o r1
  | .exc x r1 => .exc x r1
  | .stuck => .stuck
def mRetN : SM := fun r => .ret (.val .non) r
def mDrop (m : EM) : SM := fun r => match m r with
  | .ok _ r1 => .nx r1
  | .exc x r1 => .exc x r1
  | .stuck => .stuck
def mBrk : SM := fun r => .brk r
def mCt : SM := fun r => .ct r
theorem store_OkS {Z H H1 : Hp} {s : L2.St} {F : List Addr} {o : O} {v : V} {r : Env} {nm : Bool} {i : Nat} (q : OkE G Z H s F o r nm v H1) (hi : i < r.length) (hM : M.contains i = false) : OkS G M Z H s F (r.set i (some o)) (s.set i (some v)) H1 := by
  obtain ⟨Z1, E1, F1, a1, a2, a3, a4, _⟩ := q
  obtain ⟨F2, b1, E2, b2, b3⟩ := a2.store hi a1
  have sl : (E1 ++ E2).Sublist (E1 ++ F1) := b2.append_left E1
  exact ⟨Z1, F2, b1, (a3.less sl).perm b3, a4.less fun b m => sl.subset (b3.mem_iff.mp m), .set hM⟩
theorem s_set {e : Expr} {m : EM} {nm : Bool} {i : Nat} {x : Str} {pos pos' : Pos} (h : SimE G X e m nm) (hN : X.N.Nodup) (hi : X.N[i]? = some x) (hx : Loc X.env.scope x) (hM : M.contains i = false) (hs : swapsWith e (some (.Name x pos')) pos.line X.env = pure false := by rfl)
    (hf : X.fn x = true ∨ X.env.scope.names.lookup x = some .local := by first | exact .inl rfl | exact .inr rfl | assumption) : SimS G X M (.Assign [.Name x pos'] e pos) (mSet i m) := fun Z H r s F ow en ns ex => by
  have h1 := h Z H r s F ow en
  unfold mSet at ns ex ⊢
  cases em : m r with
  | stuck => rw [em] at ns; exact absurd rfl ns
  | exc x r1 =>
    rw [em] at h1 ex
    exact wS.of (ps_set hN hi hx pwE hs hf) (wE.mono (h1 (exc_e ex)) fun _ _ z => z.elim)
  | ok o r1 =>
    rw [em] at h1 ns ex
    dsimp only at ns ex ⊢
    by_cases hl : i < r1.length
    · rw [if_pos hl] at ns ex ⊢
      exact wS.of (ps_set hN hi hx pwE hs hf) (wE.mono h1 fun v H1 q => store_OkS q hl hM)
    · rw [if_neg hl] at ns
      exact absurd rfl ns
theorem s_ret {e : Expr} {m : EM} {nm : Bool} {pos : Pos} (h : SimE G X e m nm) : SimS G X M (.Return (some e) pos) (mRet m) := fun Z H r s F ow en ns ex => by
  have h1 := h Z H r s F ow en
  unfold mRet at ns ex ⊢
  cases em : m r with
  | stuck => rw [em] at ns; exact absurd rfl ns
  | exc x r1 =>
    rw [em] at h1 ex
    exact wS.of (ps_ret pwE) (wE.mono (h1 (exc_e ex)) fun _ _ z => z.elim)
  | ok o r1 =>
    rw [em] at h1
    exact wS.of (ps_ret pwE) (wE.mono h1 fun v H1 ⟨Z1, E1, F1, a1, a2, a3, a4, _⟩ => ⟨Z1, E1, F1, s, a1, a2, a3, a4, .refl⟩)
theorem s_retN {pos : Pos} : SimS G X M (.Return none pos) mRetN := fun Z H r s F ow en ns ex => wS.of ps_retN ⟨Z, [], F, s, .ofV (by unfold RepV; rfl), en, ow, .refl, .refl⟩
theorem drop_OkS {Z H H1 : Hp} {s : L2.St} {F : List Addr} {o : O} {v : V} {r : Env} {nm : Bool} (q : OkE G Z H s F o r nm v H1) : OkS G M Z H s F r s H1 := by
  obtain ⟨Z1, E1, F1, a1, a2, a3, a4, _⟩ := q
  exact ⟨Z1, F1, a2, a3.less (List.sublist_append_right _ _), a4.less fun b m => List.mem_append_right _ m, .refl⟩
theorem s_expr {e : Expr} {m : EM} {nm : Bool} {pos : Pos} (h : SimE G X e m nm) (hs : swapsWith e none pos.line X.env = pure false := by rfl) : SimS G X M (.Expr e pos) (mDrop m) := fun Z H r s F ow en ns ex => by
  have h1 := h Z H r s F ow en
  unfold mDrop at ns ex ⊢
  cases em : m r with
  | stuck => rw [em] at ns; exact absurd rfl ns
  | exc x r1 =>
    rw [em] at h1 ex
    exact wS.of (ps_expr pwE hs) (wE.mono (h1 (exc_e ex)) fun _ _ z => z.elim)
  | ok o r1 =>
    rw [em] at h1
    exact wS.of (ps_expr pwE hs) (wE.mono h1 fun v H1 q => drop_OkS q)
theorem s_pass {pos : Pos} : SimS G X M (.Pass pos) mSkip := fun Z H r s F ow en _ _ => wS.of ps_pass ⟨Z, F, en, ow, .refl, .refl⟩
theorem s_doc {x : Str} {j : Nat} {pos pos' : Pos} : SimS G X M (.Expr (.Constant (.str x) j pos) pos') mSkip := fun Z H r s F ow en _ _ => wS.of ps_doc ⟨Z, F, en, ow, .refl, .refl⟩
theorem s_brk {pos : Pos} : SimS G X M (.Break pos) mBrk := fun Z H r s F ow en _ _ => wS.of ps_break ⟨Z, F, en, ow, .refl, .refl⟩
theorem s_ct {pos : Pos} : SimS G X M (.Continue pos) mCt := fun Z H r s F ow en _ _ => wS.of ps_continue ⟨Z, F, en, ow, .refl, .refl⟩
/-! ### if -/
def mIfS (c : TM) (a b : SM) : SM := fun r => match c r with
  | .ok true r1 => a r1
  | .ok false r1 => b r1
  | .exc x r1 => .exc x r1
  | .stuck => .stuck
theorem s_if {c : Expr} {sa sb : List Stmt} {mc : TM} {ma mb : SM} {nm : Bool} {pos : Pos} (hc : SimT G X c mc nm) (ha : SimSs G X M sa ma) (hb : SimSs G X M sb mb) : SimS G X M (.If c sa sb pos) (mIfS mc ma mb) := fun Z H r s F ow en ns ex => by
  have h1 := hc Z H r s F ow en
  unfold mIfS at ns ex ⊢
  cases em : mc r with
  | stuck => rw [em] at ns; exact absurd rfl ns
  | exc x r1 =>
    rw [em] at h1 ex
    exact wS.of (ps_if pwT pwSs pwSs) (wT.mono (h1 (exc_e ex)) fun _ _ z => z.elim)
  | ok d r1 =>
    rw [em] at h1 ns ex
    cases d with
    | true =>
      refine wS.of (ps_if pwT pwSs pwSs) (wT.mono h1 fun v H1 ⟨e, Z1, F1, b1, b2, b3, _⟩ => ?_)
      subst e
      exact iteT (wSs.mono (ha Z1 H1 r1 s F1 b2 b1 ns (exc_from b3 .refl _ ex)) (ends_from b3 .refl _))
    | false =>
      refine wS.of (ps_if pwT pwSs pwSs) (wT.mono h1 fun v H1 ⟨e, Z1, F1, b1, b2, b3, _⟩ => ?_)
      subst e
      exact iteF (wSs.mono (hb Z1 H1 r1 s F1 b2 b1 ns (exc_from b3 .refl _ ex)) (ends_from b3 .refl _))
/-! ### while -/
def loopW (c : TM) (b : SM) : Nat → Env → Out
  | 0, _ => .stuck
  | n + 1, r => match c r with
    | .ok true r1 => match b r1 with
      | .nx r2 => loopW c b n r2
      | .ct r2 => loopW c b n r2
      | .brk r2 => .nx r2
      | o => o
    | .ok false r1 => .nx r1
    | .exc x r1 => .exc x r1
    | .stuck => .stuck
theorem s_while {c : Expr} {sb : List Stmt} {mc : TM} {mb : SM} {nm : Bool} {pos : Pos} {n : Nat} (hp : PassesOwn (model X.prog X.w) X.A X.env X.xe) (hc : SimT G X c mc nm) (hb : SimSs G X M sb mb) : SimS G X M (.While c sb [] pos) (loopW mc mb n) := fun Z H r s F ow en ns ex => by
  generalize eo : loopW mc mb n r = out at ns ex ⊢
  refine wS.of (ps_while hp pwT pwSs) ⟨fun k s1 H1 => ∃ Z1 F1 r1, RepEnv G H1 Z1 r1 s1 F1 ∧ Ow Z1 H1 F1 ∧ Fr Z H F Z1 H1 F1 ∧ Keep M s s1 ∧ loopW mc mb k r1 = out, ⟨n, Z, F, r, en, ow, .refl, .refl, eo⟩, ?_⟩
  rintro k s1 H1 ⟨Z1, F1, r1, a1, a2, a3, a4, a5⟩
  cases k with
  | zero =>
    unfold loopW at a5
    exact absurd a5.symm ns
  | succ k =>
    have h1 := hc Z1 H1 r1 s1 F1 a2 a1
    unfold loopW at a5
    cases em : mc r1 with
    | stuck =>
      rw [em] at a5
      exact absurd a5.symm ns
    | exc x r2 =>
      rw [em] at h1 a5
      dsimp only at a5
      subst a5
      exact wT.mono (h1 (exc_e (exc_from a3 a4 _ ex))) fun _ _ z => z.elim
    | ok d r2 =>
      rw [em] at h1 a5
      refine wT.mono h1 fun v H2 ⟨e, Z2, F2, b1, b2, b3, _⟩ => ?_
      subst e
      cases v with
      | false =>
        refine iteF ?_
        dsimp only at a5
        subst a5
        exact ⟨Z2, F2, b1, b2, a3.trans b3, a4⟩
      | true =>
        refine iteT ⟨fun s1 H1 => ∃ Z1 F1 r1, RepEnv G H1 Z1 r1 s1 F1 ∧ Ow Z1 H1 F1 ∧ Fr Z H F Z1 H1 F1 ∧ Keep M s s1 ∧ loopW mc mb k r1 = out, fun s' H' q => ⟨k, Nat.lt_succ_self k, q⟩, ?_⟩
        dsimp only at a5
        have h2 := hb Z2 H2 r2 s1 F2 b2 b1
        cases em2 : mb r2 with
        | stuck =>
          rw [em2] at a5
          exact absurd a5.symm ns
        | nx r3 =>
          rw [em2] at h2 a5
          exact wSs.mono (h2 (fun z => nomatch z) trivial) ⟨fun s' H' ⟨Z3, F3, c1, c2, c3, c4⟩ => ⟨Z3, F3, r3, c1, c2, (a3.trans b3).trans c3, a4.trans c4, a5⟩, fun _ _ z => z.elim, fun _ _ z => z.elim, fun _ _ z => z.elim⟩
        | ct r3 =>
          rw [em2] at h2 a5
          exact wSs.mono (h2 (fun z => nomatch z) trivial) ⟨fun _ _ z => z.elim, fun _ _ z => z.elim, fun _ _ z => z.elim, fun s' H' ⟨Z3, F3, c1, c2, c3, c4⟩ => ⟨Z3, F3, r3, c1, c2, (a3.trans b3).trans c3, a4.trans c4, a5⟩⟩
        | brk r3 =>
          rw [em2] at h2 a5
          dsimp only at a5
          subst a5
          exact wSs.mono (h2 (fun z => nomatch z) trivial) ⟨fun _ _ z => z.elim, fun _ _ z => z.elim, fun s' H' q => OkS.from' (a3.trans b3) a4 q, fun _ _ z => z.elim⟩
        | ret o r3 =>
          rw [em2] at h2 a5
          dsimp only at a5
          subst a5
          exact wSs.mono (h2 (fun z => nomatch z) trivial) ⟨fun _ _ z => z.elim, fun s' H' q => OkR.from' (a3.trans b3) a4 q, fun _ _ z => z.elim, fun _ _ z => z.elim⟩
        | exc x r3 =>
          rw [em2] at h2 a5
          dsimp only at a5
          subst a5
          exact wSs.mono (h2 (fun z => nomatch z) (exc_from (a3.trans b3) a4 _ ex)) ⟨fun _ _ z => z.elim, fun _ _ z => z.elim, fun _ _ z => z.elim, fun _ _ z => z.elim⟩
end
/-! ### targets -/
abbrev AM := D → Env → Option Env
def wG (X : Cx) (tg : Expr) : TG := fun v s H Q => ∀ pins t u, Inv X pins s H t → RelV v u → wpAny (model X.prog X.w) X.A (assign tg X.env u) (fun _ s' => ∃ σ' H', Inv X pins σ' H' s' ∧ Q σ' H') X.xe t
def wGs (X : Cx) (ts : List Expr) : TGs := fun vs s H Q => ∀ pins t us, Inv X pins s H t → Vals vs us → wpAny (model X.prog X.w) X.A (assignInOrder ((assignEach ts X.env).map (·.2)) us) (fun _ s' => ∃ σ' H', Inv X pins σ' H' s' ∧ Q σ' H') X.xe t
section
variable {X : Cx} {tg : Expr} {ts : List Expr}
theorem pwG : PG X tg (wG X tg) := ⟨fun pins t s H v u Q I r h => h pins t u I r⟩
theorem pwGs : PGs X ts (wGs X ts) := ⟨fun pins t s H vs us Q I r h => h pins t us I r⟩
theorem wG.of {t : TG} {v : V} {s : L2.St} {H : Hp} {Q : L2.St → Hp → Prop} (h : PG X tg t) (q : t v s H Q) : wG X tg v s H Q := fun pins x u I r => h.run pins x s H v u Q I r q
theorem wGs.of {t : TGs} {v : List V} {s : L2.St} {H : Hp} {Q : L2.St → Hp → Prop} (h : PGs X ts t) (q : t v s H Q) : wGs X ts v s H Q := fun pins x u I r => h.run pins x s H v u Q I r q
theorem wG.mono {v : V} {s : L2.St} {H : Hp} {Q Q' : L2.St → Hp → Prop} (h : wG X tg v s H Q) (k : ∀ s' H', Q s' H' → Q' s' H') : wG X tg v s H Q' := fun pins t u I r => thn (h pins t u I r) fun _ s' ⟨a, b, c, d⟩ => ⟨a, b, c, k _ _ d⟩
theorem wGs.mono {v : List V} {s : L2.St} {H : Hp} {Q Q' : L2.St → Hp → Prop} (h : wGs X ts v s H Q) (k : ∀ s' H', Q s' H' → Q' s' H') : wGs X ts v s H Q' := fun pins t u I r => thn (h pins t u I r) fun _ s' ⟨a, b, c, d⟩ => ⟨a, b, c, k _ _ d⟩
end
abbrev KR := L2.St → L2.St → Prop
structure KRel (K : KR) : Prop where
  refl : ∀ s, K s s
  trans : ∀ a b c, K a b → K b c → K a c
theorem krel_keep {M : List Nat} : KRel (Keep M) := ⟨fun _ => .refl, fun _ _ _ a b => a.trans b⟩
def OkG (G : GC) (K : KR) (Z H : Hp) (s : L2.St) (F : List Addr) (r' : Env) (s' : L2.St) (H' : Hp) : Prop := H' = H ∧ K s s' ∧ ∃ F', RepEnv G H Z r' s' F' ∧ Ow Z H F' ∧ ∀ b ∈ F', b ∈ F
def SimG (G : GC) (X : Cx) (K : KR) (tg : Expr) (a : AM) : Prop := ∀ Z H r s F d v r', Ow Z H F → RepEnv G H Z r s F → RepV G Z d v → a d r = some r' → wG X tg v s H (OkG G K Z H s F r')
def SimGs (G : GC) (X : Cx) (K : KR) (ts : List Expr) (a : List D → Env → Option Env) : Prop := ∀ Z H r s F ds vs r', Ow Z H F → RepEnv G H Z r s F → RepVs G Z ds vs → a ds r = some r' → wGs X ts vs s H (OkG G K Z H s F r')
def aName (i : Nat) : AM := fun d r => if i < r.length then some (r.set i (some (.val d))) else none
def aNil : List D → Env → Option Env := fun ds r => match ds with
  | [] => some r
  | _ => none
def aCons (a : AM) (b : List D → Env → Option Env) : List D → Env → Option Env := fun ds r => match ds with
  | d :: ds => match a d r with
    | some r1 => b ds r1
    | none => none
  | [] => none
def aTup (b : List D → Env → Option Env) : AM := fun d r => match d with
  | .tup ds => b ds r
  | _ => none
section
variable {G : GC} {X : Cx} {K : KR}
theorem g_name {i : Nat} {x : Str} {pos : Pos} (hN : X.N.Nodup) (hi : X.N[i]? = some x) (hx : Loc X.env.scope x) (hM : ∀ s x, K s (s.set i x)) (hf : X.fn x = true ∨ X.env.scope.names.lookup x = some .local := by first | exact .inl rfl | exact .inr rfl | assumption) :
    SimG G X K (.Name x pos) (aName i) := fun Z H r s F d v r' ow en rv ea => by
  unfold aName at ea
  by_cases hl : i < r.length
  · rw [if_pos hl] at ea
    cases ea
    obtain ⟨F2, b1, E2, b2, b3⟩ := en.store hl (RepO.ofV (H := H) rv)
    exact wG.of (pg_name hN hi hx hf) ⟨rfl, hM _ _, F2, b1, (ow.less b2).perm b3, fun b m => b2.subset (b3.mem_iff.mp m)⟩
  · rw [if_neg hl] at ea; cases ea
theorem gs_nil (kr : KRel K) : SimGs G X K [] aNil := fun Z H r s F ds vs r' ow en rv ea => by
  unfold aNil at ea
  cases ds with
  | nil =>
    cases ea
    unfold RepVs at rv
    subst rv
    exact wGs.of pgs_nil ⟨rfl, rfl, kr.refl _, F, en, ow, fun _ m => m⟩
  | cons d ds => cases ea
theorem gs_cons (kr : KRel K) {e : Expr} {es : List Expr} {a : AM} {b : List D → Env → Option Env} (h1 : SimG G X K e a) (h2 : SimGs G X K es b) (hs : (assignEach (e :: es) X.env).map (·.2) = assign e X.env :: (assignEach es X.env).map (·.2) := by rfl) :
    SimGs G X K (e :: es) (aCons a b) := fun Z H r s F ds vs r' ow en rv ea => by
  cases ds with
  | nil => cases ea
  | cons d ds =>
    unfold aCons at ea
    dsimp only at ea
    cases e1 : a d r with
    | none => rw [e1] at ea; cases ea
    | some r1 =>
      rw [e1] at ea
      unfold RepVs at rv
      obtain ⟨v, w, rfl, q, t⟩ := rv
      refine wGs.of (pgs_cons pwG pwGs hs) ⟨v, w, rfl, wG.mono (h1 Z H r s F d v r1 ow en q e1) fun s' H' ⟨eH, k, F1, c1, c2, c3⟩ => ?_⟩
      subst eH
      refine wGs.mono (h2 Z H' r1 s' F1 ds w r' c2 c1 t ea) fun s2 H2 ⟨eH2, k2, F2, d1, d2, d3⟩ => ?_
      exact ⟨eH2, kr.trans _ _ _ k k2, F2, d1, d2, fun b m => c3 b (d3 b m)⟩
theorem g_tup {es : List Expr} {j n : Nat} {pos : Pos} {b : List D → Env → Option Env} (hK : X.K = G.K) (hc : X.calm = true) (h : SimGs G X K es b) (hb : ∀ ds r r', b ds r = some r' → ds.length = n)
    (hn : (assignEach es X.env).length = n := by rfl) (hst : (assignEach es X.env).findIdx? (·.1) = none := by rfl) : SimG G X K (.Tuple es j pos) (aTup b) := fun Z H r s F d v r' ow en rv ea => by
  cases d with
  | tup ds =>
    unfold aTup at ea
    dsimp only at ea
    unfold RepV at rv
    obtain ⟨a, vs, rfl, q, t⟩ := rv
    refine wG.of (pg_tup hc pwGs hn hst) ⟨a, vs, rfl, ?_, ?_, h Z H r s F ds vs r' ow en t ea⟩
    · rw [hK]; exact ow.sub.sqT q
    · rw [← t.length]; exact hb ds r r' ea
  | _ => cases ea
end
section
variable {G : GC} {X : Cx} {M : List Nat}
/-- target = value, by the value's data -/
def mAsg (m : EM) (a : AM) : SM := fun r => match m r with
  | .ok o r1 => match a (frz o) r1 with
    | some r2 => .nx r2
    | none => .stuck
  | .exc x r1 => .exc x r1
  | .stuck => .stuck
theorem s_asg {tg e : Expr} {m : EM} {a : AM} {nm : Bool} {pos : Pos} (h : SimE G X e m nm) (hg : SimG G X (Keep M) tg a) (hs : swapsWithSole [tg] e pos.line X.env = pure false := by rfl) (hw : swappedStores [tg] e X.env = pure none := by rfl)
    (h1 : (assignEach [tg] X.env).map (·.2) = [assign tg X.env] := by rfl) : SimS G X M (.Assign [tg] e pos) (mAsg m a) := fun Z H r s F ow en ns ex => by
  have k1 := h Z H r s F ow en
  unfold mAsg at ns ex ⊢
  cases em : m r with
  | stuck => rw [em] at ns; exact absurd rfl ns
  | exc x r1 =>
    rw [em] at k1 ex
    exact wS.of (ps_asg pwE pwG hs hw h1) (wE.mono (k1 (exc_e ex)) fun _ _ z => z.elim)
  | ok o r1 =>
    rw [em] at k1 ns ex
    dsimp only at ns ex ⊢
    cases ea : a (frz o) r1 with
    | none => rw [ea] at ns; exact absurd rfl ns
    | some r2 =>
      refine wS.of (ps_asg pwE pwG hs hw h1) (wE.mono k1 fun v H1 q => ?_)
      obtain ⟨Z1, E1, F1, a1, a2, a3, a4, _⟩ := q.frozen
      unfold RepO at a1
      obtain ⟨a1, rfl⟩ := a1
      refine wG.mono (hg Z1 H1 r1 s F1 _ v r2 a3 a2 a1 ea) fun s' H' ⟨eH, k, F2, c1, c2, c3⟩ => ?_
      subst eH
      exact ⟨Z1, F2, c1, c2, a4.less c3, k⟩
end
/-! ### for -/
def wI (X : Cx) (tg e : Expr) : TI := fun s H R => ∀ pins t, Inv X pins s H t → wpAny (model X.prog X.w) X.A (eval e X.env) (fun v s1 => wpAny (model X.prog X.w) X.A (pyIter v) (PIE X pins s tg R) X.xe s1) X.xe t
theorem pwI {X : Cx} {tg e : Expr} : PI X tg e (wI X tg e) := ⟨fun pins t s H R I h => h pins t I⟩
theorem wI.of {X : Cx} {tg e : Expr} {t : TI} {s : L2.St} {H : Hp} {R : It → Hp → Prop} (h : PI X tg e t) (q : t s H R) : wI X tg e s H R := fun pins u I => h.run pins u s H R I q
theorem wI.mono {X : Cx} {tg e : Expr} {s : L2.St} {H : Hp} {R R' : It → Hp → Prop} (h : wI X tg e s H R) (k : ∀ J H', R J H' → R' J H') : wI X tg e s H R' := fun pins t I =>
  thn (h pins t I) fun v s1 q => thn q fun u s2 ⟨it, fp, tn, J, H', a1, a2, a3, a4, a5, a6⟩ => ⟨it, fp, tn, J, H', a1, a2, a3, a4, a5, k J H' a6⟩
/-- the walk gives this data -/
def Yields (G : GC) (Z : Hp) (J : It) (ds : List D) : Prop := ∀ i H, Sub Z H → i ≤ ds.length → (i = ds.length → J.stop i H) ∧ (i < ds.length → J.go i H ∧ ∀ x H', J.yld i H x H' → ∃ d, ds[i]? = some d ∧ New G Z H (.val d) x H')
theorem New.more {G : GC} {Z Z1 H : Hp} {d : D} {x : V} {H' : Hp} (s : Sub Z Z1) (h : New G Z H (.val d) x H') : New G Z1 H (.val d) x H' := by
  generalize e : O.val d = o at h
  cases h with
  | val q => cases e; exact .val (q.sub s)
  | lst n q => cases e
  | tup n q => cases e; exact .tup n (q.sub s)
  | dct n q1 q2 q3 => cases e
def SimI (G : GC) (X : Cx) (tg e : Expr) (m : Env → R (List D)) : Prop := ∀ Z H r s F, Ow Z H F → RepEnv G H Z r s F → match m r with
  | .ok ds r' => wI X tg e s H (fun J H1 => ∃ Z1 F1, RepEnv G H1 Z1 r' s F1 ∧ Ow Z1 H1 F1 ∧ Fr Z H F Z1 H1 F1 ∧ Yields G Z1 J ds)
  | .exc x r' => (∀ cls d H', OkX G Z H s F x r' cls d H' → eX X cls d s H') → wI X tg e s H (fun _ _ => False)
  | .stuck => True
def loopF (a : AM) (b : SM) : List D → Env → Out
  | [], r => .nx r
  | d :: ds, r => match a d r with
    | some r1 => match b r1 with
      | .nx r2 => loopF a b ds r2
      | .ct r2 => loopF a b ds r2
      | .brk r2 => .nx r2
      | o => o
    | none => .stuck
def mFor (it : Env → R (List D)) (a : AM) (b : SM) : SM := fun r => match it r with
  | .ok ds r1 => loopF a b ds r1
  | .exc x r1 => .exc x r1
  | .stuck => .stuck
section
variable {G : GC} {X : Cx} {M : List Nat}
theorem for_core {tg e : Expr} {sb : List Stmt} {a : AM} {mb : SM} {pos : Pos} (hp : PassesOwn (model X.prog X.w) X.A X.env X.xe) (hcl : X.calm = true) (hg : SimG G X (Keep M) tg a) (hb : SimSs G X M sb mb) {Z H : Hp} {s : L2.St} {F : List Addr} {ds : List D} {r0 : Env}
    (h0 : wI X tg e s H (fun J H1 => ∃ Z1 F1, RepEnv G H1 Z1 r0 s F1 ∧ Ow Z1 H1 F1 ∧ Fr Z H F Z1 H1 F1 ∧ Yields G Z1 J ds)) (ns : loopF a mb ds r0 ≠ .stuck) (ex : excOf G M Z H s F X (loopF a mb ds r0))
    (hs : ∀ x, foldedSetIterable e X.env x = pure x := by intro _; rfl) : wS X (.For tg e sb [] pos) (endsOf G M Z H s F (loopF a mb ds r0)) s H := by
    generalize eo : loopF a mb ds r0 = out at ns ex ⊢
    refine wS.of (ps_for hp hcl pwI pwG pwSs hs) (wI.mono h0 fun J H0 ⟨Z0, F0, d1, d2, d3, d4⟩ => ?_)
    refine ⟨fun i k s1 H1 => k = ds.length - i ∧ i ≤ ds.length ∧ ∃ Z1 F1 r1, RepEnv G H1 Z1 r1 s1 F1 ∧ Ow Z1 H1 F1 ∧ Fr Z H F Z1 H1 F1 ∧ Keep M s s1 ∧ Sub Z0 Z1 ∧ loopF a mb (ds.drop i) r1 = out, ⟨ds.length, rfl, Nat.zero_le _, Z0, F0, r0, d1, d2, d3, .refl, .refl _, eo⟩, ?_⟩
    rintro i k s1 H1 ⟨ek, hk, Z1, F1, r1, a1, a2, a3, a4, a5, a6⟩
    subst ek
    obtain ⟨y1, y2⟩ := d4 i H1 (a5.trans a2.sub) hk
    by_cases hlt : i < ds.length
    · obtain ⟨y3, y4⟩ := y2 hlt
      have ed : ds.drop i = ds[i] :: ds.drop (i + 1) := (List.drop_eq_getElem_cons hlt)
      rw [ed] at a6
      unfold loopF at a6
      cases ea : a ds[i] r1 with
      | none => rw [ea] at a6; exact absurd a6.symm ns
      | some r2 =>
        rw [ea] at a6
        dsimp only at a6
        refine .inr ⟨y3, fun s1 H1 => ∃ Z1 F1 r1, RepEnv G H1 Z1 r1 s1 F1 ∧ Ow Z1 H1 F1 ∧ Fr Z H F Z1 H1 F1 ∧ Keep M s s1 ∧ Sub Z0 Z1 ∧ loopF a mb (ds.drop (i + 1)) r1 = out, fun s' H' q => ⟨ds.length - (i + 1), by omega, rfl, hlt, q⟩, fun x H2 y => ?_⟩
        obtain ⟨d, ed2, nw⟩ := y4 x H2 y
        rw [List.getElem?_eq_getElem hlt] at ed2
        cases ed2
        obtain ⟨Z2, E2, F2, b0, b1, b2, b3, _⟩ := New.fin (nm := false) (nw.more a5) a1 a2 .refl (fun z => nomatch z)
        unfold RepO at b0
        obtain ⟨b0, rfl⟩ := b0
        have z2 : Sub Z0 Z2 := a5.trans b3.zs
        have f2 := a3.trans b3
        refine wG.mono (hg Z2 H2 r1 s1 F2 _ x r2 b2 b1 b0 ea) fun s' H' ⟨eH, k, F3, c1, c2, c3⟩ => ?_
        subst eH
        have f3 := f2.less c3
        have k3 := a4.trans k
        have h2 := hb Z2 H' r2 s' F3 c2 c1
        cases em2 : mb r2 with
        | stuck =>
          rw [em2] at a6
          exact absurd a6.symm ns
        | nx r3 =>
          rw [em2] at h2 a6
          exact wSs.mono (h2 (fun z => nomatch z) trivial) ⟨fun s' H' ⟨Z3, F3, c1, c2, c3, c4⟩ => ⟨Z3, F3, r3, c1, c2, f3.trans c3, k3.trans c4, z2.trans c3.zs, a6⟩, fun _ _ z => z.elim, fun _ _ z => z.elim, fun _ _ z => z.elim⟩
        | ct r3 =>
          rw [em2] at h2 a6
          exact wSs.mono (h2 (fun z => nomatch z) trivial) ⟨fun _ _ z => z.elim, fun _ _ z => z.elim, fun _ _ z => z.elim, fun s' H' ⟨Z3, F3, c1, c2, c3, c4⟩ => ⟨Z3, F3, r3, c1, c2, f3.trans c3, k3.trans c4, z2.trans c3.zs, a6⟩⟩
        | brk r3 =>
          rw [em2] at h2 a6
          dsimp only at a6
          subst a6
          exact wSs.mono (h2 (fun z => nomatch z) trivial) ⟨fun _ _ z => z.elim, fun _ _ z => z.elim, fun s' H' q => OkS.from' f3 k3 q, fun _ _ z => z.elim⟩
        | ret o r3 =>
          rw [em2] at h2 a6
          dsimp only at a6
          subst a6
          exact wSs.mono (h2 (fun z => nomatch z) trivial) ⟨fun _ _ z => z.elim, fun s' H' q => OkR.from' f3 k3 q, fun _ _ z => z.elim, fun _ _ z => z.elim⟩
        | exc x r3 =>
          rw [em2] at h2 a6
          dsimp only at a6
          subst a6
          exact wSs.mono (h2 (fun z => nomatch z) (exc_from f3 k3 _ ex)) ⟨fun _ _ z => z.elim, fun _ _ z => z.elim, fun _ _ z => z.elim, fun _ _ z => z.elim⟩
    · have e : i = ds.length := by omega
      refine .inl ⟨y1 e, ?_⟩
      subst e
      rw [List.drop_length] at a6
      unfold loopF at a6
      subst a6
      exact ⟨Z1, F1, a1, a2, a3, a4⟩
theorem s_for {tg e : Expr} {sb : List Stmt} {mi : Env → R (List D)} {a : AM} {mb : SM} {pos : Pos} (hp : PassesOwn (model X.prog X.w) X.A X.env X.xe) (hcl : X.calm = true) (hi : SimI G X tg e mi) (hg : SimG G X (Keep M) tg a) (hb : SimSs G X M sb mb)
    (hs : ∀ x, foldedSetIterable e X.env x = pure x := by intro _; rfl) : SimS G X M (.For tg e sb [] pos) (mFor mi a mb) := fun Z H r s F ow en ns ex => by
  have h0 := hi Z H r s F ow en
  unfold mFor at ns ex ⊢
  cases em0 : mi r with
  | stuck => rw [em0] at ns; exact absurd rfl ns
  | exc x r1 =>
    rw [em0] at h0 ex
    exact wS.of (ps_for hp hcl pwI pwG pwSs hs) (wI.mono (h0 (exc_e ex)) fun _ _ z => z.elim)
  | ok ds r0 =>
    rw [em0] at h0 ns ex
    exact for_core hp hcl hg hb h0 ns ex hs
end
end PL
set_option Elab.async false
set_option linter.all false
set_option maxRecDepth 100000
set_option maxHeartbeats 1000000
namespace PL
open PySem PySem.Spec PyProof.Rows L2

/-! ### what stands at a path is changed -/
theorem PathV.det {G : GC} {H : Hp} : ∀ {ps : List Nat} {v w w' : V}, PathV G H v ps w → PathV G H v ps w' → w = w'
  | [], v, w, w', h, h' => by
    cases h; cases h'; rfl
  | f :: fs, v, w, w', h, h' => by
    obtain ⟨a, c, dx, kv, u, e1, e2, e3, e4, h⟩ := h
    obtain ⟨a', c', dx', kv', u', e1', e2', e3', e4', h'⟩ := h'
    subst e1
    cases e1'
    rw [e2] at e2'
    have q := Option.some.inj e2'
    injection q with _ _ q3
    subst q3
    rw [e4] at e4'
    cases e4'
    exact PathV.det h h'
theorem PathV.sub {G : GC} {H H' : Hp} (s : Sub H H') : ∀ {ps : List Nat} {v w : V}, PathV G H v ps w → PathV G H' v ps w
  | [], v, w, h => h
  | f :: fs, v, w, h => by
    obtain ⟨a, c, dx, kv, u, e1, e2, e3, e4, h⟩ := h
    exact ⟨a, c, dx, kv, u, e1, s _ _ e2, e3, e4, PathV.sub s h⟩
theorem upd_at {G : GC} (ok : ClsOk G) {Z H : Hp} {r : Env} {s : L2.St} {E F : List Addr} {i : Nat} {ps : List Nat} {o o' : O} (ow : Ow Z H (E ++ F)) (te : ∀ b ∈ E, ∃ u, H b = some u) (en : RepEnv G H Z r s F) (e : r[i]? = some (some o)) (ep : getP G.fid o ps = some o') :
    ∃ v w F1 F2, s[i]? = some (some v) ∧ PathV G H v ps w ∧ RepO G H Z o' w F1 ∧ (F1 ++ F2).Perm F ∧ (∀ b ∈ F1, b ∉ E) ∧ F1.Nodup ∧
      (ownP G.fid o ps = true → ∀ H2 o2 F3, (∀ b u, H b = some u → b ∉ F1 → H2 b = some u) → RepO G H2 Z o2 w F3 → (∀ b ∈ F3, b ∈ F1 ∨ b ∈ E ∨ H b = none) → F3.Nodup →
        ∃ F4, RepEnv G H2 Z (r.set i (some (setP G.fid o ps o2))) s F4 ∧ Ow Z H2 F4 ∧ Fr Z H (E ++ F) Z H2 F4) := by
  obtain ⟨v, w, F1, F2, e1, e2, a1, a2, a3⟩ := path_at ok (ow.less (List.sublist_append_right _ _)) en e ep
  have nd := List.nodup_append.mp ow.nd
  have nd2 := List.nodup_append.mp (a2.nodup_iff.mpr nd.2.1)
  refine ⟨v, w, F1, F2, e1, e2, a1, a2, fun b m m2 => nd.2.2 b m2 b (a2.subset (List.mem_append_left _ m)) rfl, nd2.1, fun hw H2 o2 F3 k ro kf n3 => ?_⟩
  have ne : ∀ b ∈ F2, b ∉ F1 := fun b m m2 => nd2.2.2 b m2 b m rfl
  obtain ⟨F4, c1, c2⟩ := a3 hw H2 Z o2 F3 (fun a m u q => k a u q (ne a m)) (.refl _) ro
  have zf : ∀ b ∈ F1, b ∈ E ++ F := fun b m => List.mem_append_right _ (a2.subset (List.mem_append_left _ m))
  refine ⟨F4, c1, ⟨fun b u q => k b u (ow.sub b u q) fun m => ?_, c2.nodup_iff.mpr (List.nodup_append.mpr ⟨n3, nd2.2.1, fun x mx y my exy => ?_⟩), fun b m => ?_⟩, ⟨.refl _, fun b u q m => k b u q fun m1 => m (zf b m1), fun b m => ?_, fun b u q => .inl q⟩⟩
  · rw [ow.sep b (zf b m)] at q; cases q
  · subst exy
    rcases kf x mx with z | z | z
    · exact ne x my z
    · exact nd.2.2 x z x (a2.subset (List.mem_append_right _ my)) rfl
    · obtain ⟨u, hu⟩ := en.there x (a2.subset (List.mem_append_right _ my))
      rw [z] at hu; cases hu
  · rcases List.mem_append.mp (c2.subset m) with m | m
    · rcases kf b m with z | z | z
      · exact ow.sep b (zf b z)
      · exact ow.sep b (List.mem_append_left _ z)
      · exact ow.sub.none z
    · exact ow.sep b (List.mem_append_right _ (a2.subset (List.mem_append_right _ m)))
  · rcases List.mem_append.mp (c2.subset m) with m | m
    · rcases kf b m with z | z | z
      · exact .inl (zf b z)
      · exact .inl (List.mem_append_left _ z)
      · exact .inr z
    · exact .inl (List.mem_append_right _ (a2.subset (List.mem_append_right _ m)))
/-! ### lists of trees: one set, one more -/
theorem RepOs.putAt {G : GC} {H Z H2 : Hp} : ∀ {os : List O} {vs : List V} {F E : List Addr} {j : Nat} {o : O} {v : V}, RepOs G H Z os vs F → j < os.length → RepO G H2 Z o v E → (∀ a ∈ F, ∀ u, H a = some u → H2 a = some u) →
    ∃ F3, RepOs G H2 Z (os.set j o) (vs.set j v) F3 ∧ ∃ F1, F1.Sublist F ∧ F3.Perm (E ++ F1)
  | [], _, _, _, _, _, _, _, l, _, _ => by simp at l
  | q :: os, _, _, E, 0, o, v, h, l, g, k => by
    unfold RepOs at h
    obtain ⟨w, ws, F1, F2, rfl, h1, h2, rfl⟩ := h
    exact ⟨E ++ F2, .cons g (h2.mono (.refl _) fun a m => k a (List.mem_append_right _ m)), F2, List.sublist_append_right _ _, .refl _⟩
  | q :: os, _, _, E, j + 1, o, v, h, l, g, k => by
    unfold RepOs at h
    obtain ⟨w, ws, F1, F2, rfl, h1, h2, rfl⟩ := h
    obtain ⟨F3, b1, E1, b2, b3⟩ := h2.putAt (by simpa using l) g fun a m => k a (List.mem_append_right _ m)
    exact ⟨F1 ++ F3, .cons (h1.mono (.refl _) fun a m => k a (List.mem_append_left _ m)) b1, F1 ++ E1, b2.append_left F1, (b3.append_left F1).trans (List.perm_append_comm_assoc F1 E E1)⟩
theorem RepOs.snoc {G : GC} {H Z H2 : Hp} : ∀ {os : List O} {vs : List V} {F E : List Addr} {o : O} {v : V}, RepOs G H Z os vs F → RepO G H2 Z o v E → (∀ a ∈ F, ∀ u, H a = some u → H2 a = some u) → RepOs G H2 Z (os ++ [o]) (vs ++ [v]) (F ++ E)
  | [], _, _, _, _, _, h, g, k => by
    unfold RepOs at h
    obtain ⟨rfl, rfl⟩ := h
    have := RepOs.cons g (RepOs.nil (G := G) (H := H2) (Z := Z))
    rw [List.append_nil] at this
    exact this
  | q :: os, _, _, _, _, _, h, g, k => by
    unfold RepOs at h
    obtain ⟨w, ws, F1, F2, rfl, h1, h2, rfl⟩ := h
    rw [List.append_assoc]
    exact .cons (h1.mono (.refl _) fun a m => k a (List.mem_append_left _ m)) (h2.snoc g fun a m => k a (List.mem_append_right _ m))
/-! ### the path's value, behind a value -/
/-- o.f = value -/
def setF (L : Nat → List Nat) (f : Nat) (o : O) : O → Option O
  | .ins c os => match ixF L c f with
    | some j => if j < os.length then some (.ins c (os.set j o)) else if j = os.length then some (.ins c (os ++ [o])) else none
    | none => none
  | _ => none
def mSetF (L : Nat → List Nat) (i : Nat) (ps : List Nat) (f : Nat) (m : EM) : SM := fun r => match m r with
  | .ok o r1 => match r1[i]? with
    | some (some q) => match getP L q ps with
      | some c => match setF L f o c with
        | some c2 => if ownP L q ps = true then .nx (r1.set i (some (setP L q ps c2))) else .stuck
        | none => .stuck
      | none => .stuck
    | _ => .stuck
  | .exc x r1 => .exc x r1
  | .stuck => .stuck
theorem zip_len {α β : Type} {xs : List α} {ys : List β} (h : ys.length ≤ xs.length) : (xs.zip ys).length = ys.length := by
  rw [List.length_zip]; omega
/-- the instance with an attribute more or another -/
theorem setF_rep {G : GC} (ok : ClsOk G) {H Z : Hp} {f : Nat} {o c c2 : O} {w v : V} {F1 E : List Addr} (hc : RepO G H Z c w F1) (ho : RepO G H Z o v E) (e : setF G.fid f o c = some c2) (nd1 : F1.Nodup) (nd2 : E.Nodup) (dj : ∀ b ∈ F1, b ∉ E) :
    ∃ a k dx kv, w = .ref a ∧ H a = some (.ins (G.ca k) dx kv) ∧ f ∈ G.fid k ∧ kv.length ≤ (G.lay k).length ∧ a ∈ F1 ∧
      ∃ F3, RepO G (upd H a (.ins (G.ca k) dx (putF (G.fn f) v kv))) Z c2 w F3 ∧ (∀ b ∈ F3, b ∈ F1 ∨ b ∈ E) ∧ F3.Nodup := by
  cases c with
  | ins k os =>
    unfold setF at e
    dsimp only at e
    cases ei : ixF G.fid k f with
    | none => rw [ei] at e; cases e
    | some j =>
      rw [ei] at e
      dsimp only at e
      unfold RepO at hc
      obtain ⟨a, dx, vs, E1, rfl, h1, h2, hl, hr, rfl⟩ := hc
      have hf := ixF_mem ei
      have nd := ok.inj k
      have n1 := List.nodup_cons.mp nd1
      have n2 := List.nodup_cons.mp n1.2
      have adx : dx ≠ a := fun z => n1.1 (by rw [z]; simp)
      refine ⟨a, k, dx, _, rfl, h1, List.mem_of_getElem? hf, by rw [zip_len hl]; exact hl, by simp, ?_⟩
      have kE1 : ∀ b ∈ E1, ∀ u, H b = some u → upd H a (.ins (G.ca k) dx (putF (G.fn f) v ((G.lay k).zip vs))) b = some u := fun b m u q => by
        rw [upd_ne fun z => n1.1 (by rw [← z]; simp [m])]; exact q
      have kE : ∀ b ∈ E, ∀ u, H b = some u → upd H a (.ins (G.ca k) dx (putF (G.fn f) v ((G.lay k).zip vs))) b = some u := fun b m u q => by
        rw [upd_ne fun z => dj a (by simp) (by rw [← z]; exact m)]; exact q
      have ho2 := ho.mono (.refl _) kE
      have hlen := hr.length
      by_cases h : j < os.length
      · rw [if_pos h] at e
        cases e
        obtain ⟨F3, b1, F4, b2, b3⟩ := hr.putAt h ho2 kE1
        refine ⟨a :: dx :: F3, ?_, fun b m => ?_, ?_⟩
        · unfold RepO
          refine ⟨a, dx, vs.set j v, F3, rfl, ?_, ?_, by rw [List.length_set]; exact hl, b1, rfl⟩
          · rw [upd_same, putF_zip nd (lay_at hf) (by rw [← hlen]; exact h)]
          · rw [upd_ne adx]; exact h2
        · rcases List.mem_cons.mp m with rfl | m
          · simp
          rcases List.mem_cons.mp m with rfl | m
          · simp
          rcases List.mem_append.mp (b3.subset m) with m | m
          · exact .inr m
          · left; simp [b2.subset m]
        · have n3 : F3.Nodup := b3.nodup_iff.mpr (List.nodup_append.mpr ⟨nd2, b2.nodup n2.2, fun x mx y my exy => dj y (by simp [b2.subset my]) (by rw [← exy]; exact mx)⟩)
          have in3 : ∀ b ∈ F3, b ∈ E ∨ b ∈ E1 := fun b m => (List.mem_append.mp (b3.subset m)).imp id fun m => b2.subset m
          refine List.nodup_cons.mpr ⟨fun m => ?_, List.nodup_cons.mpr ⟨fun m => ?_, n3⟩⟩
          · rcases List.mem_cons.mp m with z | m
            · exact adx z.symm
            rcases in3 _ m with m | m
            · exact dj _ (by simp) m
            · exact n1.1 (by simp [m])
          · rcases in3 _ m with m | m
            · exact dj _ (by simp) m
            · exact n2.1 m
      · rw [if_neg h] at e
        by_cases h' : j = os.length
        · rw [if_pos h'] at e
          cases e
          have b1 := hr.snoc ho2 kE1
          refine ⟨a :: dx :: (E1 ++ E), ?_, fun b m => ?_, ?_⟩
          · unfold RepO
            refine ⟨a, dx, vs ++ [v], E1 ++ E, rfl, ?_, ?_, ?_, b1, rfl⟩
            · rw [upd_same, putF_zip_new nd]
              rw [← hlen, ← h']; exact lay_at hf
            · rw [upd_ne adx]; exact h2
            · rw [List.length_append, List.length_singleton, ← hlen, ← h']
              have := lay_at hf
              rcases Nat.lt_or_ge j (G.lay k).length with z | z
              · exact z
              · rw [List.getElem?_eq_none_iff.mpr z] at this; cases this
          · rcases List.mem_cons.mp m with rfl | m
            · simp
            rcases List.mem_cons.mp m with rfl | m
            · simp
            rcases List.mem_append.mp m with m | m
            · left; simp [m]
            · exact .inr m
          · refine List.nodup_cons.mpr ⟨fun m => ?_, List.nodup_cons.mpr ⟨fun m => ?_, List.nodup_append.mpr ⟨n2.2, nd2, fun x mx y my exy => dj x (by simp [mx]) (by rw [exy]; exact my)⟩⟩⟩
            · rcases List.mem_cons.mp m with z | m
              · exact adx z.symm
              rcases List.mem_append.mp m with m | m
              · exact n1.1 (by simp [m])
              · exact dj _ (by simp) m
            · rcases List.mem_append.mp m with m | m
              · exact n2.1 m
              · exact dj _ (by simp) m
        · rw [if_neg h'] at e; cases e
  | val d => cases e
  | lst os => cases e
  | dct ks ds => cases e
section
variable {G : GC} {X : Cx} {M : List Nat}
/-- behind the value: the container's place and its change -/
theorem at_path (ok : ClsOk G) {Z H H1 : Hp} {s : L2.St} {F : List Addr} {o q c : O} {r1 : Env} {nm : Bool} {v : V} {i : Nat} {ps : List Nat} (h : OkE G Z H s F o r1 nm v H1) (e : r1[i]? = some (some q)) (ep : getP G.fid q ps = some c) (hw : ownP G.fid q ps = true) :
    ∃ Z1 E w0 w F1, s[i]? = some (some w0) ∧ PathV G H1 w0 ps w ∧ Sub Z1 H1 ∧ RepO G H1 Z1 c w F1 ∧ RepO G H1 Z1 o v E ∧ F1.Nodup ∧ E.Nodup ∧ (∀ b ∈ F1, b ∉ E) ∧
      (∀ H2 c2 F3, (∀ b u, H1 b = some u → b ∉ F1 → H2 b = some u) → RepO G H2 Z1 c2 w F3 → (∀ b ∈ F3, b ∈ F1 ∨ b ∈ E ∨ H1 b = none) → F3.Nodup → OkS G M Z H s F (r1.set i (some (setP G.fid q ps c2))) s H2) := by
  obtain ⟨Z1, E, F', a1, a2, a3, a4, _⟩ := h
  obtain ⟨w0, w, F1, F2, b1, b2, b3, b4, b5, b6, b7⟩ := upd_at ok a3 a1.there a2 e ep
  refine ⟨Z1, E, w0, w, F1, b1, b2, a3.sub, b3, a1, b6, (List.nodup_append.mp a3.nd).1, b5, fun H2 c2 F3 k ro kf n3 => ?_⟩
  obtain ⟨F4, c1, c3, c4⟩ := b7 hw H2 c2 F3 k ro kf n3
  exact ⟨Z1, F4, c1, c3, a4.trans c4, .refl⟩
theorem s_fld (ok : ClsOk G) (hK : X.K = G.K) {oe e : Expr} {m : EM} {nm : Bool} {i f : Nat} {ps : List Nat} {n : Str} {pos pos' : Pos} (h : SimE G X e m nm) (hp : PthE G X oe i ps) (hn : G.fn f = n) (hlen : ∀ k, (G.lay k).length < 1000)
    (hs : swapsWith e (some (.Attribute oe n pos')) pos.line X.env = pure false := by rfl) : SimS G X M (.Assign [.Attribute oe n pos'] e pos) (mSetF G.fid i ps f m) := fun Z H r s F ow en ns ex => by
  have h1 := h Z H r s F ow en
  subst hn
  unfold mSetF at ns ex ⊢
  cases em : m r with
  | stuck => rw [em] at ns; exact absurd rfl ns
  | exc x r1 =>
    rw [em] at h1 ex
    exact wS.of (ps_fld pwE pwE hs) (wE.mono (h1 (exc_e ex)) fun _ _ z => z.elim)
  | ok o r1 =>
    rw [em] at h1 ns ex
    dsimp only at ns ex ⊢
    cases er : r1[i]? with
    | none => rw [er] at ns; exact absurd rfl ns
    | some q' =>
      cases q' with
      | none => rw [er] at ns; exact absurd rfl ns
      | some q =>
        rw [er] at ns ex
        dsimp only at ns ex ⊢
        cases ep : getP G.fid q ps with
        | none => rw [ep] at ns; exact absurd rfl ns
        | some c =>
          rw [ep] at ns ex
          dsimp only at ns ex ⊢
          cases es : setF G.fid f o c with
          | none => rw [es] at ns; exact absurd rfl ns
          | some c2 =>
            rw [es] at ns ex
            dsimp only at ns ex ⊢
            cases hw : ownP G.fid q ps with
            | false => rw [hw] at ns; exact absurd rfl ns
            | true =>
              refine wS.of (ps_fld pwE pwE hs) (wE.mono h1 fun v H1 qo => ?_)
              obtain ⟨Z1, E, w0, w, F1, b1, b2, bz, b3, b4, b5, b6, b7, b8⟩ := at_path (M := M) ok qo er ep hw
              refine (hp s H1 w0 w b1 b2).mono fun u H2 ⟨eu, eH⟩ => ?_
              subst eu eH
              obtain ⟨a, k, dx, kv, rfl, c1, c2', c3, c4, F3, c5, c6, c7⟩ := setF_rep ok b3 b4 es b5 b6 b7
              refine ⟨a, _, dx, kv, rfl, c1, ?_, ?_, Nat.lt_of_le_of_lt c3 (hlen k), ?_⟩
              · rw [hK]; exact ok.cl k f c2'
              · rw [hK]; exact ok.no k f c2'
              · exact b8 _ c2 F3 (fun b u q m => by rw [upd_ne fun z => m (by rw [z]; exact c4)]; exact q) c5 (fun b m => (c6 b m).imp id .inl) c7
end
end PL
set_option Elab.async false
set_option linter.all false
set_option maxRecDepth 100000
set_option maxHeartbeats 1000000
namespace PL
open PySem PySem.Spec PyProof.Rows L2

/-! ### defs -/
inductive Rf where
  | ok (o : O) (outs : Env)
  | exc (x : Exc) (outs : Env)
  | stuck
abbrev FM := List O → Rf
/-- the slots at M alone, of the first n -/
def maskE (M : List Nat) : Nat → Nat → Env → Env
  | _, 0, _ => []
  | i, n + 1, r => (if M.contains i = true then (r.headD none) else none) :: maskE M (i + 1) n r.tail
structure Fn where
  n : Nat
  p : Nat
  M : List Nat
  m : (Nat → FM) → (Nat → FM) → SM
def runB (f : Fn) (m : SM) (os : List O) : Rf := if os.length = f.p then
    match m (os.map some ++ List.replicate (f.n - f.p) none) with
    | .nx r => .ok (.val .non) (maskE f.M 0 f.p r)
    | .ret o r => .ok o (maskE f.M 0 f.p r)
    | .exc x r => .exc x (maskE f.M 0 f.p r)
    | _ => .stuck
  else .stuck
def stuckF : Nat → FM := fun _ _ => .stuck
def lv (T : Nat → Fn) : Nat → (Nat → FM) × (Nat → FM)
  | 0 => (stuckF, stuckF)
  | k + 1 => (fun f os => runB (T f) ((T f).m (lv T k).1 (lv T k).2) os, (lv T k).1)
/-- the def f at the level k -/
def callI (T : Nat → Fn) (k : Nat) : Nat → FM := (lv T k).1
theorem callI_succ (T : Nat → Fn) (k f : Nat) (os : List O) : callI T (k + 1) f os = runB (T f) ((T f).m (callI T k) (callI T (k - 1))) os := by
  cases k with
  | zero => rfl
  | succ k => rfl
section
variable (G : GC) (Z H : Hp) (vs : List V) (F : List Addr)
def OkF (o : O) (outs : Env) (v : V) (H' : Hp) : Prop := ∃ Z' E F', RepO G H' Z' o v E ∧ RepEnv G H' Z' outs (vs.map some) F' ∧ Ow Z' H' (E ++ F') ∧ Fr Z H F Z' H' (E ++ F')
def OkFX (x : Exc) (outs : Env) (cls : Value) (d : Option Addr) (H' : Hp) : Prop := ∃ Z' F', RepEnv G H' Z' outs (vs.map some) F' ∧ Ow Z' H' F' ∧ Fr Z H F Z' H' F' ∧ RepX G Z' x cls d
end
/-- what a def promises, by its interpretation -/
def spI (G : GC) (f : FM) (n : Nat) : Sp := fun vs H Q E => vs.length = n ∧ ∃ Z F os, RepOs G H Z os vs F ∧ Ow Z H F ∧ (∀ o outs, f os = .ok o outs → ∀ v H', OkF G Z H vs F o outs v H' → Q v H') ∧
  (∀ x outs, f os = .exc x outs → ∀ cls d H', OkFX G Z H vs F x outs cls d H' → E cls d H') ∧ f os ≠ .stuck
/-! ### from the arguments to the slots and back -/
theorem RepEnv.ofs {G : GC} {H Z : Hp} : ∀ {os : List O} {vs : List V} {F : List Addr}, RepOs G H Z os vs F → RepEnv G H Z (os.map some) (vs.map some) F
  | [], _, _, h => by
    unfold RepOs at h
    exact h.2
  | o :: os, _, _, h => by
    unfold RepOs at h
    obtain ⟨v, w, F1, F2, rfl, h1, h2, rfl⟩ := h
    exact ⟨v, _, F1, F2, rfl, h1, RepEnv.ofs h2, rfl⟩
theorem RepEnv.nones {G : GC} {H Z : Hp} : ∀ {n : Nat}, RepEnv G H Z (List.replicate n none) (List.replicate n none) []
  | 0 => rfl
  | n + 1 => ⟨none, _, rfl, RepEnv.nones⟩
theorem RepEnv.app {G : GC} {H Z : Hp} : ∀ {r r2 : Env} {t t2 : L2.St} {F F2 : List Addr}, RepEnv G H Z r t F → r.length = t.length → RepEnv G H Z r2 t2 F2 → RepEnv G H Z (r ++ r2) (t ++ t2) (F ++ F2)
  | [], _, t, _, F, _, h, l, h2 => by
    have h : F = [] := h
    subst h
    cases t with
    | nil => exact h2
    | cons _ _ => simp at l
  | none :: r, _, _, _, _, _, h, l, h2 => by
    obtain ⟨x, s', rfl, h⟩ := h
    exact ⟨x, _, rfl, h.app (by simpa using l) h2⟩
  | some o :: r, _, _, _, _, _, h, l, h2 => by
    obtain ⟨v, s', F1, F3, rfl, a, h, rfl⟩ := h
    exact ⟨v, _, F1, _, rfl, a, h.app (by simpa using l) h2, by rw [List.append_assoc]⟩
theorem RepEnv.start {G : GC} {H Z : Hp} {os : List O} {vs : List V} {F : List Addr} {N : List Str} {n p : Nat} (h : RepOs G H Z os vs F) (hn : N.length = n) (hp : vs.length = p) : RepEnv G H Z (os.map some ++ List.replicate (n - p) none) (start N vs) F := by
  unfold L2.start
  subst hn hp
  have := (RepEnv.ofs h).app (by rw [List.length_map, List.length_map, h.length]) (RepEnv.nones (G := G) (H := H) (Z := Z) (n := N.length - vs.length))
  rw [List.append_nil] at this
  exact this
theorem RepEnv.mask {G : GC} {H Z : Hp} {M : List Nat} : ∀ {n i : Nat} {r : Env} {t : L2.St} {F : List Addr} {us : L2.St}, RepEnv G H Z r t F → us.length = n → (∀ j, j < n → M.contains (i + j) = true → us[j]? = t[j]?) → ∃ F2, RepEnv G H Z (maskE M i n r) us F2 ∧ F2.Sublist F
  | 0, i, r, t, F, us, h, hl, hk => ⟨[], rfl, List.nil_sublist _⟩
  | n + 1, i, r, t, F, us, h, hl, hk => by
    cases us with
    | nil => simp at hl
    | cons u us =>
      have hl' : us.length = n := by simpa using hl
      unfold maskE
      cases r with
      | nil =>
        have h : F = [] := h
        subst h
        have en : RepEnv G H Z ([] : Env) t.tail [] := rfl
        obtain ⟨F2, b1, b2⟩ := en.mask (M := M) (n := n) (i := i + 1) (us := us) hl' (fun j hj hm => by
          have := hk (j + 1) (by omega) (by rw [show i + (j + 1) = i + 1 + j by omega]; exact hm)
          rw [List.getElem?_cons_succ] at this
          rw [this, List.getElem?_tail])
        refine ⟨F2, ?_, b2⟩
        have e : (if M.contains i = true then (([] : Env).headD none) else none) = none := by split <;> rfl
        rw [e]
        exact ⟨u, us, rfl, b1⟩
      | cons q r =>
        cases q with
        | none =>
          obtain ⟨x, s', rfl, h⟩ := h
          obtain ⟨F2, b1, b2⟩ := h.mask (M := M) (n := n) (i := i + 1) (us := us) hl' (fun j hj hm => by
            have := hk (j + 1) (by omega) (by rw [show i + (j + 1) = i + 1 + j by omega]; exact hm)
            simpa using this)
          refine ⟨F2, ?_, b2⟩
          have e : (if M.contains i = true then ((none :: r : Env).headD none) else none) = none := by split <;> rfl
          rw [e]
          exact ⟨u, us, rfl, b1⟩
        | some o =>
          obtain ⟨v, s', F1, F3, rfl, a, h, rfl⟩ := h
          obtain ⟨F2, b1, b2⟩ := h.mask (M := M) (n := n) (i := i + 1) (us := us) hl' (fun j hj hm => by
            have := hk (j + 1) (by omega) (by rw [show i + (j + 1) = i + 1 + j by omega]; exact hm)
            simpa using this)
          cases hm : M.contains i with
          | true =>
            have := hk 0 (by omega) (by rw [Nat.add_zero]; exact hm)
            simp only [List.getElem?_cons_zero, Option.some.injEq] at this
            subst this
            rw [if_pos rfl]
            exact ⟨F1 ++ F2, ⟨v, us, F1, F2, rfl, a, b1, rfl⟩, b2.append_left F1⟩
          | false =>
            rw [if_neg Bool.false_ne_true]
            exact ⟨F2, ⟨u, us, rfl, b1⟩, b2.trans (List.sublist_append_right F1 F3)⟩
/-! ### a def's body keeps the promise -/
theorem body_ok {G : GC} {X : Cx} {f : Fn} {m : SM} {body : List Stmt} {N : List Str} {vs : List V} {H : Hp} {Q : VK} {E : XK} (hN : N.length = f.n) (hM : ∀ i ∈ f.M, i < f.p) (hs : SimSs G X f.M body m) (hx : ∀ cls d s' H', E cls d H' → eX X cls d s' H') (h : spI G (runB f m) f.p vs H Q E) :
    wSs X body { nx := fun _ H' => Q .non H', rt := Q } (start N vs) H := by
  obtain ⟨hl, Z, F, os, ro, ow, k1, k2, k3⟩ := h
  have en := RepEnv.start (N := N) ro hN hl
  have h1 := hs Z H _ _ F ow en
  have hlo : os.length = f.p := ro.length.trans hl
  have keepM : ∀ (s' : L2.St), Keep f.M (start N vs) s' → ∀ j, j < f.p → f.M.contains (0 + j) = true → (vs.map some)[j]? = s'[j]? := fun s' kp j hj hm => by
    rw [Nat.zero_add] at hm
    rw [kp j (List.contains_iff_mem.mp hm)]
    unfold L2.start
    rw [List.getElem?_append_left (by rw [List.length_map, hl]; exact hj)]
  unfold runB at k1 k2 k3
  simp only [if_pos hlo] at k1 k2 k3
  cases em : m (os.map some ++ List.replicate (f.n - f.p) none) with
  | stuck => rw [em] at k3; exact absurd rfl k3
  | brk r => rw [em] at k3; exact absurd rfl k3
  | ct r => rw [em] at k3; exact absurd rfl k3
  | nx r =>
    rw [em] at h1 k1
    refine wSs.mono (h1 (fun z => nomatch z) trivial) ⟨fun s' H' ⟨Z', F', a1, a2, a3, a4⟩ => ?_, fun _ _ z => z.elim, fun _ _ z => z.elim, fun _ _ z => z.elim⟩
    obtain ⟨F2, b1, b2⟩ := a1.mask (M := f.M) (i := 0) (us := vs.map some) (by rw [List.length_map, hl]) (keepM s' a4)
    exact k1 _ _ rfl .non H' ⟨Z', [], F2, .ofV (by unfold RepV; rfl), b1, a2.less b2, a3.less fun b m => b2.subset m⟩
  | ret o r =>
    rw [em] at h1 k1
    refine wSs.mono (h1 (fun z => nomatch z) trivial) ⟨fun _ _ z => z.elim, fun v H' ⟨Z', E', F', s', a0, a1, a2, a3, a4⟩ => ?_, fun _ _ z => z.elim, fun _ _ z => z.elim⟩
    obtain ⟨F2, b1, b2⟩ := a1.mask (M := f.M) (i := 0) (us := vs.map some) (by rw [List.length_map, hl]) (keepM s' a4)
    exact k1 _ _ rfl v H' ⟨Z', E', F2, a0, b1, a2.less (b2.append_left E'), a3.less fun b m => (b2.append_left E').subset m⟩
  | exc x r =>
    rw [em] at h1 k2
    refine wSs.mono (h1 (fun z => nomatch z) fun cls d s' H' kp ⟨Z', F', a1, a2, a3, a4⟩ => ?_) ⟨fun _ _ z => z.elim, fun _ _ z => z.elim, fun _ _ z => z.elim, fun _ _ z => z.elim⟩
    obtain ⟨F2, b1, b2⟩ := a1.mask (M := f.M) (i := 0) (us := vs.map some) (by rw [List.length_map, hl]) (keepM s' kp)
    exact hx cls d s' H' (k2 _ _ rfl cls d H' ⟨Z', F2, b1, a2.less b2, a3.less fun b m => b2.subset m, a4⟩)
/-! ### the arguments of a call: values, or slots that are handed over -/
def Tied (s : L2.St) : List (Option Nat) → List V → Prop
  | [], vs => vs = []
  | none :: js, vs => ∃ v w, vs = v :: w ∧ Tied s js w
  | some j :: js, vs => ∃ v w, vs = v :: w ∧ s[j]? = some (some v) ∧ Tied s js w
def OkX2 (G : GC) (Z H : Hp) (s : L2.St) (F : List Addr) (js : List (Option Nat)) (os : Env) (r : Env) (nm : Bool) (vs : List V) (H' : Hp) : Prop :=
  ∃ Z' E F', RepEnv G H' Z' os (vs.map some) E ∧ os.length = vs.length ∧ RepEnv G H' Z' r s F' ∧ Ow Z' H' (E ++ F') ∧ Fr Z H F Z' H' (E ++ F') ∧ (nm = true → Sub H H') ∧ Tied s js vs
def SimX (G : GC) (X : Cx) (es : List Expr) (js : List (Option Nat)) (m : Env → R Env) (nm : Bool) : Prop := ∀ Z H r s F, Ow Z H F → RepEnv G H Z r s F → match m r with
  | .ok os r' => wA X es s H (OkX2 G Z H s F js os r' nm)
  | .exc x r' => (∀ cls d H', OkX G Z H s F x r' cls d H' → eX X cls d s H') → wA X es s H (fun _ _ => False)
  | .stuck => True
def xNil : Env → R Env := fun r => .ok [] r
def xIn (m : EM) (ms : Env → R Env) : Env → R Env := fun r => match m r with
  | .ok o r1 => match ms r1 with
    | .ok os r2 => .ok (some o :: os) r2
    | .exc x r2 => .exc x r2
    | .stuck => .stuck
  | .exc x r1 => .exc x r1
  | .stuck => .stuck
def xIo (j : Nat) (ms : Env → R Env) : Env → R Env := fun r => match r[j]? with
  | some (some _) => match ms r with
    | .ok os r2 => .ok (none :: os) r2
    | .exc x r2 => .exc x r2
    | .stuck => .stuck
  | _ => .stuck
section
variable {G : GC} {X : Cx}
theorem x_nil : SimX G X [] [] xNil true := fun Z H r s F ow en => wA.of pa_nil ⟨Z, [], F, rfl, rfl, en, ow, .refl, fun _ => .refl _, rfl⟩
theorem x_in {e : Expr} {es : List Expr} {js : List (Option Nat)} {m : EM} {ms : Env → R Env} {nm nm1 : Bool} (h : SimE G X e m nm) (hs : SimX G X es js ms nm1)
    (ha : starEach (e :: es) X.env = (false, eval e X.env) :: starEach es X.env := by rfl) : SimX G X (e :: es) (none :: js) (xIn m ms) (nm && nm1) := fun Z H r s F ow en => by
  have h1 := h Z H r s F ow en
  unfold xIn
  cases em : m r with
  | stuck => trivial
  | exc x r1 =>
    rw [em] at h1
    exact fun k => wA.of (pa_cons pwE pwA ha) ((h1 k).mono fun _ _ z => z.elim)
  | ok o r1 =>
    rw [em] at h1
    dsimp only
    have step : ∀ (Q : List V → Hp → Prop), (∀ v H1, OkE G Z H s F o r1 nm v H1 → wA X es s H1 fun xs H2 => Q (v :: xs) H2) → wA X (e :: es) s H Q := fun Q hq => wA.of (pa_cons pwE pwA ha) (h1.mono hq)
    cases em2 : ms r1 with
    | stuck => trivial
    | exc x r2 =>
      intro k
      refine step _ fun v H1 ⟨Z1, E1, F1, a1, a2, a3, a4, a5⟩ => ?_
      have h2 := hs Z1 H1 r1 s F1 (a3.less (List.sublist_append_right _ _)) a2
      rw [em2] at h2
      exact h2 fun cls d H' q => k cls d H' (q.then a1 a3 a4)
    | ok os r2 =>
      refine step _ fun v H1 ⟨Z1, E1, F1, a1, a2, a3, a4, a5⟩ => ?_
      have h2 := hs Z1 H1 r1 s F1 (a3.less (List.sublist_append_right _ _)) a2
      rw [em2] at h2
      refine wA.mono h2 fun vs H2 ⟨Z2, E2, F2, c1, cl, c2, c3, c4, c5, c6⟩ => ?_
      obtain ⟨b1, b2, b3⟩ := c4.beside a3 c3 a1.there
      refine ⟨Z2, E1 ++ E2, F2, ⟨v, _, E1, E2, rfl, a1.mono c4.zs b3, c1, rfl⟩, by rw [List.length_cons, List.length_cons, cl], c2, ?_, ?_, fun q => ?_, v, vs, rfl, c6⟩
      · rw [List.append_assoc]; exact b2
      · rw [List.append_assoc]; exact a4.trans b1
      · rw [Bool.and_eq_true] at q
        exact (a5 q.1).trans (c5 q.2)
theorem x_io {j : Nat} {x : Str} {pos : Pos} {es : List Expr} {js : List (Option Nat)} {ms : Env → R Env} {nm1 : Bool} (hs : SimX G X es js ms nm1) (hN : X.N[j]? = some x) (hv : Vis X.env.scope x)
    (ha : starEach (Expr.Name x pos :: es) X.env = (false, eval (Expr.Name x pos) X.env) :: starEach es X.env := by rfl) (hd : (x == ("__debug__" : Str)) = false := by decide) (hcd : (x == ("__classdict__" : Str)) = false := by decide) : SimX G X (Expr.Name x pos :: es) (some j :: js) (xIo j ms) nm1 := fun Z H r s F ow en => by
  unfold xIo
  cases er : r[j]? with
  | none => trivial
  | some q =>
    cases q with
    | none => trivial
    | some o =>
      dsimp only
      obtain ⟨v, e1, _⟩ := slot_get ow en er
      have h2 := hs Z H r s F ow en
      have step : ∀ (Q : List V → Hp → Prop), (wA X es s H fun xs H2 => Q (v :: xs) H2) → wA X (Expr.Name x pos :: es) s H Q := fun Q hq => wA.of (pa_cons (pe_var hN hv hd hcd) pwA ha) ⟨v, e1, hq⟩
      cases em2 : ms r with
      | stuck => trivial
      | exc x r2 =>
        rw [em2] at h2
        exact fun k => step _ (h2 k)
      | ok os r2 =>
        rw [em2] at h2
        refine step _ (wA.mono h2 fun vs H2 ⟨Z2, E2, F2, c1, cl, c2, c3, c4, c5, c6⟩ => ?_)
        exact ⟨Z2, E2, F2, ⟨some v, _, rfl, c1⟩, by rw [List.length_cons, List.length_cons, cl], c2, c3, c4, c5, v, vs, rfl, e1, c6⟩
end
def fillIn : List (Option Nat) → Env → Env → Option (List O × Env)
  | [], [], r => some ([], r)
  | none :: js, some o :: os, r => match fillIn js os r with
    | some (as, r2) => some (o :: as, r2)
    | none => none
  | some j :: js, none :: os, r => match r[j]? with
    | some (some o) => match fillIn js os (r.set j none) with
      | some (as, r2) => some (o :: as, r2)
      | none => none
    | _ => none
  | _, _, _ => none
def backIn : List (Option Nat) → Env → Env → Option Env
  | [], _, r => some r
  | none :: js, _ :: outs, r => backIn js outs r
  | some _ :: js, none :: outs, r => backIn js outs r
  | some j :: js, some o :: outs, r => match r[j]? with
    | some none => backIn js outs (r.set j (some o))
    | _ => none
  | _, [], _ => none
theorem fill_ok {G : GC} {H Z : Hp} {s : L2.St} : ∀ {js : List (Option Nat)} {os r : Env} {vs : List V} {E F : List Addr} {as : List O} {r2 : Env}, RepEnv G H Z os (vs.map some) E → os.length = vs.length → RepEnv G H Z r s F → Tied s js vs → fillIn js os r = some (as, r2) →
    ∃ E2 F2, RepOs G H Z as vs E2 ∧ RepEnv G H Z r2 s F2 ∧ (E2 ++ F2).Perm (E ++ F)
  | [], os, r, vs, E, F, as, r2, h1, hl, h2, ht, hf => by
    have ht : vs = [] := ht
    subst ht
    cases os with
    | nil =>
      unfold fillIn at hf
      cases hf
      have h1 : E = [] := h1
      subst h1
      exact ⟨[], F, .nil, h2, .refl _⟩
    | cons _ _ => simp at hl
  | none :: js, os, r, vs, E, F, as, r2, h1, hl, h2, ht, hf => by
    obtain ⟨v, w, rfl, ht⟩ := ht
    cases os with
    | nil => simp at hl
    | cons q os =>
      cases q with
      | none => simp [fillIn] at hf
      | some o =>
        unfold fillIn at hf
        obtain ⟨v', s', F1, F3, e, a, h1, rfl⟩ := h1
        simp only [List.map_cons, List.cons.injEq, Option.some.injEq] at e
        obtain ⟨rfl, rfl⟩ := e
        cases e2 : fillIn js os r with
        | none => rw [e2] at hf; cases hf
        | some p =>
          obtain ⟨as', r2'⟩ := p
          rw [e2] at hf
          cases hf
          obtain ⟨E2, F2, b1, b2, b3⟩ := fill_ok h1 (by simpa using hl) h2 ht e2
          refine ⟨F1 ++ E2, F2, .cons a b1, b2, ?_⟩
          rw [List.append_assoc, List.append_assoc]
          exact b3.append_left F1
  | some j :: js, os, r, vs, E, F, as, r2, h1, hl, h2, ht, hf => by
    obtain ⟨v, w, rfl, hj, ht⟩ := ht
    cases os with
    | nil => simp at hl
    | cons q os =>
      cases q with
      | some o => simp [fillIn] at hf
      | none =>
        unfold fillIn at hf
        obtain ⟨x, s', e, h1⟩ := h1
        simp only [List.map_cons, List.cons.injEq] at e
        obtain ⟨rfl, rfl⟩ := e
        cases er : r[j]? with
        | none => rw [er] at hf; cases hf
        | some q =>
          cases q with
          | none => rw [er] at hf; cases hf
          | some o =>
            rw [er] at hf
            dsimp only at hf
            obtain ⟨v', G1, G2, c1, c2, c3, c4⟩ := h2.get er
            rw [hj] at c1
            cases c1
            cases e2 : fillIn js os (r.set j none) with
            | none => rw [e2] at hf; cases hf
            | some p =>
              obtain ⟨as', r2'⟩ := p
              rw [e2] at hf
              cases hf
              obtain ⟨E2, F2, b1, b2, b3⟩ := fill_ok h1 (by simpa using hl) c3 ht e2
              refine ⟨G1 ++ E2, F2, .cons c2 b1, b2, ?_⟩
              rw [List.append_assoc]
              exact ((b3.append_left G1).trans (List.perm_append_comm_assoc G1 E G2)).trans (c4.append_left E)
theorem back_ok {G : GC} {H Z : Hp} {s : L2.St} : ∀ {js : List (Option Nat)} {outs r : Env} {vs : List V} {E F : List Addr} {r2 : Env}, RepEnv G H Z outs (vs.map some) E → RepEnv G H Z r s F → Tied s js vs → backIn js outs r = some r2 →
    ∃ F2 F3, RepEnv G H Z r2 s F2 ∧ F3.Sublist (E ++ F) ∧ F2.Perm F3
  | [], outs, r, vs, E, F, r2, h1, h2, ht, hf => by
    unfold backIn at hf
    cases hf
    exact ⟨F, F, h2, List.sublist_append_right _ _, .refl _⟩
  | none :: js, outs, r, vs, E, F, r2, h1, h2, ht, hf => by
    obtain ⟨v, w, rfl, ht⟩ := ht
    cases outs with
    | nil => simp [backIn] at hf
    | cons q outs =>
      unfold backIn at hf
      cases q with
      | none =>
        obtain ⟨x, s', e, h1⟩ := h1
        simp only [List.map_cons, List.cons.injEq] at e
        obtain ⟨rfl, rfl⟩ := e
        exact back_ok h1 h2 ht hf
      | some o =>
        obtain ⟨v', s', F1, F3, e, a, h1, rfl⟩ := h1
        simp only [List.map_cons, List.cons.injEq, Option.some.injEq] at e
        obtain ⟨rfl, rfl⟩ := e
        obtain ⟨F4, F5, b1, b2, b3⟩ := back_ok h1 h2 ht hf
        refine ⟨F4, F5, b1, b2.trans ?_, b3⟩
        rw [List.append_assoc]
        exact List.sublist_append_right _ _
  | some j :: js, outs, r, vs, E, F, r2, h1, h2, ht, hf => by
    obtain ⟨v, w, rfl, hj, ht⟩ := ht
    cases outs with
    | nil => simp [backIn] at hf
    | cons q outs =>
      unfold backIn at hf
      cases q with
      | none =>
        obtain ⟨x, s', e, h1⟩ := h1
        simp only [List.map_cons, List.cons.injEq] at e
        obtain ⟨rfl, rfl⟩ := e
        exact back_ok h1 h2 ht hf
      | some o =>
        obtain ⟨v', s', F1, F3, e, a, h1, rfl⟩ := h1
        simp only [List.map_cons, List.cons.injEq, Option.some.injEq] at e
        obtain ⟨rfl, rfl⟩ := e
        dsimp only at hf
        cases er : r[j]? with
        | none => rw [er] at hf; cases hf
        | some q =>
          cases q with
          | some _ => rw [er] at hf; cases hf
          | none =>
            rw [er] at hf
            dsimp only at hf
            obtain ⟨G1, c1, c2⟩ := h2.put er hj a
            obtain ⟨F4, F5, b1, b2, b3⟩ := back_ok h1 c1 ht hf
            -- F5 is a sublist of F3 ++ G1, a permutation of (F1 ++ F3) ++ F
            have p : (F3 ++ G1).Perm ((F1 ++ F3) ++ F) := by
              refine (c2.append_left F3).trans ?_
              rw [List.append_assoc]
              exact (List.perm_append_comm_assoc F3 F1 F)
            obtain ⟨F6, p1, p2⟩ := List.exists_perm_sublist b2 p
            exact ⟨F4, F6, b1, p2, b3.trans p1.symm⟩
end PL
set_option Elab.async false
set_option linter.all false
set_option maxRecDepth 100000
set_option maxHeartbeats 1000000
namespace PL
open PySem PySem.Spec PyProof.Rows L2

/-! ### calls -/
def CallOk (G : GC) (mg : Str → Option Value) (base : Heap) (k : Nat) (x : Str) (f : FM) (n : Nat) : Prop :=
  ∃ a fd ps, FnOk G.P G.w G.K mg base (L2.CX G.P G.w) k a fd ps (spI G f n) ∧ mg x = some (.ref a) ∧ PySem.W.keepIn G.K (.ref a) = true ∧ Binds G.K fd ps [] ∧ ∀ os, f os ≠ .stuck → os.length = n
/-- what a body's context has -/
structure BX (G : GC) (mg : Str → Option Value) (base : Heap) (X : Cx) (k : Nat) : Prop where
  p : X.prog = G.P
  w : X.w = G.w
  K : X.K = G.K
  mg : X.mg = mg
  base : X.base = base
  room : Room k X.A
def mCall (f : FM) (js : List (Option Nat)) (ms : Env → R Env) : EM := fun r => match ms r with
  | .ok os r1 => match fillIn js os r1 with
    | some (as, r2) => match f as with
      | .ok o outs => match backIn js outs r2 with
        | some r3 => .ok o r3
        | none => .stuck
      | .exc x outs => match backIn js outs r2 with
        | some r3 => .exc x r3
        | none => .stuck
      | .stuck => .stuck
    | none => .stuck
  | .exc x r1 => .exc x r1
  | .stuck => .stuck
def mCallF (f : FM) (ms : Env → R (List O)) : EM := fun r => match ms r with
  | .ok os r1 => match f ((frzs os).map .val) with
    | .ok o _ => .ok o r1
    | .exc x _ => .exc x r1
    | .stuck => .stuck
  | .exc x r1 => .exc x r1
  | .stuck => .stuck
section
variable {G : GC} {X : Cx} {mg : Str → Option Value} {base : Heap} {k n : Nat} {f : FM} {x : Str} {p pos : Pos}
/-- f() -/
theorem pe_callS0 {CX : CXT} {a : Addr} {fd : FuncData} {ps : List Str} {sp : Sp} {E : L2.St → XK} (F : FnOk X.prog X.w X.K X.mg X.base CX k a fd ps sp) (hr : Room k X.A) (hg : Gl X x) (hm : X.mg x = some (.ref a)) (hk : PySem.W.keepIn X.K (.ref a) = true) (hb : Binds X.K fd ps []) (hx : ∀ σ, PassesAt CX X σ (E σ))
    (hdb : (x == ("__debug__" : Str)) = false := by decide) : PE X (.Call (.Name x p) [] [] pos) (tCallS sp E tNil) := by
  refine ⟨fun pins s σ H Q I h => ?_⟩
  refine wpAny_Call_Name_kw (ld_glob I hg hm ?_ hdb)
  exact PySem.W.callWith_K0 I.kIn hk (run_fnS (us := []) (vs := []) F hr hb (hx σ) I .nil h)
theorem wA_nil {s : L2.St} {H : Hp} {Q : List V → Hp → Prop} (h : wA X [] s H Q) : ∀ (pins : List (Addr × Obj)) (t : Shared), Inv X pins s H t → wpAny (model X.prog X.w) X.A (pure ([] : List Value)) (AP X pins s Q) X.xe t := fun pins t I => h ⟨0, 0, 0, 0⟩ pins t I
/-- the reading of a call, whatever the number of its arguments -/
theorem pe_callN {es : List Expr} (bx : BX G mg base X k) (c : CallOk G mg base k x f n) (hg : Gl X x) (hdb : (x == ("__debug__" : Str)) = false) (hpl : ∀ e es', es = e :: es' → starEach (e :: es') X.env = (false, eval e X.env) :: starEach es' X.env ∧ (backTo pos (starEach es' X.env)).any (·.1) = false) :
    PE X (.Call (.Name x p) es [] pos) (tCallS (spI G f n) (fun σ cls d H => eX X cls d σ H) (match es with | [] => tNil | es => wA X es)) := by
  obtain ⟨a, fd, ps, F, hm, hk, hb, _⟩ := c
  have F' : FnOk X.prog X.w X.K X.mg X.base (L2.CX X.prog X.w) k a fd ps (spI G f n) := by rw [bx.p, bx.w, bx.K, bx.mg, bx.base]; exact F
  have hm' : X.mg x = some (.ref a) := by rw [bx.mg]; exact hm
  have hk' : PySem.W.keepIn X.K (.ref a) = true := by rw [bx.K]; exact hk
  have hb' : Binds X.K fd ps [] := by rw [bx.K]; exact hb
  have hx : ∀ σ, PassesAt (L2.CX X.prog X.w) X σ ((fun σ cls d H => eX X cls d σ H) σ) := fun σ => passAt (W := eX X) takes_eX σ
  cases es with
  | nil => exact pe_callS0 F' bx.room hg hm' hk' hb' hx hdb
  | cons e es => exact pe_callS F' bx.room hg hm' hk' hb' hx pwA hdb (hpl e es rfl).1 (hpl e es rfl).2
def stars (X : Cx) (pos : Pos) (es : List Expr) : Prop := ∀ e es', es = e :: es' → starEach (e :: es') X.env = (false, eval e X.env) :: starEach es' X.env ∧ (backTo pos (starEach es' X.env)).any (·.1) = false
theorem stars_nil : stars X pos [] := fun _ _ h => nomatch h
theorem stars_cons {e : Expr} {es : List Expr} (h1 : starEach (e :: es) X.env = (false, eval e X.env) :: starEach es X.env := by rfl) (h2 : (backTo pos (starEach es X.env)).any (·.1) = false := by rfl) : stars X pos (e :: es) := fun _ _ h => by
  cases h
  exact ⟨h1, h2⟩
theorem call_run {es : List Expr} {s : L2.St} {H : Hp} {Q : VK} {Q1 : List V → Hp → Prop} (bx : BX G mg base X k) (c : CallOk G mg base k x f n) (hg : Gl X x) (hpl : stars X pos es) (hdb : (x == ("__debug__" : Str)) = false) (h : wA X es s H Q1) (h0 : es = [] → Q1 [] H) (hq : ∀ vs H1, Q1 vs H1 → spI G f n vs H1 Q (fun cls d H => eX X cls d s H)) :
    wE X (.Call (.Name x p) es [] pos) s H Q := by
  refine wE.of (pe_callN bx c hg hdb hpl) ?_
  cases es with
  | nil => exact hq [] H (h0 rfl)
  | cons e es => exact wA.mono h hq
theorem beside_call {Z H Z1 H1 : Hp} {s : L2.St} {vs : List V} {r2 r3 outs : Env} {js : List (Option Nat)} {E1 F2 E' F' : List Addr} (hE : Ow Z H (E1 ++ F2)) (t : Tied s js vs) (er : RepEnv G H Z r2 s F2) (hb : backIn js outs r2 = some r3)
    (a1 : RepEnv G H1 Z1 outs (vs.map some) F') (a2 : Ow Z1 H1 (E' ++ F')) (a3 : Fr Z H E1 Z1 H1 (E' ++ F')) : ∃ F4, RepEnv G H1 Z1 r3 s F4 ∧ Ow Z1 H1 (E' ++ F4) ∧ Fr Z H (E1 ++ F2) Z1 H1 (E' ++ F4) := by
  have p1 : (F2 ++ E1).Perm (E1 ++ F2) := List.perm_append_comm
  obtain ⟨b1, b2, b3⟩ := a3.beside (hE.perm p1) a2 er.there
  obtain ⟨F4, F5, c1, c2, c3⟩ := back_ok a1 (er.mono a3.zs b3) t hb
  have p2 : (E' ++ (F' ++ F2)).Perm (F2 ++ (E' ++ F')) := by
    rw [← List.append_assoc]
    exact List.perm_append_comm
  have p3 : (E' ++ F4).Perm (E' ++ F5) := c3.append_left E'
  have sl : (E' ++ F5).Sublist (E' ++ (F' ++ F2)) := c2.append_left E'
  refine ⟨F4, c1, ((b2.perm p2).less sl).perm p3, ⟨b1.zs, fun a u e m => b1.fr a u e fun z => m (p1.mem_iff.mp z), fun a m => ?_, fun a u e => ?_⟩⟩
  · rcases b1.ow a (p2.subset (sl.subset (p3.subset m))) with z | z
    · exact .inl (p1.mem_iff.mp z)
    · exact .inr z
  · rcases b1.zn a u e with z | z | z
    · exact .inl z
    · exact .inr (.inl (p1.mem_iff.mp z))
    · exact .inr (.inr z)
theorem Fr.permL {Z H Z1 H1 : Hp} {F F2 E : List Addr} (f : Fr Z H F Z1 H1 E) (p : F2.Perm F) : Fr Z H F2 Z1 H1 E := ⟨f.zs, fun a u e m => f.fr a u e fun z => m (p.mem_iff.mpr z), fun a m => (f.ow a m).imp p.mem_iff.mpr id, fun a u e => (f.zn a u e).imp id (.imp p.mem_iff.mpr id)⟩
theorem OkX2.of_nil {Z H : Hp} {s : L2.St} {F : List Addr} {js : List (Option Nat)} {ms : Env → R Env} {nm : Bool} {r os r1 : Env} (h : SimX G X [] js ms nm) : True := trivial
/-- f(..), what it is handed it may keep -/
theorem e_call {es : List Expr} {js : List (Option Nat)} {ms : Env → R Env} {nm : Bool} (bx : BX G mg base X k) (c : CallOk G mg base k x f n) (h : SimX G X es js ms nm) (hg : Gl X x) (hpl : stars X pos es) (h0 : es = [] → js = [] ∧ ms = xNil) (hdb : (x == ("__debug__" : Str)) = false := by decide) :
    SimE G X (.Call (.Name x p) es [] pos) (mCall f js ms) false := fun Z H r s F ow en => by
  have h1 := h Z H r s F ow en
  unfold mCall
  cases em : ms r with
  | stuck => trivial
  | exc x r1 =>
    rw [em] at h1
    intro kx
    cases es with
    | nil =>
      obtain ⟨_, e⟩ := h0 rfl
      rw [e] at em; cases em
    | cons e es => exact call_run bx c hg hpl hdb (h1 kx) (fun z => nomatch z) fun _ _ z => z.elim
  | ok os r1 =>
    rw [em] at h1
    dsimp only
    have z0 : es = [] → OkX2 G Z H s F js os r1 nm [] H := fun e => by
      subst e
      obtain ⟨rfl, rfl⟩ := h0 rfl
      unfold xNil at em
      cases em
      exact ⟨Z, [], F, rfl, rfl, en, ow, .refl, fun _ => .refl _, rfl⟩
    cases ef : fillIn js os r1 with
    | none => trivial
    | some q =>
      obtain ⟨as, r2⟩ := q
      dsimp only
      have clen := c.choose_spec.choose_spec.choose_spec.2.2.2.2
      cases eo : f as with
      | stuck => trivial
      | ok o outs =>
        dsimp only
        cases eb : backIn js outs r2 with
        | none => trivial
        | some r3 =>
          refine call_run bx c hg hpl hdb h1 z0 fun vs H1 ⟨Z1, E1, F1, a1, al, a2, a3, a4, _, a6⟩ => ?_
          obtain ⟨E2, F2, b1, b2, b3⟩ := fill_ok a1 al a2 a6 ef
          have ow2 : Ow Z1 H1 (E2 ++ F2) := a3.perm b3
          refine ⟨?_, Z1, E2, as, b1, ow2.less (List.sublist_append_left _ _), fun o' outs' e v H' ⟨Z', E', F', d0, d1, d2, d3⟩ => ?_, fun x' outs' e => ?_, ?_⟩
          · rw [← b1.length]; exact clen as (by rw [eo]; exact fun z => nomatch z)
          · rw [eo] at e; cases e
            obtain ⟨F4, g1, g2, g3⟩ := beside_call ow2 a6 b2 eb d1 d2 d3
            exact ⟨Z', E', F4, d0, g1, g2, a4.trans (g3.permL b3.symm), fun z => nomatch z⟩
          · rw [eo] at e; cases e
          · rw [eo]; exact fun z => nomatch z
      | exc xx outs =>
        dsimp only
        cases eb : backIn js outs r2 with
        | none => trivial
        | some r3 =>
          intro kx
          refine call_run bx c hg hpl hdb h1 z0 fun vs H1 ⟨Z1, E1, F1, a1, al, a2, a3, a4, _, a6⟩ => ?_
          obtain ⟨E2, F2, b1, b2, b3⟩ := fill_ok a1 al a2 a6 ef
          have ow2 : Ow Z1 H1 (E2 ++ F2) := a3.perm b3
          refine ⟨?_, Z1, E2, as, b1, ow2.less (List.sublist_append_left _ _), fun o' outs' e => ?_, fun x' outs' e cls d H' ⟨Z', F', d1, d2, d3, d4⟩ => ?_, ?_⟩
          · rw [← b1.length]; exact clen as (by rw [eo]; exact fun z => nomatch z)
          · rw [eo] at e; cases e
          · rw [eo] at e; cases e
            obtain ⟨F4, g1, g2, g3⟩ := beside_call (E' := []) ow2 a6 b2 eb d1 d2 d3
            exact kx cls d H' ⟨Z', F4, g1, g2, a4.trans (g3.permL b3.symm), d4⟩
          · rw [eo]; exact fun z => nomatch z
/-- f(..), the arguments as data -/
theorem e_callF {es : List Expr} {ms : Env → R (List O)} {nm : Bool} (bx : BX G mg base X k) (c : CallOk G mg base k x f n) (h : SimA G X es ms nm) (hg : Gl X x) (hpl : stars X pos es) (h0 : es = [] → ms = mNil) (hdb : (x == ("__debug__" : Str)) = false := by decide) :
    SimE G X (.Call (.Name x p) es [] pos) (mCallF f ms) nm := fun Z H r s F ow en => by
  have h1 := h Z H r s F ow en
  unfold mCallF
  cases em : ms r with
  | stuck => trivial
  | exc x r1 =>
    rw [em] at h1
    intro kx
    cases es with
    | nil =>
      rw [h0 rfl] at em; cases em
    | cons e es => exact call_run bx c hg hpl hdb (h1 kx) (fun z => nomatch z) fun _ _ z => z.elim
  | ok os r1 =>
    rw [em] at h1
    dsimp only
    have z0 : es = [] → OkA G Z H s F os r1 nm [] H := fun e => by
      subst e
      have e := h0 rfl
      subst e
      unfold mNil at em
      cases em
      exact ⟨Z, [], F, .nil, en, ow, .refl, fun _ => .refl _⟩
    have clen := c.choose_spec.choose_spec.choose_spec.2.2.2.2
    cases eo : f ((frzs os).map .val) with
    | stuck => trivial
    | ok o outs =>
      refine call_run bx c hg hpl hdb h1 z0 fun vs H1 q => ?_
      obtain ⟨Z1, F1, a1, a2, a3, a4, a5⟩ := q.frozen
      have ro : RepOs G H1 Z1 ((frzs os).map .val) vs [] := .vals a1
      refine ⟨?_, Z1, [], _, ro, a3.less (List.nil_sublist _), fun o' outs' e v H' ⟨Z', E', F', d0, d1, d2, d3⟩ => ?_, fun x' outs' e => ?_, ?_⟩
      · rw [← ro.length]; exact clen _ (by rw [eo]; exact fun z => nomatch z)
      · rw [eo] at e; cases e
        have d4 := d3.less (F2 := E') fun b m => List.mem_append_left _ m
        have ow1 : Ow Z1 H1 (F1 ++ []) := by rw [List.append_nil]; exact a3
        obtain ⟨b1, b2, b3⟩ := d4.beside ow1 (d2.less (List.sublist_append_left _ _)) a2.there
        rw [List.append_nil] at b1
        have pc : (E' ++ F1).Perm (F1 ++ E') := List.perm_append_comm
        exact ⟨Z', E', F1, d0, a2.mono d3.zs b3, b2.perm pc, a4.trans (b1.less fun b m => pc.mem_iff.mp m), fun z => (a5 z).trans fun b u e => d3.fr b u e (fun z => nomatch z)⟩
      · rw [eo] at e; cases e
      · rw [eo]; exact fun z => nomatch z
    | exc xx outs =>
      intro kx
      refine call_run bx c hg hpl hdb h1 z0 fun vs H1 q => ?_
      obtain ⟨Z1, F1, a1, a2, a3, a4, a5⟩ := q.frozen
      have ro : RepOs G H1 Z1 ((frzs os).map .val) vs [] := .vals a1
      refine ⟨?_, Z1, [], _, ro, a3.less (List.nil_sublist _), fun o' outs' e => ?_, fun x' outs' e cls d H' ⟨Z', F', d1, d2, d3, d4⟩ => ?_, ?_⟩
      · rw [← ro.length]; exact clen _ (by rw [eo]; exact fun z => nomatch z)
      · rw [eo] at e; cases e
      · rw [eo] at e; cases e
        have d5 := d3.less (F2 := []) fun b m => nomatch m
        have ow1 : Ow Z1 H1 (F1 ++ []) := by rw [List.append_nil]; exact a3
        obtain ⟨b1, b2, b3⟩ := d5.beside ow1 (d2.less (List.nil_sublist _)) a2.there
        rw [List.append_nil] at b1 b2
        exact kx cls d H' ⟨Z', F1, a2.mono d3.zs b3, b2, a4.trans b1, d4⟩
      · rw [eo]; exact fun z => nomatch z
end
end PL
set_option Elab.async false
set_option linter.all false
set_option maxRecDepth 100000
set_option maxHeartbeats 1000000
namespace PL
open PySem PySem.Spec PyProof.Rows L2

/-! ### the operators by data -/
theorem rb_int {G : GC} {H Z : Hp} {i : Int} {v : V} (h : RepB G H Z (.int i) v) : v = .int i := by unfold RepB RepV at h; exact h
theorem rb_bl {G : GC} {H Z : Hp} {i : Bool} {v : V} (h : RepB G H Z (.bl i) v) : v = .bl i := by unfold RepB RepV at h; exact h
theorem rb_str {G : GC} {H Z : Hp} {i : Str} {v : V} (h : RepB G H Z (.str i) v) : v = .str i := by unfold RepB RepV at h; exact h
theorem rb_non {G : GC} {H Z : Hp} {v : V} (h : RepB G H Z .non v) : v = .non := by unfold RepB RepV at h; exact h
theorem rb_tup {G : GC} {H Z : Hp} (s : Sub Z H) {ds : List D} {v : V} (h : RepB G H Z (.tup ds) v) : ∃ a vs, v = .ref a ∧ SqT G.K Z a vs ∧ SqT G.K H a vs ∧ RepVs G Z ds vs := by
  unfold RepB RepV at h
  obtain ⟨a, vs, e, q, t⟩ := h
  exact ⟨a, vs, e, q, s.sqT q, t⟩
theorem rb_lst {G : GC} {H Z : Hp} {ds : List D} {v : V} (h : RepB G H Z (.lst ds) v) : ∃ a vs, v = .ref a ∧ SqL G.K H a vs ∧ RepVs G Z ds vs := h
theorem rv_int {G : GC} {Z : Hp} {i : Int} : RepV G Z (.int i) (.int i) := by unfold RepV; rfl
theorem rv_bl {G : GC} {Z : Hp} {i : Bool} : RepV G Z (.bl i) (.bl i) := by unfold RepV; rfl
theorem rv_str {G : GC} {Z : Hp} {i : Str} : RepV G Z (.str i) (.str i) := by unfold RepV; rfl
theorem rv_non {G : GC} {Z : Hp} : RepV G Z .non .non := by unfold RepV; rfl
/-! #### + -/
section
variable {X : Cx}
def rCatL (K : PySem.W.Frag) : R2 := fun x y H Q => ∃ l b xs zs, x = .ref l ∧ y = .ref b ∧ SqL K H l xs ∧ SqL K H b zs ∧ xs.length + zs.length ≤ sizeLine ∧ ∀ p, H p = none → Q (.ref p) (upd H p (.lst (xs ++ zs)))
theorem op_catL : OpR X (binaryOp .Add) (rCatL X.K) := by
  intro pins s σ H x y v u Q I rx ry h
  obtain ⟨l, b, xs, zs, rfl, rfl, hH, hB, hz, q⟩ := h
  cases rx
  cases ry
  obtain ⟨its, r, pl, z1⟩ := I.list hH
  obtain ⟨its2, r2, pl2, z2⟩ := I.list hB
  obtain ⟨⟨cls, dd, data, sl⟩, ho, hc, n, hd⟩ := pl.isList
  obtain ⟨⟨cls2, dd2, data2, sl2⟩, ho2, hc2, n2, hd2⟩ := pl2.isList
  simp only at hc hd hc2 hd2
  subst hc hd hc2 hd2
  have e : its.toArray ++ its2.toArray = (its ++ its2).toArray := by simp
  refine concat_meets ⟨_, ho, rfl⟩ ⟨_, ho2, rfl⟩ noFill_list_add seq_list_add PySem.F.slot_list_add PySem.F.entry_list_add (PySem.F.args_list_add_2 _ _) (list_addW l b its.toArray its2.toArray n n2 dd dd2 sl sl2 (by rw [List.size_toArray, List.size_toArray, ← r.length, ← r2.length]; exact hz)) ⟨ho, ho2, ?_⟩
  rw [e]
  exact ⟨.ref _, _, I.lnew (t' := s.toks) (r.append r2) (by rw [List.length_append]; exact hz), rfl, q _ I.fresh⟩
def rAdd (K : PySem.W.Frag) : R2 := fun x y H Q => (∃ i j, x = .int i ∧ y = .int j ∧ Q (.int (i + j)) H) ∨ (∃ i j, x = .str i ∧ y = .str j ∧ i.length + j.length ≤ sizeLine ∧ Q (.str (i ++ j)) H) ∨ rCatA K x y H Q ∨ rCatL K x y H Q
theorem op_addAll : OpR X (binaryOp .Add) (rAdd X.K) := op_add.or (op_add_str.or (op_catA.or op_catL))
end
def addD : D → D → Option O
  | .int i, .int j => some (.val (.int (i + j)))
  | .str a, .str b => if lenOk (a.length + b.length) = true then some (.val (.str (a ++ b))) else none
  | .tup a, .tup b => if lenOk (a.length + b.length) = true then some (.val (.tup (a ++ b))) else none
  | .lst a, .lst b => if lenOk (a.length + b.length) = true then some (.lst ((a ++ b).map .val)) else none
  | _, _ => none
theorem f_add {G : GC} : Op2 G addD (rAdd G.K) := fun Z H d e v w o Q hd he ef sz hQ => by
  cases d with
  | int i =>
    cases e with
    | int j =>
      cases ef
      rw [rb_int hd, rb_int he]
      exact .inl ⟨i, j, rfl, rfl, hQ _ _ (.val rv_int)⟩
    | _ => cases ef
  | str a =>
    cases e with
    | str b =>
      unfold addD at ef
      dsimp only at ef
      by_cases hl : lenOk (a.length + b.length) = true
      · rw [if_pos hl] at ef
        cases ef
        rw [rb_str hd, rb_str he]
        exact .inr (.inl ⟨a, b, rfl, rfl, lenOk_le hl, hQ _ _ (.val rv_str)⟩)
      · rw [if_neg hl] at ef; cases ef
    | _ => cases ef
  | tup a =>
    cases e with
    | tup b =>
      unfold addD at ef
      dsimp only at ef
      by_cases hl : lenOk (a.length + b.length) = true
      · rw [if_pos hl] at ef
        cases ef
        obtain ⟨x, vs, rfl, q1, q2, q3⟩ := rb_tup sz hd
        obtain ⟨y, ws, rfl, p1, p2, p3⟩ := rb_tup sz he
        refine .inr (.inr (.inl ⟨x, y, vs, ws, rfl, rfl, q2, p2, by rw [← q3.length, ← p3.length]; exact lenOk_le hl, fun z => ?_, fun _ z => ?_, fun _ _ p np => ?_⟩))
        · subst z
          have : a = [] := by
            have := q3.length
            exact List.eq_nil_of_length_eq_zero this
          subst this
          refine hQ _ _ (.val ?_)
          unfold RepV
          exact ⟨y, ws, rfl, p1, p3⟩
        · subst z
          have : b = [] := by
            have := p3.length
            exact List.eq_nil_of_length_eq_zero this
          subst this
          refine hQ _ _ (.val ?_)
          rw [List.append_nil]
          unfold RepV
          exact ⟨x, vs, rfl, q1, q3⟩
        · exact hQ _ _ (.tup np (q3.append p3))
      · rw [if_neg hl] at ef; cases ef
    | _ => cases ef
  | lst a =>
    cases e with
    | lst b =>
      unfold addD at ef
      dsimp only at ef
      by_cases hl : lenOk (a.length + b.length) = true
      · rw [if_pos hl] at ef
        cases ef
        obtain ⟨x, vs, rfl, q2, q3⟩ := rb_lst hd
        obtain ⟨y, ws, rfl, p2, p3⟩ := rb_lst he
        exact .inr (.inr (.inr ⟨x, y, vs, ws, rfl, rfl, q2, p2, by rw [← q3.length, ← p3.length]; exact lenOk_le hl, fun p np => hQ _ _ (.lst np (q3.append p3))⟩))
      · rw [if_neg hl] at ef; cases ef
    | _ => cases ef
  | _ => cases ef
/-! #### ints -/
def intD (c : Int → Int → Bool) (g : Int → Int → Int) : D → D → Option O
  | .int i, .int j => if c i j = true then some (.val (.int (g i j))) else none
  | _, _ => none
def cmpD (g : Int → Int → Bool) : D → D → Option O
  | .int i, .int j => some (.val (.bl (g i j)))
  | _, _ => none
theorem f_int {G : GC} {C : Int → Int → Prop} {c : Int → Int → Bool} {g : Int → Int → Int} (hc : ∀ i j, c i j = true → C i j) : Op2 G (intD c g) (rI C fun i j => .int (g i j)) := fun Z H d e v w o Q hd he ef sz hQ => by
  cases d with
  | int i =>
    cases e with
    | int j =>
      unfold intD at ef
      dsimp only at ef
      by_cases h : c i j = true
      · rw [if_pos h] at ef
        cases ef
        rw [rb_int hd, rb_int he]
        exact ⟨i, j, rfl, rfl, hc i j h, hQ _ _ (.val rv_int)⟩
      · rw [if_neg h] at ef; cases ef
    | _ => cases ef
  | _ => cases ef
theorem f_int0 {G : GC} {g : Int → Int → Int} : Op2 G (intD (fun _ _ => true) g) (rI0 fun i j => .int (g i j)) := fun Z H d e v w o Q hd he ef sz hQ => by
  cases d with
  | int i =>
    cases e with
    | int j =>
      cases ef
      rw [rb_int hd, rb_int he]
      exact ⟨i, j, rfl, rfl, hQ _ _ (.val rv_int)⟩
    | _ => cases ef
  | _ => cases ef
theorem f_cmp {G : GC} {g : Int → Int → Bool} : Op2 G (cmpD g) (rI0 fun i j => .bl (g i j)) := fun Z H d e v w o Q hd he ef sz hQ => by
  cases d with
  | int i =>
    cases e with
    | int j =>
      cases ef
      rw [rb_int hd, rb_int he]
      exact ⟨i, j, rfl, rfl, hQ _ _ (.val rv_bl)⟩
    | _ => cases ef
  | _ => cases ef
abbrev subD : D → D → Option O := intD (fun _ _ => true) fun i j => i - j
def mulC (i j : Int) : Bool := decide (i.natAbs.log2 + j.natAbs.log2 < 134000000)
def divC (_ j : Int) : Bool := decide (0 < j) && decide (j.natAbs.log2 < 9000)
def modC (_ j : Int) : Bool := decide (0 < j)
abbrev mulD : D → D → Option O := intD mulC fun i j => i * j
abbrev divD : D → D → Option O := intD divC fun i j => i / j
abbrev modD : D → D → Option O := intD modC fun i j => i % j
abbrev ltD : D → D → Option O := cmpD fun i j => decide (i < j)
abbrev leD : D → D → Option O := cmpD fun i j => decide (i ≤ j)
abbrev gtD : D → D → Option O := cmpD fun i j => decide (j < i)
abbrev geD : D → D → Option O := cmpD fun i j => decide (j ≤ i)
theorem mulC_of {i j : Int} (h : mulC i j = true) : CMulX i j := by
  unfold mulC at h
  have h := of_decide_eq_true (p := i.natAbs.log2 + j.natAbs.log2 < 134000000) h
  have b : ∀ x : Int, Builtin.Int.intBits x ≤ x.natAbs.log2 + 1 := fun x => by
    unfold Builtin.Int.intBits
    split <;> omega
  have h1 := b i
  have h2 := b j
  unfold CMulX
  omega
theorem f_mul {G : GC} : Op2 G mulD (rI CMulX fun i j => .int (i * j)) := f_int fun _ _ h => mulC_of h
theorem f_div {G : GC} : Op2 G divD (rI CDivW fun i j => .int (i / j)) := f_int fun _ _ h => by unfold divC at h; exact ⟨of_decide_eq_true (and_l h), of_decide_eq_true (and_r h)⟩
theorem f_mod {G : GC} : Op2 G modD (rI (fun _ j => 0 < j) fun i j => .int (i % j)) := f_int fun _ _ h => by unfold modC at h; exact of_decide_eq_true h
/-! #### == != in -/
mutual
def toP : D → PyData
  | .non => .none
  | .bl b => .bool b
  | .int i => .int i
  | .str x => .str x
  | .tup ds => .tuple (toPs ds)
  | .lst ds => .list (toPs ds)
  | .dct _ _ => .dict []
  | .ins _ _ => .dict []
def toPs : List D → List PyData
  | [] => []
  | d :: ds => toP d :: toPs ds
end
mutual
def seqD : D → Bool
  | .tup ds => seqDs ds
  | .lst ds => seqDs ds
  | .dct _ _ => false
  | .ins _ _ => false
  | _ => true
def seqDs : List D → Bool
  | [] => true
  | d :: ds => seqD d && seqDs ds
end
mutual
theorem dp_v {G : GC} {Z H : Hp} (s : Sub Z H) : ∀ {d : D} {v : V}, RepV G Z d v → seqD d = true → Dp G.K H v (toP d)
  | .non, _, h, _ => by unfold RepV at h; subst h; exact .non
  | .bl _, _, h, _ => by unfold RepV at h; subst h; exact .bl _
  | .int _, _, h, _ => by unfold RepV at h; subst h; exact .int _
  | .str _, _, h, _ => by unfold RepV at h; subst h; exact .str _
  | .tup ds, _, h, e => by
    unfold RepV at h
    obtain ⟨a, vs, rfl, q, t⟩ := h
    unfold toP
    exact .tup (s.sqT q) (dp_vs s t (by unfold seqD at e; exact e))
  | .lst ds, _, h, e => by
    unfold RepV at h
    obtain ⟨a, vs, rfl, q, t⟩ := h
    unfold toP
    exact .lst (s.sqL q) (dp_vs s t (by unfold seqD at e; exact e))
  | .dct _ _, _, _, e => by unfold seqD at e; cases e
  | .ins _ _, _, _, e => by unfold seqD at e; cases e
theorem dp_vs {G : GC} {Z H : Hp} (s : Sub Z H) : ∀ {ds : List D} {vs : List V}, RepVs G Z ds vs → seqDs ds = true → DpAll G.K H vs (toPs ds)
  | [], _, h, _ => by unfold RepVs at h; subst h; exact .nil
  | d :: ds, _, h, e => by
    unfold RepVs at h
    obtain ⟨v, w, rfl, q, t⟩ := h
    unfold seqDs at e
    unfold toPs
    exact .cons (dp_v s q (and_l e)) (dp_vs s t (and_r e))
end
theorem dp_b {G : GC} {Z H : Hp} (s : Sub Z H) {d : D} {v : V} (h : RepB G H Z d v) (e : seqD d = true) : Dp G.K H v (toP d) := by
  cases d with
  | lst ds =>
    obtain ⟨a, vs, rfl, q, t⟩ := rb_lst h
    unfold toP
    exact .lst q (dp_vs s t (by unfold seqD at e; exact e))
  | dct _ _ => unfold seqD at e; cases e
  | _ => exact dp_v s h e
def okD (d : D) : Bool := seqD d && SeqAt.shaped (toP d)
def eqD : D → D → Option O := fun d e => if (okD d && okD e) = true then some (.val (.bl (PyData.eqv (toP d) (toP e)))) else none
def neD : D → D → Option O := fun d e => if (okD d && okD e) = true then some (.val (.bl (!PyData.eqv (toP d) (toP e)))) else none
theorem f_eq {G : GC} : Op2 G eqD (rEqD G.K) := fun Z H d e v w o Q hd he ef sz hQ => by
  unfold eqD at ef
  by_cases h : (okD d && okD e) = true
  · rw [if_pos h] at ef
    cases ef
    exact ⟨toP d, toP e, dp_b sz hd (and_l (and_l h)), dp_b sz he (and_l (and_r h)), and_r (and_l h), and_r (and_r h), hQ _ _ (.val rv_bl)⟩
  · rw [if_neg h] at ef; cases ef
theorem f_ne {G : GC} : Op2 G neD (rNeD G.K) := fun Z H d e v w o Q hd he ef sz hQ => by
  unfold neD at ef
  by_cases h : (okD d && okD e) = true
  · rw [if_pos h] at ef
    cases ef
    exact ⟨toP d, toP e, dp_b sz hd (and_l (and_l h)), dp_b sz he (and_l (and_r h)), and_r (and_l h), and_r (and_r h), hQ _ _ (.val rv_bl)⟩
  · rw [if_neg h] at ef; cases ef
section
variable {X : Cx}
def rInT (K : PySem.W.Frag) : R2 := fun x y H Q => ∃ d ds, Dp K H x d ∧ Dp K H y (.tuple ds) ∧ SeqAt.shaped d = true ∧ SeqAt.shaped (.tuple ds) = true ∧ Q (.bl (ds.any fun z => PyData.eqv z d)) H
def rNotInT (K : PySem.W.Frag) : R2 := fun x y H Q => ∃ d ds, Dp K H x d ∧ Dp K H y (.tuple ds) ∧ SeqAt.shaped d = true ∧ SeqAt.shaped (.tuple ds) = true ∧ Q (.bl (!ds.any fun z => PyData.eqv z d)) H
theorem op_inT (hu : X.A.units + 65 < cLine) : OpR X (compareOp .In) (rInT X.K) := by
  intro pins s σ H x y v u Q I rx ry h
  obtain ⟨d, ds, hd, he, sd, se, q⟩ := h
  obtain ⟨as, r1⟩ := Dp.reads I d x v hd rx
  obtain ⟨bs, r2⟩ := Dp.reads I (.tuple ds) y u he ry
  have h1 : PyData.canLayAll0 ds = true := by
    have := SeqAt.canLay_of_shaped se
    simpa [PyData.canLay0] using this
  exact SeqAt.in_tuple_data r2 r1 (PyData.plainAll_of_canLay0 ds h1) (PyData.plain_of_canLay0 d (SeqAt.canLay_of_shaped sd)) (room_in_shaped sd hu) ⟨.bl _, H, I, rfl, q⟩
theorem op_notInT (hu : X.A.units + 65 < cLine) : OpR X (compareOp .NotIn) (rNotInT X.K) := by
  intro pins s σ H x y v u Q I rx ry h
  obtain ⟨d, ds, hd, he, sd, se, q⟩ := h
  obtain ⟨as, r1⟩ := Dp.reads I d x v hd rx
  obtain ⟨bs, r2⟩ := Dp.reads I (.tuple ds) y u he ry
  have h1 : PyData.canLayAll0 ds = true := by
    have := SeqAt.canLay_of_shaped se
    simpa [PyData.canLay0] using this
  exact SeqAt.notIn_tuple_data r2 r1 (PyData.plainAll_of_canLay0 ds h1) (PyData.plain_of_canLay0 d (SeqAt.canLay_of_shaped sd)) (room_in_shaped sd hu) ⟨.bl _, H, I, rfl, q⟩
end
theorem toPs_map (ds : List D) : toPs ds = ds.map toP := by
  induction ds with
  | nil => rfl
  | cons d ds ih => simp only [toPs, List.map_cons, ih]
def inL (neg : Bool) : D → D → Option O
  | d, .lst es => if (okD d && okD (.lst es)) = true then some (.val (.bl (if neg = true then !(es.any fun z => PyData.eqv (toP z) (toP d)) else es.any fun z => PyData.eqv (toP z) (toP d)))) else none
  | _, _ => none
def inT (neg : Bool) : D → D → Option O
  | d, .tup es => if (okD d && okD (.tup es)) = true then some (.val (.bl (if neg = true then !(es.any fun z => PyData.eqv (toP z) (toP d)) else es.any fun z => PyData.eqv (toP z) (toP d)))) else none
  | _, _ => none
theorem any_toPs (es : List D) (p : PyData → Bool) : (toPs es).any p = es.any fun z => p (toP z) := by
  rw [toPs_map, List.any_map]; rfl
theorem f_inL {G : GC} : Op2 G (inL false) (rInD G.K) := fun Z H d e v w o Q hd he ef sz hQ => by
  cases e with
  | lst es =>
    unfold inL at ef
    dsimp only at ef
    by_cases h : (okD d && okD (.lst es)) = true
    · rw [if_pos h] at ef
      cases ef
      refine ⟨toP d, toPs es, dp_b sz hd (and_l (and_l h)), by have := dp_b sz he (and_l (and_r h)); unfold toP at this; exact this, and_r (and_l h), by have := and_r (and_r h); unfold toP at this; exact this, ?_⟩
      rw [any_toPs]
      exact hQ _ _ (.val rv_bl)
    · rw [if_neg h] at ef; cases ef
  | _ => unfold inL at ef; cases ef
theorem f_ninL {G : GC} : Op2 G (inL true) (rNotInD G.K) := fun Z H d e v w o Q hd he ef sz hQ => by
  cases e with
  | lst es =>
    unfold inL at ef
    dsimp only at ef
    by_cases h : (okD d && okD (.lst es)) = true
    · rw [if_pos h] at ef
      cases ef
      refine ⟨toP d, toPs es, dp_b sz hd (and_l (and_l h)), by have := dp_b sz he (and_l (and_r h)); unfold toP at this; exact this, and_r (and_l h), by have := and_r (and_r h); unfold toP at this; exact this, ?_⟩
      rw [any_toPs]
      exact hQ _ _ (.val rv_bl)
    · rw [if_neg h] at ef; cases ef
  | _ => unfold inL at ef; cases ef
theorem f_inT {G : GC} : Op2 G (inT false) (rInT G.K) := fun Z H d e v w o Q hd he ef sz hQ => by
  cases e with
  | tup es =>
    unfold inT at ef
    dsimp only at ef
    by_cases h : (okD d && okD (.tup es)) = true
    · rw [if_pos h] at ef
      cases ef
      refine ⟨toP d, toPs es, dp_b sz hd (and_l (and_l h)), by have := dp_b sz he (and_l (and_r h)); unfold toP at this; exact this, and_r (and_l h), by have := and_r (and_r h); unfold toP at this; exact this, ?_⟩
      rw [any_toPs]
      exact hQ _ _ (.val rv_bl)
    · rw [if_neg h] at ef; cases ef
  | _ => unfold inT at ef; cases ef
theorem f_ninT {G : GC} : Op2 G (inT true) (rNotInT G.K) := fun Z H d e v w o Q hd he ef sz hQ => by
  cases e with
  | tup es =>
    unfold inT at ef
    dsimp only at ef
    by_cases h : (okD d && okD (.tup es)) = true
    · rw [if_pos h] at ef
      cases ef
      refine ⟨toP d, toPs es, dp_b sz hd (and_l (and_l h)), by have := dp_b sz he (and_l (and_r h)); unfold toP at this; exact this, and_r (and_l h), by have := and_r (and_r h); unfold toP at this; exact this, ?_⟩
      rw [any_toPs]
      exact hQ _ _ (.val rv_bl)
    · rw [if_neg h] at ef; cases ef
  | _ => unfold inT at ef; cases ef
/-- one operator or the other -/
def orD (f g : D → D → Option O) : D → D → Option O := fun d e => match f d e with
  | some o => some o
  | none => g d e
theorem Op2.or {G : GC} {f g : D → D → Option O} {r r' : R2} (h : Op2 G f r) (h' : Op2 G g r') : Op2 G (orD f g) (fun x y H Q => r x y H Q ∨ r' x y H Q) := fun Z H d e v w o Q hd he ef sz hQ => by
  unfold orD at ef
  cases e1 : f d e with
  | some o1 =>
    rw [e1] at ef
    cases ef
    exact .inl (h Z H d e v w _ Q hd he e1 sz hQ)
  | none =>
    rw [e1] at ef
    exact .inr (h' Z H d e v w o Q hd he ef sz hQ)
/-! #### is None, is True -/
def isNo : D → Bool
  | .non => true
  | _ => false
def isND (neg : Bool) : D → D → Option O
  | d, .non => some (.val (.bl (if neg = true then !isNo d else isNo d)))
  | _, _ => none
theorem rb_non_iff {G : GC} {H Z : Hp} {d : D} {v : V} (h : RepB G H Z d v) : decide (v = .non) = isNo d := by
  cases d with
  | non => rw [rb_non h]; rfl
  | bl b => rw [rb_bl h]; rfl
  | int i => rw [rb_int h]; rfl
  | str x => rw [rb_str h]; rfl
  | tup ds =>
    unfold RepB RepV at h
    obtain ⟨a, _, rfl, _⟩ := h
    rfl
  | lst ds =>
    obtain ⟨a, _, rfl, _⟩ := h
    rfl
  | dct ks ds =>
    obtain ⟨a, _, _, _, rfl, _⟩ := h
    rfl
  | ins c ds =>
    unfold RepB RepV at h
    obtain ⟨a, _, _, rfl, _⟩ := h
    rfl
theorem f_isN {G : GC} : Op2 G (isND false) (fun x y H Q => y = .non ∧ Q (.bl (decide (x = .non))) H) := fun Z H d e v w o Q hd he ef sz hQ => by
  cases e with
  | non =>
    unfold isND at ef
    cases ef
    refine ⟨rb_non he, ?_⟩
    rw [rb_non_iff hd]
    exact hQ _ _ (.val rv_bl)
  | _ => unfold isND at ef; cases ef
theorem f_notN {G : GC} : Op2 G (isND true) (fun x y H Q => y = .non ∧ Q (.bl (!decide (x = .non))) H) := fun Z H d e v w o Q hd he ef sz hQ => by
  cases e with
  | non =>
    unfold isND at ef
    cases ef
    refine ⟨rb_non he, ?_⟩
    rw [rb_non_iff hd]
    exact hQ _ _ (.val rv_bl)
  | _ => unfold isND at ef; cases ef
def isBD (neg : Bool) : D → D → Option O
  | .bl a, .bl b => some (.val (.bl (if neg = true then !decide (a = b) else decide (a = b))))
  | _, _ => none
theorem f_isB {G : GC} : Op2 G (isBD false) rIsB := fun Z H d e v w o Q hd he ef sz hQ => by
  cases d with
  | bl a =>
    cases e with
    | bl b =>
      unfold isBD at ef
      cases ef
      rw [rb_bl hd, rb_bl he]
      exact ⟨a, b, rfl, rfl, hQ _ _ (.val rv_bl)⟩
    | _ => unfold isBD at ef; cases ef
  | _ => unfold isBD at ef; cases ef
theorem f_notB {G : GC} : Op2 G (isBD true) rNotB := fun Z H d e v w o Q hd he ef sz hQ => by
  cases d with
  | bl a =>
    cases e with
    | bl b =>
      unfold isBD at ef
      cases ef
      rw [rb_bl hd, rb_bl he]
      exact ⟨a, b, rfl, rfl, hQ _ _ (.val rv_bl)⟩
    | _ => unfold isBD at ef; cases ef
  | _ => unfold isBD at ef; cases ef
/-! #### x[i] -/
theorem RepVs.atI {G : GC} {Z : Hp} {ds : List D} {vs : List V} {i : Int} {d : D} (h : RepVs G Z ds vs) (e : L2.atI ds i = some d) : ∃ v, L2.atI vs i = some v ∧ RepV G Z d v := by
  unfold L2.atI at e ⊢
  rw [h.length] at e
  cases e1 : ixN vs.length i with
  | none => rw [e1] at e; cases e
  | some j =>
    rw [e1] at e
    obtain ⟨v, h1, h2⟩ := h.get (i := j) e
    exact ⟨v, h1, h2⟩
def ixD : D → D → Option O
  | .lst ds, .int i => match L2.atI ds i with
    | some d => some (.val d)
    | none => none
  | .tup ds, .int i => match L2.atI ds i with
    | some d => some (.val d)
    | none => none
  | .str x, .int i => if strOk x = true then match L2.atI x.cps.toList i with
      | some c => some (.val (.str ⟨#[c]⟩))
      | none => none
    else none
  | _, _ => none
theorem f_ix {G : GC} : Op2 G ixD (rIx G.K) := fun Z H d e v w o Q hd he ef sz hQ => by
  cases e with
  | int i =>
    have ei := rb_int he
    subst ei
    cases d with
    | lst ds =>
      unfold ixD at ef
      dsimp only at ef
      cases e1 : L2.atI ds i with
      | none => rw [e1] at ef; cases ef
      | some d =>
        rw [e1] at ef
        cases ef
        obtain ⟨a, vs, rfl, q2, q3⟩ := rb_lst hd
        obtain ⟨u, h1, h2⟩ := q3.atI e1
        exact .inl ⟨a, vs, i, u, rfl, rfl, q2, h1, hQ _ _ (.val h2)⟩
    | tup ds =>
      unfold ixD at ef
      dsimp only at ef
      cases e1 : L2.atI ds i with
      | none => rw [e1] at ef; cases ef
      | some d =>
        rw [e1] at ef
        cases ef
        obtain ⟨a, vs, rfl, _, q2, q3⟩ := rb_tup sz hd
        obtain ⟨u, h1, h2⟩ := q3.atI e1
        exact .inr (.inl ⟨a, vs, i, u, rfl, rfl, q2, h1, hQ _ _ (.val h2)⟩)
    | str x =>
      unfold ixD at ef
      dsimp only at ef
      by_cases hl : strOk x = true
      · rw [if_pos hl] at ef
        cases e1 : L2.atI x.cps.toList i with
        | none => rw [e1] at ef; cases ef
        | some c =>
          rw [e1] at ef
          cases ef
          rw [rb_str hd]
          exact .inr (.inr ⟨x, i, c, rfl, rfl, strOk_le hl, e1, hQ _ _ (.val rv_str)⟩)
      · rw [if_neg hl] at ef; cases ef
    | _ => unfold ixD at ef; cases ef
  | _ => unfold ixD at ef; cases d <;> cases ef
/-! #### one operand: len, int, bool, tuple, list, all, any, sum, - -/
def lenD : D → Option O
  | .str x => if strOk x = true then some (.val (.int x.length)) else none
  | .lst ds => some (.val (.int ds.length))
  | .tup ds => some (.val (.int ds.length))
  | _ => none
def rLen1 (K : PySem.W.Frag) : V → Hp → VK → Prop := fun x H Q => ∃ n, LenV K x H n ∧ Q (.int n) H
theorem f_len {G : GC} : Op1 G lenD (rLen1 G.K) := fun Z H d v o Q hd ef sz hQ => by
  cases d with
  | str x =>
    unfold lenD at ef
    dsimp only at ef
    by_cases hl : strOk x = true
    · rw [if_pos hl] at ef
      cases ef
      rw [rb_str hd]
      exact ⟨x.length, ⟨strOk_le hl, rfl⟩, hQ _ _ (.val rv_int)⟩
    · rw [if_neg hl] at ef; cases ef
  | lst ds =>
    cases ef
    obtain ⟨a, vs, rfl, q2, q3⟩ := rb_lst hd
    exact ⟨ds.length, .inl ⟨vs, q2, q3.length⟩, hQ _ _ (.val rv_int)⟩
  | tup ds =>
    cases ef
    obtain ⟨a, vs, rfl, _, q2, q3⟩ := rb_tup sz hd
    exact ⟨ds.length, .inr ⟨vs, q2, q3.length⟩, hQ _ _ (.val rv_int)⟩
  | _ => cases ef
def intF : D → Option O
  | .int i => some (.val (.int i))
  | .bl b => some (.val (.int (if b then 1 else 0)))
  | _ => none
def rInt1 : V → Hp → VK → Prop := fun x H Q => (∃ i, x = .int i ∧ Q (.int i) H) ∨ ∃ k, x = .bl k ∧ Q (.int (if k then 1 else 0)) H
theorem f_intF {G : GC} : Op1 G intF rInt1 := fun Z H d v o Q hd ef sz hQ => by
  cases d with
  | int i => cases ef; rw [rb_int hd]; exact .inl ⟨i, rfl, hQ _ _ (.val rv_int)⟩
  | bl b => cases ef; rw [rb_bl hd]; exact .inr ⟨b, rfl, hQ _ _ (.val rv_int)⟩
  | _ => cases ef
def tupF : D → Option O
  | .lst ds => some (.val (.tup ds))
  | .tup ds => some (.val (.tup ds))
  | _ => none
def rTup1 (K : PySem.W.Frag) : V → Hp → VK → Prop := fun x H Q => ∃ p ys, x = .ref p ∧ ((SqL K H p ys ∧ ∀ l, H l = none → Q (.ref l) (upd H l (.tup ys))) ∨ (SqT K H p ys ∧ Q (.ref p) H))
theorem f_tupF {G : GC} : Op1 G tupF (rTup1 G.K) := fun Z H d v o Q hd ef sz hQ => by
  cases d with
  | lst ds =>
    cases ef
    obtain ⟨a, vs, rfl, q2, q3⟩ := rb_lst hd
    exact ⟨a, vs, rfl, .inl ⟨q2, fun l hl => hQ _ _ (.tup hl q3)⟩⟩
  | tup ds =>
    cases ef
    obtain ⟨a, vs, rfl, _, q2, q3⟩ := rb_tup sz hd
    exact ⟨a, vs, rfl, .inr ⟨q2, hQ _ _ (.val hd)⟩⟩
  | _ => cases ef
def lstF : D → Option O
  | .lst ds => some (.lst (ds.map .val))
  | .tup ds => some (.lst (ds.map .val))
  | _ => none
def rLst1 (K : PySem.W.Frag) : V → Hp → VK → Prop := fun x H Q => ∃ p ys, x = .ref p ∧ (SqL K H p ys ∨ SqT K H p ys) ∧ ∀ l, H l = none → Q (.ref l) (upd H l (.lst ys))
theorem f_lstF {G : GC} : Op1 G lstF (rLst1 G.K) := fun Z H d v o Q hd ef sz hQ => by
  cases d with
  | lst ds =>
    cases ef
    obtain ⟨a, vs, rfl, q2, q3⟩ := rb_lst hd
    exact ⟨a, vs, rfl, .inl q2, fun l hl => hQ _ _ (.lst hl q3)⟩
  | tup ds =>
    cases ef
    obtain ⟨a, vs, rfl, _, q2, q3⟩ := rb_tup sz hd
    exact ⟨a, vs, rfl, .inr q2, fun l hl => hQ _ _ (.lst hl q3)⟩
  | _ => cases ef
/-- the bools of data -/
def blsD : List D → Option (List Bool)
  | [] => some []
  | .bl b :: ds => (blsD ds).map (b :: ·)
  | _ => none
theorem bls_rep {G : GC} {Z : Hp} : ∀ {ds : List D} {vs : List V} {bs : List Bool}, RepVs G Z ds vs → blsD ds = some bs → vs = bs.map V.bl
  | [], _, _, h, e => by
    unfold RepVs at h
    cases e
    exact h
  | d :: ds, _, bs, h, e => by
    unfold RepVs at h
    obtain ⟨v, w, rfl, q, t⟩ := h
    cases d with
    | bl b =>
      unfold blsD at e
      cases e1 : blsD ds with
      | none => rw [e1] at e; cases e
      | some cs =>
        rw [e1] at e
        cases e
        unfold RepV at q
        rw [q, bls_rep t e1]; rfl
    | _ => unfold blsD at e; cases e
def allF : D → Option O
  | .lst ds => (blsD ds).map fun bs => .val (.bl (bs.all id))
  | _ => none
def anyF : D → Option O
  | .lst ds => (blsD ds).map fun bs => .val (.bl (bs.any id))
  | _ => none
def rAll1 (K : PySem.W.Frag) : V → Hp → VK → Prop := fun x H Q => ∃ (a : Addr) (bs : List Bool), x = V.ref a ∧ SqL K H a (bs.map V.bl) ∧ Q (.bl (bs.all id)) H
def rAny1 (K : PySem.W.Frag) : V → Hp → VK → Prop := fun x H Q => ∃ (a : Addr) (bs : List Bool), x = V.ref a ∧ SqL K H a (bs.map V.bl) ∧ Q (.bl (bs.any id)) H
theorem f_all {G : GC} : Op1 G allF (rAll1 G.K) := fun Z H d v o Q hd ef sz hQ => by
  cases d with
  | lst ds =>
    unfold allF at ef
    dsimp only at ef
    cases e1 : blsD ds with
    | none => rw [e1] at ef; cases ef
    | some bs =>
      rw [e1] at ef
      cases ef
      obtain ⟨a, vs, rfl, q2, q3⟩ := rb_lst hd
      rw [bls_rep q3 e1] at q2
      exact ⟨a, bs, rfl, q2, hQ _ _ (.val rv_bl)⟩
  | _ => cases ef
theorem f_any {G : GC} : Op1 G anyF (rAny1 G.K) := fun Z H d v o Q hd ef sz hQ => by
  cases d with
  | lst ds =>
    unfold anyF at ef
    dsimp only at ef
    cases e1 : blsD ds with
    | none => rw [e1] at ef; cases ef
    | some bs =>
      rw [e1] at ef
      cases ef
      obtain ⟨a, vs, rfl, q2, q3⟩ := rb_lst hd
      rw [bls_rep q3 e1] at q2
      exact ⟨a, bs, rfl, q2, hQ _ _ (.val rv_bl)⟩
  | _ => cases ef
def negF : D → Option O
  | .int i => some (.val (.int (-i)))
  | _ => none
theorem f_neg {G : GC} : Op1 G negF (rU fun i => .int (-i)) := fun Z H d v o Q hd ef sz hQ => by
  cases d with
  | int i => cases ef; rw [rb_int hd]; exact ⟨i, rfl, hQ _ _ (.val rv_int)⟩
  | _ => cases ef
/-! #### two operands of a call: max, min -/
def maxF : D → D → Option O
  | .int i, .int j => some (.val (.int (if j > i then j else i)))
  | _, _ => none
def minF : D → D → Option O
  | .int i, .int j => some (.val (.int (if j < i then j else i)))
  | _, _ => none
def rMax2 : R2 := fun x y H Q => ∃ i j, x = .int i ∧ y = .int j ∧ Q (.int (if j > i then j else i)) H
def rMin2 : R2 := fun x y H Q => ∃ i j, x = .int i ∧ y = .int j ∧ Q (.int (if j < i then j else i)) H
theorem f_max {G : GC} : Op2 G maxF rMax2 := fun Z H d e v w o Q hd he ef sz hQ => by
  cases d with
  | int i =>
    cases e with
    | int j => cases ef; rw [rb_int hd, rb_int he]; exact ⟨i, j, rfl, rfl, hQ _ _ (.val rv_int)⟩
    | _ => cases ef
  | _ => cases ef
theorem f_min {G : GC} : Op2 G minF rMin2 := fun Z H d e v w o Q hd he ef sz hQ => by
  cases d with
  | int i =>
    cases e with
    | int j => cases ef; rw [rb_int hd, rb_int he]; exact ⟨i, j, rfl, rfl, hQ _ _ (.val rv_int)⟩
    | _ => cases ef
  | _ => cases ef
section
variable {G : GC} {X : Cx} {a b : Expr} {ma mb : OM} {na nb pa pb : Bool} {f : D → D → Option O} {rd : R2}
theorem sim_callB2 {x : Str} {id : String} {p pos : Pos} {rl : List V → Hp → VK → Prop} (hc : CallR X (.builtin id) rl) (hr : ∀ v w H Q, rd v w H Q → rl [v, w] H Q) (hf : Op2 G f rd) (ha : SimO G X a ma na pa) (hb : SimO G X b mb nb pb) (hg : Gl X x) (hm : X.mg x = none) (hv : bootBuiltins x = some (.builtin id)) (hn : x ≠ "__name__" := by decide) (hdb : (x == ("__debug__" : Str)) = false := by decide)
    (he : starEach [a, b] X.env = (false, eval a X.env) :: starEach [b] X.env := by rfl) (he2 : starEach [b] X.env = (false, eval b X.env) :: starEach [] X.env := by rfl) (hpl : (backTo pos (starEach [b] X.env)).any (·.1) = false := by rfl) (hp : pa = true → nb = true := by decide) : SimE G X (.Call (.Name x p) [a, b] [] pos) (mOp2 f ma mb) (na && nb) :=
  sim_op2E ha hb hf ⟨fun pins t s H Q I h => (pe_callB hc hg hm hv (pa_cons pwE (pa_cons pwE pa_nil he2) he) hn hdb he hpl).run pins t s H Q I (wE.mono h fun v H' q => wE.mono q fun w H2 q2 => hr v w H2 Q q2)⟩ hp
end
end PL
set_option Elab.async false
set_option linter.all false
set_option maxRecDepth 100000
set_option maxHeartbeats 1000000
namespace PL
open PySem PySem.Spec PyProof.Rows L2

/-! ### what may be walked: a value's own walk -/
def wIter (X : Cx) (tg : Expr) (s : L2.St) (x : V) (H : Hp) (R : It → Hp → Prop) : Prop := ∀ pins t u, Inv X pins s H t → RelV x u → wpAny (model X.prog X.w) X.A (pyIter u) (PIE X pins s tg R) X.xe t
section
variable {X : Cx} {tg e : Expr}
theorem pi_of : PI X tg e (fun s H R => wE X e s H fun x H1 => wIter X tg s x H1 R) := ⟨fun pins t s H R I h => thn (h pins t I) fun v s1 ⟨x, H1, I1, r1, q⟩ => q pins s1 v I1 r1⟩
theorem iter_list {s : L2.St} {H : Hp} {a : Addr} {xs : List V} {R : It → Hp → Prop} (hq : SqL X.K H a xs) (q : R (Itl X.K a) H) : wIter X tg s (.ref a) H R := fun pins t u I r => by
  cases r
  obtain ⟨its, rv, p, hz⟩ := I.list hq
  refine wpAny_pyIter_list p.isList ?_
  refine ⟨t.heap.objs.size, [t.heap.objs.size], _, _, H, rfl, I.kept (t' := t.toks) fun b o e => Heap.get?_push_of_some _ e, turn_list a _, ⟨_, Heap.get?_push_size _ rfl, rfl, rfl⟩, fun b hb => ?_, q⟩
  have e : b = t.heap.objs.size := by simpa using hb
  subst e
  exact I.fpOk (Nat.le_refl _) (I.hok.fresh (Nat.le_refl _))
theorem iter_tup {s : L2.St} {H : Hp} {a : Addr} {xs : List V} {R : It → Hp → Prop} (hq : SqT X.K H a xs) (q : R (Itt X.K a) H) : wIter X tg s (.ref a) H R := fun pins t u I r => by
  cases r
  obtain ⟨its, rv, p, hz⟩ := I.tuple hq
  refine wpAny_pyIter_tuple (show t.heap.IsTuple a its.toArray from p) ?_
  refine ⟨t.heap.objs.size, [t.heap.objs.size], _, _, H, rfl, I.kept (t' := t.toks) fun b o e => Heap.get?_push_of_some _ e, turn_tuple a _, ⟨_, Heap.get?_push_size _ rfl, rfl, rfl⟩, fun b hb => ?_, q⟩
  have e : b = t.heap.objs.size := by simpa using hb
  subst e
  exact I.fpOk (Nat.le_refl _) (I.hok.fresh (Nat.le_refl _))
end
theorem yields_list {G : GC} {Z : Hp} {a : Addr} {ds : List D} {vs : List V} (q : SqL G.K Z a vs) (t : RepVs G Z ds vs) (inj : ∀ H, Sub Z H → ∀ xs, SqL G.K H a xs → xs = vs) : Yields G Z (Itl G.K a) ds := fun i H sz hi => by
  have l := t.length
  refine ⟨fun e => ⟨vs, sz.sqL q, by omega⟩, fun hlt => ?_⟩
  obtain ⟨v, h1, h2⟩ := t.get (List.getElem?_eq_getElem hlt)
  refine ⟨⟨vs, v, sz.sqL q, h1⟩, fun x H' ⟨e, y⟩ => ?_⟩
  subst e
  have h3 := y vs (sz.sqL q)
  rw [h1] at h3
  cases h3
  exact ⟨_, List.getElem?_eq_getElem hlt, .val h2⟩
/-- the walked data of a value -/
def seqOf : D → Option (List D)
  | .lst ds => some ds
  | .tup ds => some ds
  | _ => none
def mIt (m : EM) : Env → R (List D) := fun r => match m r with
  | .ok o r1 => match seqOf (frz o) with
    | some ds => .ok ds r1
    | none => .stuck
  | .exc x r1 => .exc x r1
  | .stuck => .stuck
section
variable {G : GC} {X : Cx} {tg e : Expr}
theorem i_val (hK : X.K = G.K) {m : EM} {nm : Bool} (h : SimE G X e m nm) : SimI G X tg e (mIt m) := fun Z H r s F ow en => by
  have h1 := h Z H r s F ow en
  unfold mIt
  cases em : m r with
  | stuck => trivial
  | exc x r1 =>
    rw [em] at h1
    exact fun k => wI.of pi_of (wE.mono (h1 k) fun _ _ z => z.elim)
  | ok o r1 =>
    rw [em] at h1
    dsimp only
    cases es : seqOf (frz o) with
    | none => trivial
    | some ds =>
      refine wI.of pi_of (wE.mono h1 fun v H1 q => ?_)
      obtain ⟨Z1, E1, F1, a1, a2, a3, a4, _⟩ := q.frozen
      unfold RepO at a1
      obtain ⟨a1, rfl⟩ := a1
      have sz := a3.sub
      cases ed : frz o with
      | lst es' =>
        rw [ed] at es a1
        cases es
        unfold RepV at a1
        obtain ⟨a, vs, rfl, q, t⟩ := a1
        have q1 := sz.sqL q
        refine iter_list (by rw [hK]; exact q1) ⟨Z1, F1, a2, a3, a4, ?_⟩
        rw [hK]
        intro i H2 sz2 hi
        have l := t.length
        refine ⟨fun e => ⟨vs, sz2.sqL q, by omega⟩, fun hlt => ?_⟩
        obtain ⟨w, h1, h2⟩ := t.get (List.getElem?_eq_getElem hlt)
        refine ⟨⟨vs, w, sz2.sqL q, h1⟩, fun x H' ⟨e, y⟩ => ?_⟩
        subst e
        have h3 := y vs (sz2.sqL q)
        rw [h1] at h3
        cases h3
        exact ⟨_, List.getElem?_eq_getElem hlt, .val h2⟩
      | tup es' =>
        rw [ed] at es a1
        cases es
        unfold RepV at a1
        obtain ⟨a, vs, rfl, q, t⟩ := a1
        have q1 := sz.sqT q
        refine iter_tup (by rw [hK]; exact q1) ⟨Z1, F1, a2, a3, a4, ?_⟩
        rw [hK]
        intro i H2 sz2 hi
        have l := t.length
        refine ⟨fun e => ⟨vs, sz2.sqT q, by omega⟩, fun hlt => ?_⟩
        obtain ⟨w, h1, h2⟩ := t.get (List.getElem?_eq_getElem hlt)
        refine ⟨⟨vs, w, sz2.sqT q, h1⟩, fun x H' ⟨e, y⟩ => ?_⟩
        subst e
        have h3 := y vs (sz2.sqT q)
        rw [h1] at h3
        cases h3
        exact ⟨_, List.getElem?_eq_getElem hlt, .val h2⟩
      | _ => rw [ed] at es; cases es
/-- range(n) -/
def rngD (n : Nat) : List D := (List.range n).map fun (i : Nat) => D.int (i : Int)
def mRng (a : OM) : Env → R (List D) := fun r => match a r with
  | .ok (.int j) r1 => if decide (-(2 ^ 62) ≤ j) && decide (j < 2 ^ 62) then .ok (rngD j.toNat) r1 else .stuck
  | .ok _ _ => .stuck
  | .exc x r1 => .exc x r1
  | .stuck => .stuck
theorem rngD_get {n i : Nat} (h : i < n) : (rngD n)[i]? = some (.int i) := by
  unfold rngD
  rw [List.getElem?_map, List.getElem?_range h]; rfl
theorem rngD_len {n : Nat} : (rngD n).length = n := by
  unfold rngD
  rw [List.length_map, List.length_range]
theorem i_range {a : Expr} {m : OM} {nm pth : Bool} {p pos : Pos} (h : SimO G X a m nm pth) (hg : Gl X "range") (hm : X.mg "range" = none) (hs : starEach [a] X.env = [(false, eval a X.env)] := by rfl) : SimI G X tg (.Call (.Name "range" p) [a] [] pos) (mRng m) := fun Z H r s F ow en => by
  have h1 := h Z H r s F ow en
  have pa : PA X [a] (tCons (wE X a) tNil) := pa_cons pwE pa_nil hs
  unfold mRng
  cases em : m r with
  | stuck => trivial
  | exc x r1 =>
    rw [em] at h1
    exact fun k => wI.of (pi_range1 hg hm pa hs) (wE.mono (h1 k) fun _ _ z => z.elim)
  | ok d r1 =>
    rw [em] at h1
    cases d with
    | int j =>
      dsimp only
      by_cases hb : (decide (-(2 ^ 62) ≤ j) && decide (j < 2 ^ 62)) = true
      · rw [if_pos hb]
        refine wI.of (pi_range1 hg hm pa hs) (wE.mono h1 fun v H1 ⟨Z1, F1, a0, _, a2, a3, a4, _⟩ => ?_)
        rw [rb_int a0]
        refine ⟨j, rfl, of_decide_eq_true (and_l hb), of_decide_eq_true (and_r hb), Z1, F1, a2, a3, a4, ?_⟩
        intro i H2 sz2 hi
        rw [rngD_len] at hi ⊢
        refine ⟨fun e => Nat.le_of_eq e.symm, fun hlt => ⟨hlt, fun x H' ⟨e, y⟩ => ?_⟩⟩
        subst e y
        refine ⟨.int i, rngD_get hlt, .val ?_⟩
        rw [Int.zero_add]
        exact rv_int
      · rw [if_neg hb]; trivial
    | _ => trivial
end
/-! ### comprehensions of one clause -/
theorem wipe_set {s : L2.St} {x : Option V} {i : Nat} : ∀ {own : List Nat}, own.contains i = true → wipe (s.set i x) own = wipe s own := by
  have comm : ∀ (own : List Nat), wipe (s.set i x) own = if own.contains i = true then wipe s own else (wipe s own).set i x := fun own => by
    induction own with
    | nil => rfl
    | cons v vs ih =>
      unfold wipe
      rw [ih]
      by_cases e : v = i
      · subst e
        have : (v :: vs).contains v = true := by simp
        rw [if_pos this]
        split
        · rfl
        · rw [List.set_set]
      · by_cases c : vs.contains i = true
        · have : (v :: vs).contains i = true := by simp at c ⊢; exact .inr c
          rw [if_pos c, if_pos this]
        · have : ¬ (v :: vs).contains i = true := by simp at c ⊢; exact ⟨fun z => e z.symm, c⟩
          rw [if_neg c, if_neg this, List.set_comm _ _ (fun z => e z.symm)]
  intro own h
  rw [comm own, if_pos h]
def KWipe (own : List Nat) : KR := fun s s' => wipe s' own = wipe s own
theorem krel_wipe {own : List Nat} : KRel (KWipe own) := ⟨fun _ => rfl, fun _ _ _ a b => b.trans a⟩
def wipeE (r : Env) : List Nat → Env
  | [] => r
  | v :: vs => (wipeE r vs).set v none
theorem RepEnv.wipe {G : GC} {H Z : Hp} {s : L2.St} {r : Env} {F : List Addr} (h : RepEnv G H Z r s F) : ∀ own : List Nat, ∃ F2, RepEnv G H Z (wipeE r own) s F2 ∧ F2.Sublist F
  | [] => ⟨F, h, .refl _⟩
  | v :: vs => by
    obtain ⟨F2, a, b⟩ := h.wipe vs
    obtain ⟨F3, c, d⟩ := a.drop v
    exact ⟨F3, c, d.trans b⟩
/-- a free slot may hold anything -/
theorem RepEnv.any {G : GC} {H Z : Hp} : ∀ {r : Env} {t : L2.St} {F : List Addr} {i : Nat} {x : Option V}, RepEnv G H Z r t F → r.getD i none = none → RepEnv G H Z r (t.set i x) F
  | [], _, _, _, _, h, _ => h
  | none :: r, _, _, 0, x, h, _ => by
    obtain ⟨y, s', rfl, h⟩ := h
    exact ⟨x, s', rfl, h⟩
  | none :: r, _, _, i + 1, x, h, e => by
    obtain ⟨y, s', rfl, h⟩ := h
    exact ⟨y, _, rfl, h.any (by simpa using e)⟩
  | some o :: r, _, _, 0, x, h, e => by simp at e
  | some o :: r, _, _, i + 1, x, h, e => by
    obtain ⟨v, s', F1, F2, rfl, a, h, rfl⟩ := h
    exact ⟨v, _, F1, F2, rfl, a, h.any (by simpa using e), rfl⟩
theorem wipeE_get {r : Env} {i : Nat} : ∀ {own : List Nat}, i ∈ own → (wipeE r own).getD i none = none
  | v :: vs, h => by
    unfold wipeE
    by_cases e : v = i
    · subst e
      simp [List.getElem?_set]
      split <;> rfl
    · have := wipeE_get (r := r) ((List.mem_cons.mp h).resolve_left fun z => e z.symm)
      simp only [List.getD_eq_getElem?_getD] at this ⊢
      rw [List.getElem?_set_ne e]; exact this
theorem RepEnv.wipeS {G : GC} {H Z : Hp} {s : L2.St} {r : Env} {F : List Addr} {own0 : List Nat} (h : RepEnv G H Z (wipeE r own0) s F) : ∀ own : List Nat, (∀ i ∈ own, i ∈ own0) → RepEnv G H Z (wipeE r own0) (L2.wipe s own) F
  | [], _ => h
  | v :: vs, k => by
    unfold L2.wipe
    exact (h.wipeS vs fun i m => k i (List.mem_cons_of_mem _ m)).any (wipeE_get (k v List.mem_cons_self))

theorem wipe_get {s : L2.St} {i : Nat} : ∀ {own : List Nat}, i ∉ own → (L2.wipe s own)[i]? = s[i]?
  | [], _ => rfl
  | v :: vs, h => by
    unfold L2.wipe
    rw [List.getElem?_set_ne fun e => h (by rw [e]; exact List.mem_cons_self)]
    exact wipe_get fun m => h (List.mem_cons_of_mem _ m)
/-- free slots may hold anything -/
theorem RepEnv.same {G : GC} {H Z : Hp} : ∀ {r : Env} {t t' : L2.St} {F : List Addr}, RepEnv G H Z r t F → t'.length = t.length → (∀ i, r.getD i none ≠ none → t'[i]? = t[i]?) → RepEnv G H Z r t' F
  | [], _, _, _, h, _, _ => h
  | none :: r, _, t', _, h, l, k => by
    obtain ⟨x, s', rfl, h⟩ := h
    cases t' with
    | nil => simp at l
    | cons y t' => exact ⟨y, t', rfl, h.same (by simpa using l) fun i hi => by simpa using k (i + 1) (by simpa using hi)⟩
  | some o :: r, _, t', _, h, l, k => by
    obtain ⟨v, s', F1, F2, rfl, a, h, rfl⟩ := h
    cases t' with
    | nil => simp at l
    | cons y t' =>
      have := k 0 (by simp)
      simp at this
      subst this
      exact ⟨v, t', F1, F2, rfl, a, h.same (by simpa using l) fun i hi => by simpa using k (i + 1) (by simpa using hi), rfl⟩
/-- a clause's tests -/
def wTs (X : Cx) (ifs : List Expr) : TT := fun s H Q => ∀ pins t, Inv X pins s H t → wpAny (model X.prog X.w) X.A (forIn ifs true fun c r => if r = true then do let ok ← isTrue c X.env (eval c X.env); pure (ForInStep.yield ok) else pure (ForInStep.yield r)) (TP X pins s Q) X.xe t
theorem pwTs {X : Cx} {ifs : List Expr} : PTs X ifs (wTs X ifs) := ⟨fun pins t s H Q I h => h pins t I⟩
theorem wTs.of {X : Cx} {ifs : List Expr} {t : TT} {s : L2.St} {H : Hp} {Q : Bool → Hp → Prop} (h : PTs X ifs t) (q : t s H Q) : wTs X ifs s H Q := fun pins u I => h.run pins u s H Q I q
theorem wTs.mono {X : Cx} {ifs : List Expr} {s : L2.St} {H : Hp} {Q Q' : Bool → Hp → Prop} (h : wTs X ifs s H Q) (k : ∀ v H', Q v H' → Q' v H') : wTs X ifs s H Q' := fun pins u I => thn (h pins u I) fun a t ⟨H', I', q⟩ => ⟨H', I', k a H' q⟩
def SimTs (G : GC) (X : Cx) (ifs : List Expr) (m : TM) : Prop := ∀ Z H r s F, Ow Z H F → RepEnv G H Z r s F → match m r with
  | .ok b r' => wTs X ifs s H (fun c H' => c = b ∧ OkT G Z H s F r' false H')
  | _ => True
def mYes : TM := fun r => .ok true r
theorem ts_nil {G : GC} {X : Cx} : SimTs G X [] mYes := fun Z H r s F ow en => wTs.of pts_nil ⟨rfl, Z, F, en, ow, .refl, fun z => nomatch z⟩
theorem ts_one {G : GC} {X : Cx} {c : Expr} {m : TM} {nm : Bool} (h : SimT G X c m nm) : SimTs G X [c] m := fun Z H r s F ow en => by
  have h1 := h Z H r s F ow en
  cases em : m r with
  | ok b r1 =>
    rw [em] at h1
    exact wTs.of (pts_one pwT) (wT.mono h1 fun c H' ⟨e, Z1, F1, a, b, c, _⟩ => ⟨e, Z1, F1, a, b, c, fun z => nomatch z⟩)
  | _ => trivial
def loopC (own : List Nat) (a : AM) (c : TM) (m : EM) : List D → Env → R (List O)
  | [], r => .ok [] r
  | d :: ds, r => match a d r with
    | some r1 => match c r1 with
      | .ok true r2 => match m r2 with
        | .ok o r3 => match loopC own a c m ds (wipeE r3 own) with
          | .ok os r4 => .ok (o :: os) r4
          | _ => .stuck
        | _ => .stuck
      | .ok false r2 => loopC own a c m ds (wipeE r2 own)
      | _ => .stuck
    | none => .stuck
def mLc (own : List Nat) (it : Env → R (List D)) (a : AM) (c : TM) (m : EM) : EM := fun r => match it r with
  | .ok ds r1 => match loopC own a c m ds (wipeE r1 own) with
    | .ok os r2 => if lenOk (os.length + 1) = true then .ok (.lst os) r2 else .stuck
    | _ => .stuck
  | .exc x r1 => .exc x r1
  | .stuck => .stuck
theorem RepOs.app {G : GC} {H Z : Hp} : ∀ {os ps : List O} {vs ws : List V} {F E : List Addr}, RepOs G H Z os vs F → RepOs G H Z ps ws E → RepOs G H Z (os ++ ps) (vs ++ ws) (F ++ E)
  | [], _, _, _, _, _, h, g => by
    unfold RepOs at h
    obtain ⟨rfl, rfl⟩ := h
    exact g
  | o :: os, _, _, _, _, _, h, g => by
    unfold RepOs at h
    obtain ⟨v, w, F1, F2, rfl, h1, h2, rfl⟩ := h
    rw [List.append_assoc]
    exact .cons h1 (h2.app g)
section
variable {G : GC} {X : Cx} {scope : Scope} {own : List (Str × Nat)}
abbrev Blk (X : Cx) (scope : Scope) (Φ : Cx → Prop) : Prop := ∀ (s : Shared) (H : Hp) (C : Addr) (cl : List (Str × Addr)) (fp : List Addr), Φ (X.blk s H scope (compEnvC scope cl C X.env) fp)
def bG (X : Cx) (scope : Scope) (tg : Expr) : TG := fun v s H Q => Blk X scope fun B => wG B tg v s H Q
def bT (X : Cx) (scope : Scope) (ifs : List Expr) : TT := fun s H Q => Blk X scope fun B => wTs B ifs s H Q
def bE (X : Cx) (scope : Scope) (e : Expr) : TE := fun s H Q => Blk X scope fun B => wE B e s H Q
theorem lc_core' {tg iter elt : Expr} {ifs : List Expr} {a : AM} {mc : TM} {me : EM} {nm : Bool} {ow0 : List Nat}
    (hg : Blk X scope fun B => SimG G B (KWipe ow0) tg a) (hc : Blk X scope fun B => SimTs G B ifs mc) (he : Blk X scope fun B => SimE G B elt me nm) {Z H : Hp} {s : L2.St} {F : List Addr} {ds : List D} {os : List O} {r0 r' : Env}
    (h0 : wI X tg iter s H (fun J H1 => ∃ Z1 F1, RepEnv G H1 Z1 r0 s F1 ∧ Ow Z1 H1 F1 ∧ Fr Z H F Z1 H1 F1 ∧ Yields G Z1 J ds)) (el : loopC ow0 a mc me ds (wipeE r0 ow0) = .ok os r') (hlen : lenOk (os.length + 1) = true) :
    tLc (wI X tg iter) (bG X scope tg) (bT X scope ifs) (bE X scope elt) ow0 s H (OkE G Z H s F (.lst os) r' false) := by
  refine wI.mono h0 fun J H0 ⟨Z0, F0, d1, d2, d3, d4⟩ L hL => ?_
  obtain ⟨Fw, w1, w2⟩ := d1.wipe ow0
  have d2' := d2.less w2
  obtain ⟨g1, g2, g3⟩ := d2'.new (u := .lst []) w1.there hL
  have frL : Fr Z H F Z0 (upd H0 L (.lst [])) (L :: Fw) := (d3.less fun b m => w2.subset m).trans g2
  refine ⟨fun i k H1 => k = ds.length - i ∧ i ≤ ds.length ∧ ∃ Z1 E F1 r1 acc vs, RepOs G H1 Z1 acc vs E ∧ H1 L = some (.lst vs) ∧ RepEnv G H1 Z1 (wipeE r1 ow0) (L2.wipe s ow0) F1 ∧ Ow Z1 H1 ((L :: E) ++ F1) ∧ Fr Z H F Z1 H1 ((L :: E) ++ F1) ∧ Sub Z0 Z1 ∧
    ∃ os', loopC ow0 a mc me (ds.drop i) (wipeE r1 ow0) = .ok os' r' ∧ acc ++ os' = os, ⟨ds.length, rfl, Nat.zero_le _, Z0, [], Fw, r0, [], [], .nil, upd_same, ?_, g1, frL, .refl _, os, el, rfl⟩, ?_⟩
  · exact (w1.mono (.refl _) fun b m u e => g3 b u e).wipeS ow0 fun _ m => m
  rintro i k H1 ⟨ek, hk, Z1, E, F1, r1, acc, vs, a0, aL, a1, a2, a3, a5, os', a6, a7⟩
  subst ek
  have a2l : Ow Z1 H1 F1 := a2.less (List.sublist_append_right _ _)
  obtain ⟨y1, y2⟩ := d4 i H1 (a5.trans a2.sub) hk
  by_cases hlt : i < ds.length
  · obtain ⟨y3, y4⟩ := y2 hlt
    have ed : ds.drop i = ds[i] :: ds.drop (i + 1) := (List.drop_eq_getElem_cons hlt)
    rw [ed] at a6
    unfold loopC at a6
    cases ea : a ds[i] (wipeE r1 ow0) with
    | none => rw [ea] at a6; cases a6
    | some r2 =>
      rw [ea] at a6
      dsimp only at a6
      cases ec : mc r2 with
      | stuck => rw [ec] at a6; cases a6
      | exc x r3 => rw [ec] at a6; cases a6
      | ok b r3 =>
        rw [ec] at a6
        -- the next turn, from the state behind this one
        refine .inr ⟨y3, fun H1 => ∃ Z1 E F1 r1 acc vs, RepOs G H1 Z1 acc vs E ∧ H1 L = some (.lst vs) ∧ RepEnv G H1 Z1 (wipeE r1 ow0) (L2.wipe s ow0) F1 ∧ Ow Z1 H1 ((L :: E) ++ F1) ∧ Fr Z H F Z1 H1 ((L :: E) ++ F1) ∧ Sub Z0 Z1 ∧
          ∃ os', loopC ow0 a mc me (ds.drop (i + 1)) (wipeE r1 ow0) = .ok os' r' ∧ acc ++ os' = os, fun H' q => ⟨ds.length - (i + 1), by omega, rfl, hlt, q⟩, fun x H2 y => ?_⟩
        obtain ⟨d, ed2, nw⟩ := y4 x H2 y
        rw [List.getElem?_eq_getElem hlt] at ed2
        cases ed2
        obtain ⟨Z2, E2, F2, b0, b1, b2, b3, _⟩ := New.fin (nm := false) (nw.more a5) a1 a2l .refl (fun z => nomatch z)
        unfold RepO at b0
        obtain ⟨b0, rfl⟩ := b0
        -- beside the list so far
        have tE : ∀ {b : Addr}, b ∈ L :: E → ∃ u, H1 b = some u := fun {b} m => by
          rcases List.mem_cons.mp m with rfl | m
          · exact ⟨_, aL⟩
          · exact a0.there b m
        refine fun bs bH bC bcl bfp => wG.mono (hg bs bH bC bcl bfp Z2 H2 _ (L2.wipe s ow0) F2 _ x r2 b2 b1 b0 ea) fun s2 H3 ⟨eH, kw, F3, c1, c2, c3⟩ => ?_
        subst eH
        have kw : L2.wipe s2 ow0 = L2.wipe (L2.wipe s ow0) ow0 := kw
        have wipe2 : ∀ (t : L2.St), L2.wipe (L2.wipe t ow0) ow0 = L2.wipe t ow0 := fun t => by
          have : ∀ own1 : List Nat, (∀ i ∈ own1, i ∈ ow0) → L2.wipe (L2.wipe t own1) ow0 = L2.wipe t ow0 := fun own1 => by
            induction own1 with
            | nil => intro _; rfl
            | cons v vs ih =>
              intro hh
              show L2.wipe ((L2.wipe t vs).set v none) ow0 = _
              rw [wipe_set (List.contains_iff_mem.mpr (hh v List.mem_cons_self))]
              exact ih fun i m => hh i (List.mem_cons_of_mem _ m)
          exact this ow0 fun _ m => m
        rw [wipe2] at kw
        refine ⟨kw, ?_⟩
        have b3' := b3.less c3
        intro bs2 bH2 bC2 bcl2 bfp2
        have h2 := hc bs2 bH2 bC2 bcl2 bfp2 Z2 H3 r2 s2 F3 c2 c1
        rw [ec] at h2
        refine wTs.mono h2 fun cb H4 ⟨eb, Z4, F4, e1, e2, e3, _⟩ => ?_
        subst eb
        have f4 := b3'.trans e3
        cases cb with
        | false =>
          refine iteF ?_
          dsimp only at a6
          obtain ⟨q1, q2, q3⟩ := f4.beside a2 e2 fun b m => tE m
          obtain ⟨F5, v1, v2⟩ := e1.wipe ow0
          refine ⟨Z4, E, F5, r3, acc, vs, a0.mono f4.zs fun b m u e => q3 b (List.mem_cons_of_mem _ m) u e, q3 L List.mem_cons_self _ aL, ?_, q2.less (v2.append_left _), (a3.trans q1).less fun b m => (v2.append_left _).subset m, a5.trans f4.zs, os', a6, a7⟩
          have := v1.wipeS ow0 fun _ m => m
          rw [kw] at this
          exact this
        | true =>
          refine iteT ?_
          dsimp only at a6
          cases eme : me r3 with
          | stuck => rw [eme] at a6; cases a6
          | exc x r4 => rw [eme] at a6; cases a6
          | ok o r4 =>
            rw [eme] at a6
            dsimp only at a6
            intro bs3 bH3 bC3 bcl3 bfp3
            have h3 := he bs3 bH3 bC3 bcl3 bfp3 Z4 H4 r3 s2 F4 e2 e1
            rw [eme] at h3
            cases el2 : loopC ow0 a mc me (ds.drop (i + 1)) (wipeE r4 ow0) with
            | stuck => rw [el2] at a6; cases a6
            | exc x r5 => rw [el2] at a6; cases a6
            | ok os2 r5 =>
              rw [el2] at a6
              cases a6
              refine wE.mono h3 fun yv H5 ⟨Z5, E5, F5, i0, i1, i2, i3, _⟩ => ?_
              have f5 := f4.trans i3
              obtain ⟨q1, q2, q3⟩ := f5.beside a2 i2 fun b m => tE m
              have hL5 := q3 L List.mem_cons_self _ aL
              have racc := a0.mono f5.zs fun b m u e => q3 b (List.mem_cons_of_mem _ m) u e
              obtain ⟨F6, v1, v2⟩ := i1.wipe ow0
              have nd := q2.nd
              have ndL : L ∉ E ++ (E5 ++ F5) := (List.nodup_cons.mp nd).1
              have kp : ∀ b ∈ E ++ (E5 ++ F5), ∀ u, H5 b = some u → upd H5 L (.lst (vs ++ [yv])) b = some u := fun b m u e => by
                rw [upd_ne fun z => ndL (by rw [← z]; exact m)]; exact e
              have hlv : vs.length < sizeLine := by
                have e1 := a0.length
                have e2 := congrArg List.length a7
                rw [List.length_append, List.length_cons] at e2
                have e3 := lenOk_le hlen
                omega
              refine ⟨vs, hL5, hlv, Z5, E ++ E5, F6, r4, acc ++ [o], vs ++ [yv], ?_, upd_same, ?_, ?_, ?_, a5.trans f5.zs, os2, el2, by rw [← a7, List.append_assoc]; rfl⟩
              · refine (racc.app ?_).mono (.refl _) fun b m u e => kp b (by
                  rcases List.mem_append.mp m with m | m
                  · exact List.mem_append_left _ m
                  · exact List.mem_append_right _ (List.mem_append_left _ m)) u e
                have := RepOs.cons i0 (RepOs.nil (G := G) (H := H5) (Z := Z5))
                rw [List.append_nil] at this
                exact this
              · have := (v1.mono (.refl _) fun b m u e => kp b (List.mem_append_right _ (List.mem_append_right _ (v2.subset m))) u e).wipeS ow0 fun _ m => m
                rw [kw] at this
                exact this
              · have sl : ((L :: (E ++ E5)) ++ F6).Sublist ((L :: E) ++ (E5 ++ F5)) := by
                  have : (L :: (E ++ E5)) ++ F6 = (L :: E) ++ (E5 ++ F6) := by simp
                  rw [this]
                  exact (v2.append_left E5).append_left (L :: E)
                have o5 := q2.less sl
                refine ⟨fun b u e => ?_, o5.nd, o5.sep⟩
                rw [upd_ne fun z => by rw [z, o5.sep L (by simp)] at e; cases e]
                exact o5.sub b u e
              · have sl : ((L :: (E ++ E5)) ++ F6).Sublist ((L :: E) ++ (E5 ++ F5)) := by
                  have : (L :: (E ++ E5)) ++ F6 = (L :: E) ++ (E5 ++ F6) := by simp
                  rw [this]
                  exact (v2.append_left E5).append_left (L :: E)
                have f6 := (a3.trans q1).less fun b m => sl.subset m
                refine ⟨f6.zs, fun b u e m => ?_, f6.ow, f6.zn⟩
                have z := f6.fr b u e m
                rw [upd_ne fun z2 => ?_]
                · exact z
                · -- L is not of H, or is F's
                  subst z2
                  have hx := d3.fr b u e m
                  rw [hL] at hx
                  cases hx
  · have e : i = ds.length := by omega
    refine .inl ⟨y1 e, ?_⟩
    subst e
    rw [List.drop_length] at a6
    unfold loopC at a6
    cases a6
    rw [List.append_nil] at a7
    subst a7
    refine ⟨Z1, L :: E, F1, ?_, ?_, a2, a3, fun z => nomatch z⟩
    · unfold RepO
      exact ⟨L, vs, E, rfl, aL, a0, rfl⟩
    · exact a1.same (wipe_length s ow0).symm fun i hi => (wipe_get fun m => hi (wipeE_get m)).symm
theorem lc_run {tg iter elt : Expr} {ifs : List Expr} {mi : Env → R (List D)} {a : AM} {mc : TM} {me : EM} {nm : Bool} (hi : SimI G X tg iter mi)
    (hg : Blk X scope fun B => SimG G B (KWipe (own.map (·.2))) tg a) (hc : Blk X scope fun B => SimTs G B ifs mc) (he : Blk X scope fun B => SimE G B elt me nm) {Z H : Hp} {r : Env} {s : L2.St} {F : List Addr} (ow : Ow Z H F) (en : RepEnv G H Z r s F) :
    match mLc (own.map (·.2)) mi a mc me r with
    | .ok o r' => tLc (wI X tg iter) (bG X scope tg) (bT X scope ifs) (bE X scope elt) (own.map (·.2)) s H (OkE G Z H s F o r' false)
    | .exc x r' => (∀ cls d H', OkX G Z H s F x r' cls d H' → eX X cls d s H') → tLc (wI X tg iter) (bG X scope tg) (bT X scope ifs) (bE X scope elt) (own.map (·.2)) s H (fun _ _ => False)
    | .stuck => True := by
  generalize eown : own.map (·.2) = ow0 at hg ⊢
  have h0 := hi Z H r s F ow en
  unfold mLc
  cases em0 : mi r with
  | stuck => trivial
  | exc x r1 =>
    rw [em0] at h0
    exact fun k => wI.mono (h0 k) fun _ _ z => z.elim
  | ok ds r0 =>
    rw [em0] at h0
    dsimp only
    cases el : loopC ow0 a mc me ds (wipeE r0 ow0) with
    | stuck => trivial
    | exc x r1 => trivial
    | ok os r' =>
      dsimp only
      cases hlen : lenOk (os.length + 1) with
      | false => trivial
      | true =>
        rw [if_pos rfl]
        exact lc_core' hg hc he h0 el hlen
theorem e_lc {tg iter elt : Expr} {ifs : List Expr} {pos : Pos} {mi : Env → R (List D)} {a : AM} {mc : TM} {me : EM} {nm : Bool} (hcl : X.calm = true) (hN : X.N.Nodup) (ok : BlkOk X.N X.env.scope scope own) (hi : SimI G X tg iter mi)
    (hg : Blk X scope fun B => SimG G B (KWipe (own.map (·.2))) tg a) (hc : Blk X scope fun B => SimTs G B ifs mc) (he : Blk X scope fun B => SimE G B elt me nm) (hs : ∀ x, foldedSetIterable iter X.env x = pure x := by intro _; rfl) :
    SimE G X (.ListComp elt [⟨tg, iter, ifs, 0⟩] scope pos) (mLc (own.map (·.2)) mi a mc me) false := fun Z H r s F ow en => by
  have h := lc_run hi hg hc he ow en
  have P : PE X (.ListComp elt [⟨tg, iter, ifs, 0⟩] scope pos) (tLc (wI X tg iter) (bG X scope tg) (bT X scope ifs) (bE X scope elt) (own.map (·.2))) :=
    pe_lc hcl hN pwI ok (fun bs bH bC bcl bfp => ⟨fun pins t s H v u Q I r h => h bs bH bC bcl bfp pins t u I r⟩) (fun bs bH bC bcl bfp => ⟨fun pins t s H Q I h => h bs bH bC bcl bfp pins t I⟩) (fun bs bH bC bcl bfp => ⟨fun pins t s H Q I h => h bs bH bC bcl bfp pins t I⟩) hs
  cases em : mLc (own.map (·.2)) mi a mc me r with
  | stuck => trivial
  | exc x r1 => rw [em] at h; exact fun k => wE.of P (h k)
  | ok o r1 => rw [em] at h; exact wE.of P h
/-- name = [..], used at once -/
theorem s_setLc {M : List Nat} {tg iter elt : Expr} {ifs : List Expr} {pos spos py : Pos} {i : Nat} {y : Str} {mi : Env → R (List D)} {a : AM} {mc : TM} {me : EM} {nm : Bool} (hcl : X.calm = true) (hN : X.N.Nodup) (hy : X.N[i]? = some y) (hyl : X.env.scope.names.lookup y = some .local)
    (hsw : swapsWith (.ListComp elt [⟨tg, iter, ifs, 0⟩] scope pos) (some (.Name y py)) spos.line X.env = pure true) (ok : BlkOk X.N X.env.scope scope own) (hi : SimI G X tg iter mi)
    (hg : Blk X scope fun B => SimG G B (KWipe (own.map (·.2))) tg a) (hc : Blk X scope fun B => SimTs G B ifs mc) (he : Blk X scope fun B => SimE G B elt me nm) (hM : M.contains i = false) (hs : ∀ x, foldedSetIterable iter X.env x = pure x := by intro _; rfl) :
    SimS G X M (.Assign [.Name y py] (.ListComp elt [⟨tg, iter, ifs, 0⟩] scope pos) spos) (mSet i (mLc (own.map (·.2)) mi a mc me)) := fun Z H r s F ow en ns ex => by
  have h := lc_run hi hg hc he ow en
  have P := ps_setLc (X := X) (i := i) (y := y) (py := py) (spos := spos) (pos := pos) (wi := wI X tg iter) (g := bG X scope tg) (tt := bT X scope ifs) (te := bE X scope elt) hcl hN hy hyl hsw pwI ok (fun bs bH bC bcl bfp => ⟨fun pins t s H v u Q I r h => h bs bH bC bcl bfp pins t u I r⟩) (fun bs bH bC bcl bfp => ⟨fun pins t s H Q I h => h bs bH bC bcl bfp pins t I⟩) (fun bs bH bC bcl bfp => ⟨fun pins t s H Q I h => h bs bH bC bcl bfp pins t I⟩) hs
  have mono : ∀ {Q Q' : VK}, tLc (wI X tg iter) (bG X scope tg) (bT X scope ifs) (bE X scope elt) (own.map (·.2)) s H Q → (∀ v H', Q v H' → Q' v H') → tLc (wI X tg iter) (bG X scope tg) (bT X scope ifs) (bE X scope elt) (own.map (·.2)) s H Q' := fun {Q Q'} h k => by
    refine wI.mono h fun J H1 q L hL => ?_
    obtain ⟨W, w0, turn⟩ := q L hL
    refine ⟨W, w0, fun i m H w => ?_⟩
    rcases turn i m H w with ⟨z1, z2⟩ | z
    · exact .inl ⟨z1, k _ _ z2⟩
    · exact .inr z
  unfold mSet at ns ex ⊢
  cases em : mLc (own.map (·.2)) mi a mc me r with
  | stuck => rw [em] at ns; exact absurd rfl ns
  | exc x r1 =>
    rw [em] at h ex
    exact wS.of P (mono (h (exc_e ex)) fun _ _ z => z.elim)
  | ok o r1 =>
    rw [em] at h ns ex
    dsimp only at ns ex h ⊢
    by_cases hl : i < r1.length
    · rw [if_pos hl] at ns ex ⊢
      exact wS.of P (mono h fun v H1 q => store_OkS q hl hM)
    · rw [if_neg hl] at ns
      exact absurd rfl ns
end
end PL
set_option Elab.async false
set_option linter.all false
set_option maxRecDepth 100000
set_option maxHeartbeats 1000000
namespace PL
open PySem PySem.Spec PyProof.Rows L2

/-! ### isinstance(x, T), T a built-in type -/
theorem f_isi {G : GC} {T : String} : Op1 G (isiD T) (fun x H Q => rIsi G.K [x, .ty T] H Q) := fun Z H d v o Q hd ef sz hQ => by
  unfold isiD at ef
  cases et : tyD d with
  | none => rw [et] at ef; cases ef
  | some t =>
    rw [et] at ef
    dsimp only at ef
    cases ek : kitB t T with
    | none => rw [ek] at ef; cases ef
    | some b =>
      rw [ek] at ef
      cases ef
      have fin : TyX G.K H v (.type t) → rIsi G.K [v, .ty T] H Q := fun ty => ⟨v, .ty T, .type t, .type T, b, rfl, .ty T, ty, kit_ty ek, hQ _ _ (.val rv_bl)⟩
      cases d with
      | non => cases et; rw [rb_non hd] at fin ⊢; exact fin (.base .non)
      | bl x => cases et; rw [rb_bl hd] at fin ⊢; exact fin (.base (.bl x))
      | int x => cases et; rw [rb_int hd] at fin ⊢; exact fin (.base (.int x))
      | str x => cases et; rw [rb_str hd] at fin ⊢; exact fin (.base (.str x))
      | tup ds =>
        cases et
        obtain ⟨a, vs, rfl, _, q, _⟩ := rb_tup sz hd
        rcases q with (q | ⟨ob, q⟩) | ⟨ob, its, n, q, qc, _⟩
        · exact fin (.base (.tup q))
        · exact fin (.fTuple q)
        · exact fin (.kTuple q qc)
      | lst ds =>
        cases et
        obtain ⟨a, vs, rfl, q, _⟩ := rb_lst hd
        rcases q with (q | ⟨ob, q⟩) | ⟨ob, its, n, q, qc, _⟩
        · exact fin (.base (.lst q))
        · exact fin (.base (.frz q))
        · exact fin (.kList q qc)
      | dct _ _ => cases et
      | ins _ _ => cases et
section
variable {G : GC} {X : Cx} {a : Expr} {ma : OM} {na pa : Bool}
theorem e_isi (hK : X.K = G.K) {T : Str} {Ts : String} {p p2 pos : Pos} (ha : SimO G X a ma na pa) (hg : Gl X "isinstance") (hm : X.mg "isinstance" = none) (hv : bootBuiltins "isinstance" = some (.builtin "isinstance")) (hg2 : Gl X T) (hm2 : X.mg T = none) (hv2 : bootBuiltins T = some (.type Ts))
    (hn2 : T ≠ "__name__" := by decide) (hd2 : (T == ("__debug__" : Str)) = false := by decide) (he : starEach [a, .Name T p2] X.env = (false, eval a X.env) :: starEach [.Name T p2] X.env := by rfl) (he2 : starEach [Expr.Name T p2] X.env = (false, eval (.Name T p2) X.env) :: starEach [] X.env := by rfl)
    (hpl : (backTo pos (starEach [Expr.Name T p2] X.env)).any (·.1) = false := by rfl) : SimE G X (.Call (.Name "isinstance" p) [a, .Name T p2] [] pos) (mOp1 (isiD Ts) ma) na :=
  sim_op1E ha f_isi ⟨fun pins t s H Q I h => (pe_callB call_isi hg hm hv (pa_cons pwE (pa_cons (pe_bltn (v := .ty Ts) hg2 hm2 hv2 rfl hn2 hd2) pa_nil he2) he) (by decide) (by decide) he hpl).run pins t s H Q I (wE.mono h fun v H' q => (show rIsi X.K [v, .ty Ts] H' Q by rw [hK]; exact q))⟩
end
/-! ### slices -/
abbrev PM := Env → R (Option Int)
def wO (X : Cx) (e : Option Expr) : TO := fun s H Q => ∀ pins t, Inv X pins s H t → wpAny (model X.prog X.w) X.A (evalPart e X.env) (fun u s' => ∃ o H', Inv X pins s H' s' ∧ IsPart u o ∧ Q o H') X.xe t
theorem pwO {X : Cx} {e : Option Expr} : PO X e (wO X e) := ⟨fun pins t s H Q I h => h pins t I⟩
theorem wO.of {X : Cx} {e : Option Expr} {t : TO} {s : L2.St} {H : Hp} {Q : Option Int → Hp → Prop} (h : PO X e t) (q : t s H Q) : wO X e s H Q := fun pins u I => h.run pins u s H Q I q
theorem wO.mono {X : Cx} {e : Option Expr} {s : L2.St} {H : Hp} {Q Q' : Option Int → Hp → Prop} (h : wO X e s H Q) (k : ∀ v H', Q v H' → Q' v H') : wO X e s H Q' := fun pins u I => thn (h pins u I) fun a t ⟨o, H', I', p, q⟩ => ⟨o, H', I', p, k o H' q⟩
def SimP (G : GC) (X : Cx) (e : Option Expr) (m : PM) (nm : Bool) : Prop := ∀ Z H r s F, Ow Z H F → RepEnv G H Z r s F → match m r with
  | .ok p r' => wO X e s H (fun p' H' => p' = p ∧ OkT G Z H s F r' nm H')
  | .exc x r' => (∀ cls d H', OkX G Z H s F x r' cls d H' → eX X cls d s H') → wO X e s H (fun _ _ => False)
  | .stuck => True
def pNone : PM := fun r => .ok none r
def pSome (a : OM) : PM := fun r => match a r with
  | .ok (.int i) r1 => .ok (some i) r1
  | .ok _ _ => .stuck
  | .exc x r1 => .exc x r1
  | .stuck => .stuck
def slD : D → Option Int → Option Int → Option O
  | .lst ds, lo, hi => some (.lst (((ds.drop (HT.sIx ds.length 0 lo)).take (HT.sIx ds.length ds.length hi - HT.sIx ds.length 0 lo)).map .val))
  | .tup ds, lo, hi => some (.val (.tup ((ds.drop (HT.sIx ds.length 0 lo)).take (HT.sIx ds.length ds.length hi - HT.sIx ds.length 0 lo))))
  | .str x, lo, hi => if strOk x = true then some (.val (.str (cutS x lo hi))) else none
  | _, _, _ => none
def rSl (K : PySem.W.Frag) : V → Option Int → Option Int → Hp → VK → Prop := fun x lo hi H Q => rSlL K x lo hi H Q ∨ rSlA K x lo hi H Q ∨ rSlS x lo hi H Q
theorem sl_any {X : Cx} : SlR X (rSl X.K) := sl_list.or (sl_tupA.or sl_str)
theorem f_sl {G : GC} {Z H : Hp} {d : D} {v : V} {lo hi : Option Int} {o : O} {Q : VK} (hd : RepB G H Z d v) (ef : slD d lo hi = some o) (sz : Sub Z H) (hQ : ∀ u H', New G Z H o u H' → Q u H') : rSl G.K v lo hi H Q := by
  cases d with
  | lst ds =>
    cases ef
    obtain ⟨a, vs, rfl, q2, q3⟩ := rb_lst hd
    refine .inl ⟨a, vs, rfl, q2, fun p np => hQ _ _ ?_⟩
    unfold cutV
    have := q3.length
    rw [← this]
    exact .lst np ((q3.drop _).take _)
  | tup ds =>
    cases ef
    obtain ⟨a, vs, rfl, q1, q2, q3⟩ := rb_tup sz hd
    have hl := q3.length
    refine .inr (.inl ⟨a, vs, rfl, q2, fun hw => hQ _ _ (.val ?_), fun _ p np => hQ _ _ ?_⟩)
    · rw [← hl] at hw
      rw [hw.1, hw.2, List.drop_zero, Nat.sub_zero, List.take_length]
      exact hd
    · unfold cutV
      rw [← hl]
      exact .tup np ((q3.drop _).take _)
  | str x =>
    unfold slD at ef
    dsimp only at ef
    by_cases hl : strOk x = true
    · rw [if_pos hl] at ef
      cases ef
      rw [rb_str hd]
      exact .inr (.inr ⟨x, rfl, strOk_le hl, hQ _ _ (.val rv_str)⟩)
    · rw [if_neg hl] at ef; cases ef
  | _ => cases ef
def mSl (a : OM) (lo hi : PM) : EM := fun r => match a r with
  | .ok d r1 => match lo r1 with
    | .ok l r2 => match hi r2 with
      | .ok h r3 => match slD d l h with
        | some o => .ok o r3
        | none => .stuck
      | .exc x r3 => .exc x r3
      | .stuck => .stuck
    | .exc x r2 => .exc x r2
    | .stuck => .stuck
  | .exc x r1 => .exc x r1
  | .stuck => .stuck
section
variable {G : GC} {X : Cx} {a : Expr} {ma : OM} {na pa n1 n2 : Bool} {lo hi : Option Expr} {ml mh : PM}
theorem p_none : SimP G X none pNone true := fun Z H r s F ow en => wO.of po_none ⟨rfl, Z, F, en, ow, .refl, fun _ => .refl _⟩
theorem p_some (h : SimO G X a ma na pa) : SimP G X (some a) (pSome ma) na := fun Z H r s F ow en => by
  have h1 := h Z H r s F ow en
  unfold pSome
  cases em : ma r with
  | stuck => trivial
  | exc x r1 => rw [em] at h1; exact fun k => wO.of (po_some pwE) (wE.mono (h1 k) fun _ _ z => z.elim)
  | ok d r1 =>
    rw [em] at h1
    cases d with
    | int i =>
      refine wO.of (po_some pwE) (wE.mono h1 fun v H1 ⟨Z1, F1, a0, a1, a2, a3, a4, a5⟩ => ?_)
      exact ⟨i, rb_int a0, rfl, Z1, F1, a2, a3, a4, a5⟩
    | _ => trivial
theorem e_sl (hK : X.K = G.K) {p2 pos : Pos} (ha : SimO G X a ma na pa) (hl : SimP G X lo ml n1) (hh : SimP G X hi mh n2) (hp : pa = true → n1 = true ∧ n2 = true := by decide) : SimE G X (.Subscript a (.Slice lo hi none p2) pos) (mSl ma ml mh) (na && (n1 && n2)) := fun Z H r s F ow en => by
  have h1 := ha Z H r s F ow en
  have P : PE X (.Subscript a (.Slice lo hi none p2) pos) (tSl (rSl X.K) (wE X a) (wO X lo) (wO X hi)) := pe_slice sl_any pwE pwO pwO
  unfold mSl
  cases em : ma r with
  | stuck => trivial
  | exc x r1 => rw [em] at h1; exact fun k => wE.of P (wE.mono (h1 k) fun _ _ z => z.elim)
  | ok d r1 =>
    rw [em] at h1
    dsimp only
    cases em2 : ml r1 with
    | stuck => trivial
    | exc x r2 =>
      intro k
      refine wE.of P (wE.mono h1 fun v H1 ⟨Z1, F1, a0, a1, a2, a3, a4, a5⟩ => ?_)
      have h2 := hl Z1 H1 r1 s F1 a3 a2
      rw [em2] at h2
      exact wO.mono (h2 fun cls d H' q => k cls d H' (q.thenT a4)) fun _ _ z => z.elim
    | ok l r2 =>
      dsimp only
      cases em3 : mh r2 with
      | stuck => trivial
      | exc x r3 =>
        intro k
        refine wE.of P (wE.mono h1 fun v H1 ⟨Z1, F1, a0, a1, a2, a3, a4, a5⟩ => ?_)
        have h2 := hl Z1 H1 r1 s F1 a3 a2
        rw [em2] at h2
        refine wO.mono h2 fun l' H2 ⟨el, Z2, F2, b1, b2, b3, b4⟩ => ?_
        have h3 := hh Z2 H2 r2 s F2 b2 b1
        rw [em3] at h3
        exact wO.mono (h3 fun cls d H' q => k cls d H' (q.thenT (a4.trans b3))) fun _ _ z => z.elim
      | ok h r3 =>
        dsimp only
        cases ef : slD d l h with
        | none => trivial
        | some o =>
          refine wE.of P (wE.mono h1 fun v H1 ⟨Z1, F1, a0, a1, a2, a3, a4, a5⟩ => ?_)
          have h2 := hl Z1 H1 r1 s F1 a3 a2
          rw [em2] at h2
          refine wO.mono h2 fun l' H2 ⟨el, Z2, F2, b1, b2, b3, b4⟩ => ?_
          subst el
          have h3 := hh Z2 H2 r2 s F2 b2 b1
          rw [em3] at h3
          refine wO.mono h3 fun h' H3 ⟨eh, Z3, F3, c1, c2, c3, c4⟩ => ?_
          subst eh
          rw [hK]
          have hd : RepB G H3 Z3 d v := by
            cases pa with
            | true =>
              obtain ⟨q1, q2⟩ := hp rfl
              exact a0.mono ((b4 q1).trans (c4 q2)) (b3.zs.trans c3.zs)
            | false => exact ((a1 rfl).sub (b3.zs.trans c3.zs)).b c2.sub
          refine f_sl hd ef c2.sub fun u H' n => n.fin c1 c2 (a4.trans (b3.trans c3)) fun q => ?_
          exact (a5 (and_l q)).trans ((b4 (and_l (and_r q))).trans (c4 (and_r (and_r q))))
end
/-! ### a op b op c -/
def mChain (f g : D → D → Option O) (a b c : OM) : EM := fun r => match m2 a b r with
  | .ok (x, y) r1 => match f x y with
    | some (.val (.bl true)) => match c r1 with
      | .ok z r2 => match g y z with
        | some o => .ok o r2
        | none => .stuck
      | .exc x r2 => .exc x r2
      | .stuck => .stuck
    | some (.val (.bl false)) => .ok (.val (.bl false)) r1
    | _ => .stuck
  | .exc x r1 => .exc x r1
  | .stuck => .stuck
/-- an operator that gives a bool, beside the heap -/
def Op2B (G : GC) (f : D → D → Option O) (rd : R2) : Prop := ∀ Z H d e v w k Q, RepB G H Z d v → RepB G H Z e w → f d e = some (.val (.bl k)) → Sub Z H → Q (.bl k) H → rd v w H Q
theorem Op2.toB {G : GC} {f : D → D → Option O} {rd : R2} (h : Op2 G f rd) : Op2B G f rd := fun Z H d e v w k Q hd he ef sz q => h Z H d e v w _ Q hd he ef sz fun u H' n => by
  generalize eo : O.val (D.bl k) = o at n
  cases n with
  | val r => cases eo; unfold RepV at r; subst r; exact q
  | lst _ _ => cases eo
  | tup _ _ => cases eo
  | dct _ _ _ _ => cases eo
section
variable {G : GC} {X : Cx} {a b c : Expr} {ma mb mc : OM} {na nb nc pa pb pc : Bool} {f g : D → D → Option O} {rd rd' : R2}
theorem e_chain {op op' : CmpOp} {pos : Pos} (ho : OpR X (compareOp op) rd) (ho' : OpR X (compareOp op') rd') (hf : Op2B G f rd) (hg : Op2 G g rd') (ha : SimO G X a ma na pa) (hb : SimO G X b mb nb pb) (hc : SimO G X c mc nc pc) (hp : pa = true → nb = true := by decide) (hp2 : pb = true → nc = true := by decide)
    (hm : lastMarks [op, op'] [b, c] = false := by with_unfolding_all rfl) : SimE G X (.Compare a [op, op'] [b, c] pos) (mChain f g ma mb mc) ((na && nb) && nc) := fun Z H r s F ow en => by
  have P : PE X (.Compare a [op, op'] [b, c] pos) (tChain rd rd' (wE X a) (wE X b) (wE X c)) := pe_chain ho ho' pwE pwE pwE hm
  -- the first two, the second one's value kept
  have h1 := ha Z H r s F ow en
  unfold mChain m2
  cases em : ma r with
  | stuck => trivial
  | exc x r1 => rw [em] at h1; exact fun k => wE.of P (wE.mono (h1 k) fun _ _ z => z.elim)
  | ok d r1 =>
    rw [em] at h1
    dsimp only
    cases em2 : mb r1 with
    | stuck => trivial
    | exc x r2 =>
      intro k
      refine wE.of P (wE.mono h1 fun v H1 ⟨Z1, F1, a0, a1, a2, a3, a4, a5⟩ => ?_)
      have h2 := hb Z1 H1 r1 s F1 a3 a2
      rw [em2] at h2
      exact wE.mono (h2 fun cls d H' q => k cls d H' (q.thenT a4)) fun _ _ z => z.elim
    | ok e r2 =>
      dsimp only
      have two' : ∀ {Q : VK}, (∀ v w H2 Z2 F2, RepB G H2 Z2 d v → RepB G H2 Z2 e w → (pb = false → RepV G Z2 e w) → RepEnv G H2 Z2 r2 s F2 → Ow Z2 H2 F2 → Fr Z H F Z2 H2 F2 → ((na && nb) = true → Sub H H2) →
          rd v w H2 fun z H3 => ∃ k, z = .bl k ∧ (if k = true then wE X c s H3 fun w' H4 => rd' w w' H4 Q else Q (.bl false) H3)) → wE X (.Compare a [op, op'] [b, c] pos) s H Q := fun {Q} kk => by
        refine wE.of P (wE.mono h1 fun v H1 ⟨Z1, F1, a0, a1, a2, a3, a4, a5⟩ => ?_)
        have h2 := hb Z1 H1 r1 s F1 a3 a2
        rw [em2] at h2
        refine wE.mono h2 fun w H2 ⟨Z2, F2, b0, b1, b2, b3, b4, b5⟩ => kk v w H2 Z2 F2 ?_ b0 b1 b2 b3 (a4.trans b4) fun q => ?_
        · cases pa with
          | true => exact a0.mono (b5 (hp rfl)) b4.zs
          | false => exact ((a1 rfl).sub b4.zs).b b3.sub
        · rw [Bool.and_eq_true] at q
          exact (a5 q.1).trans (b5 q.2)
      cases ef : f d e with
      | none => trivial
      | some o =>
        cases o with
        | val dd =>
          cases dd with
          | bl kb =>
            cases kb with
            | false =>
              dsimp only
              refine two' fun v w H2 Z2 F2 b0 b1 _ b2 b3 b4 b5 => hf Z2 H2 d e v w false _ b0 b1 ef b3.sub ⟨false, rfl, iteF ?_⟩
              exact ⟨Z2, [], F2, .ofV rv_bl, b2, b3, b4, fun q => b5 (and_l q)⟩
            | true =>
              dsimp only
              cases em3 : mc r2 with
              | stuck => trivial
              | exc x r3 =>
                intro k
                refine two' fun v w H2 Z2 F2 b0 b1 _ b2 b3 b4 b5 => hf Z2 H2 d e v w true _ b0 b1 ef b3.sub ⟨true, rfl, iteT ?_⟩
                have h3 := hc Z2 H2 r2 s F2 b3 b2
                rw [em3] at h3
                exact wE.mono (h3 fun cls d H' q => k cls d H' (q.thenT b4)) fun _ _ z => z.elim
              | ok z r3 =>
                dsimp only
                cases eg : g e z with
                | none => trivial
                | some o =>
                  refine two' fun v w H2 Z2 F2 b0 b1 b1' b2 b3 b4 b5 => hf Z2 H2 d e v w true _ b0 b1 ef b3.sub ⟨true, rfl, iteT ?_⟩
                  have h3 := hc Z2 H2 r2 s F2 b3 b2
                  rw [em3] at h3
                  refine wE.mono h3 fun w' H3 ⟨Z3, F3, c0, _, c2, c3, c4, c5⟩ => hg Z3 H3 e z w w' o _ ?_ c0 eg c3.sub fun u H' n => n.fin c2 c3 (b4.trans c4) fun q => ?_
                  · cases pb with
                    | true => exact b1.mono (c5 (hp2 rfl)) c4.zs
                    | false => exact ((b1' rfl).sub c4.zs).b c3.sub
                  · exact (b5 (and_l q)).trans (c5 (and_r q))
          | _ => trivial
        | _ => trivial
end
/-! ### name op= value -/
def mAug (i : Nat) (f : D → D → Option O) (m : OM) : SM := fun r => match r[i]? with
  | some (some (.val d)) => match m r with
    | .ok e r1 => match f d e with
      | some o => if i < r1.length then .nx (r1.set i (some o)) else .stuck
      | none => .stuck
    | .exc x r1 => .exc x r1
    | .stuck => .stuck
  | _ => .stuck
theorem f_ip {G : GC} {g : Int → Int → Int} : Op2 G (intD (fun _ _ => true) g) (ipI g) := f_int0
section
variable {G : GC} {X : Cx} {M : List Nat}
theorem s_aug {op : Operator} {ti : TIp} {f : D → D → Option O} {e : Expr} {m : OM} {nm pth : Bool} {i : Nat} {x : Str} {pos pos' : Pos} (ho : PIp X op ti) (hf : Op2 G f ti) (h : SimO G X e m nm pth) (hN : X.N.Nodup) (hi : X.N[i]? = some x) (hx : Loc X.env.scope x) (hM : M.contains i = false)
    (hxf : X.fn x = true ∨ X.env.scope.names.lookup x = some .local := by first | exact .inl rfl | exact .inr rfl | assumption) : SimS G X M (.AugAssign (.Name x pos') op e pos) (mAug i f m) := fun Z H r s F ow en ns ex => by
  have h1 := h Z H r s F ow en
  have P : PS X (.AugAssign (.Name x pos') op e pos) (tAug i (wE X e) ti) := ps_aug hN hi hx pwE ho hxf
  unfold mAug at ns ex ⊢
  cases er : r[i]? with
  | none => rw [er] at ns; exact absurd rfl ns
  | some q =>
    cases q with
    | none => rw [er] at ns; exact absurd rfl ns
    | some o0 =>
      cases o0 with
      | val d =>
        rw [er] at ns ex
        dsimp only at ns ex ⊢
        obtain ⟨v, F1, F2, e1, a1, _, _⟩ := en.get er
        unfold RepO at a1
        obtain ⟨a1, rfl⟩ := a1
        cases em : m r with
        | stuck => rw [em] at ns; exact absurd rfl ns
        | exc x r1 =>
          rw [em] at h1 ex
          exact wS.of P ⟨v, e1, wE.mono (h1 (exc_e ex)) fun _ _ z => z.elim⟩
        | ok e' r1 =>
          rw [em] at h1 ns ex
          dsimp only at ns ex ⊢
          cases ef : f d e' with
          | none => rw [ef] at ns; exact absurd rfl ns
          | some o =>
            rw [ef] at ns ex
            dsimp only at ns ex ⊢
            by_cases hl : i < r1.length
            · rw [if_pos hl] at ns ex ⊢
              refine wS.of P ⟨v, e1, wE.mono h1 fun w H1 ⟨Z1, F1, b0, _, b2, b3, b4, _⟩ => ?_⟩
              exact hf Z1 H1 d e' v w o _ ((a1.sub b4.zs).b b3.sub) b0 ef b3.sub fun u H' n => store_OkS (n.fin (nm := false) b2 b3 b4 fun z => nomatch z) hl hM
            · rw [if_neg hl] at ns
              exact absurd rfl ns
      | _ => rw [er] at ns; exact absurd rfl ns
end
/-! ### path.append(value) -/
def appO (o : O) : O → Option O
  | .lst os => if lenOk (os.length + 1) = true then some (.lst (os ++ [o])) else none
  | _ => none
def mApp (L : Nat → List Nat) (i : Nat) (ps : List Nat) (m : EM) : EM := fun r => match r[i]? with
  | some (some q0) => match getP L q0 ps with
    | some (.lst _) => match m r with
      | .ok o r1 => match r1[i]? with
        | some (some q) => match getP L q ps with
          | some c => match appO o c with
            | some c2 => if ownP L q ps = true then .ok (.val .non) (r1.set i (some (setP L q ps c2))) else .stuck
            | none => .stuck
          | none => .stuck
        | _ => .stuck
      | .exc x r1 => .exc x r1
      | .stuck => .stuck
    | _ => .stuck
  | _ => .stuck
theorem app_rep {G : GC} {H Z : Hp} {o c c2 : O} {w v : V} {F1 E : List Addr} (hc : RepO G H Z c w F1) (ho : RepO G H Z o v E) (e : appO o c = some c2) (nd1 : F1.Nodup) (nd2 : E.Nodup) (dj : ∀ b ∈ F1, b ∉ E) :
    ∃ a vs, w = .ref a ∧ H a = some (.lst vs) ∧ vs.length < sizeLine ∧ a ∈ F1 ∧ ∃ F3, RepO G (upd H a (.lst (vs ++ [v]))) Z c2 w F3 ∧ (∀ b ∈ F3, b ∈ F1 ∨ b ∈ E) ∧ F3.Nodup := by
  cases c with
  | lst os =>
    unfold appO at e
    dsimp only at e
    by_cases hl : lenOk (os.length + 1) = true
    · rw [if_pos hl] at e
      cases e
      unfold RepO at hc
      obtain ⟨a, vs, E1, rfl, h1, hr, rfl⟩ := hc
      have n1 := List.nodup_cons.mp nd1
      refine ⟨a, vs, rfl, h1, by rw [← hr.length]; exact lenOk_le hl, by simp, a :: (E1 ++ E), ?_, fun b m => ?_, ?_⟩
      · unfold RepO
        refine ⟨a, vs ++ [v], E1 ++ E, rfl, upd_same, hr.snoc (ho.mono (.refl _) fun b m u q => ?_) fun b m u q => ?_, rfl⟩
        · rw [upd_ne fun z => dj a (by simp) (by rw [← z]; exact m)]; exact q
        · rw [upd_ne fun z => n1.1 (by rw [← z]; exact m)]; exact q
      · rcases List.mem_cons.mp m with rfl | m
        · simp
        rcases List.mem_append.mp m with m | m
        · left; simp [m]
        · exact .inr m
      · refine List.nodup_cons.mpr ⟨fun m => ?_, List.nodup_append.mpr ⟨n1.2, nd2, fun x mx y my exy => dj x (by simp [mx]) (by rw [exy]; exact my)⟩⟩
        rcases List.mem_append.mp m with m | m
        · exact n1.1 m
        · exact dj a (by simp) m
    · rw [if_neg hl] at e; cases e
  | _ => cases e
section
variable {G : GC} {X : Cx}
theorem e_app (ok : ClsOk G) (hK : X.K = G.K) {oe e : Expr} {m : EM} {nm : Bool} {i : Nat} {ps : List Nat} {apos pos : Pos} (h : SimE G X e m nm) (hp : PthE G X oe i ps) (hps : (ps.isEmpty || nm) = true := by decide)
    (hbase : attributeBase oe "append" X.env (eval oe X.env) = eval oe X.env := by rfl)
    (hfew : ((backTo pos (starEach [e] X.env)).all (fun x => !x.1) && (backToKw pos (keywordEach [] X.env)).all (fun x => x.1.isSome) && decide ([e].length + ([] : List Keyword).length + (if ([] : List Keyword).isEmpty then 0 else 1) < 30)) = true := by rfl)
    (hline : (apos.endLine == pos.line) = true := by rfl) (hs : starEach [e] X.env = (false, eval e X.env) :: starEach [] X.env := by rfl) (hplain : (backTo pos (starEach [] X.env)).any (·.1) = false := by rfl) :
    SimE G X (.Call (.Attribute oe "append" apos) [e] [] pos) (mApp G.fid i ps m) false := fun Z H r s F ow en => by
  have h1 := h Z H r s F ow en
  have P : PE X (.Call (.Attribute oe "append" apos) [e] [] pos) (tBM X.K "list" rAppend (wE X oe) (tCons (wE X e) tNil)) := pe_bm PySem.F.plainAttrs_list PySem.F.slot_list_append PySem.F.type_list_append mt_append pwE (pa_cons pwE pa_nil hs) hbase hfew hline hs hplain
  unfold mApp
  cases er0 : r[i]? with
  | none => trivial
  | some q0' =>
    cases q0' with
    | none => trivial
    | some q0 =>
      dsimp only
      cases ep0 : getP G.fid q0 ps with
      | none => trivial
      | some c0 =>
        cases c0 with
        | lst os0 =>
          dsimp only
          obtain ⟨w00, w1, F01, F02, e01, e02, a01, _, _⟩ := path_at ok ow en er0 ep0
          unfold RepO at a01
          obtain ⟨al, vsl, _, rfl, hl0, _, _⟩ := a01
          have start : ∀ {Q : VK}, (wE X e s H fun y H2 => rAppend (.ref al) [y] H2 Q) → wE X (.Call (.Attribute oe "append" apos) [e] [] pos) s H Q := fun {Q} q =>
            wE.of P ((hp s H w00 _ e01 e02).mono fun u H1 ⟨eu, eH⟩ => by
              subst eu eH
              exact ⟨.inl ⟨rfl, vsl, SqL.of hl0⟩, q⟩)
          cases em : m r with
          | stuck => trivial
          | exc x r1 => rw [em] at h1; exact fun k => start (wE.mono (h1 k) fun _ _ z => z.elim)
          | ok o r1 =>
            rw [em] at h1
            dsimp only
            cases er : r1[i]? with
            | none => trivial
            | some q' =>
              cases q' with
              | none => trivial
              | some q =>
                dsimp only
                cases ep : getP G.fid q ps with
                | none => trivial
                | some c =>
                  dsimp only
                  cases es : appO o c with
                  | none => trivial
                  | some c2 =>
                    dsimp only
                    cases hw : ownP G.fid q ps with
                    | false => trivial
                    | true =>
                      rw [if_pos rfl]
                      refine start (wE.mono h1 fun v H1 qo => ?_)
                      obtain ⟨Z1, E, w0, w, F1, b1, b2, bz, b3, b4, b5, b6, b7, b8⟩ := at_path (M := []) ok qo er ep hw
                      obtain ⟨a, vs, rfl, c1, c2', c4, F3, c5, c6, c7⟩ := app_rep b3 b4 es b5 b6 b7
                      have ea : a = al := by
                        rw [e01] at b1
                        cases b1
                        cases ps with
                        | nil =>
                          cases e02
                          cases b2
                          rfl
                        | cons f fs =>
                          have hn : nm = true := by simpa using hps
                          obtain ⟨_, _, _, _, _, _, _, hsub⟩ := qo
                          have := (e02.sub (hsub hn)).det b2
                          cases this
                          rfl
                      subst ea
                      have fin := b8 (upd H1 a (.lst (vs ++ [v]))) c2 F3 (fun b u q m => by rw [upd_ne fun z => m (by rw [z]; exact c4)]; exact q) c5 (fun b m => (c6 b m).imp id .inl) c7
                      obtain ⟨Z2, F2, d1, d2, d3, _⟩ := fin
                      exact ⟨a, vs, v, rfl, rfl, c1, c2', Z2, [], F2, .ofV rv_non, d1, d2, d3, fun z => nomatch z⟩
        | _ => trivial
end
end PL
set_option Elab.async false
set_option linter.all false
set_option maxRecDepth 100000
set_option maxHeartbeats 1000000
namespace PL
open PySem PySem.Spec PyProof.Rows L2

/-! ### a new object -/
def MakeOk (G : GC) (mg : Str → Option Value) (base : Heap) (k : Nat) (x : Str) (c : Nat) (f : FM) (n : Nat) : Prop :=
  ∃ a fd ps, FnOk G.P G.w G.K mg base (L2.CX G.P G.w) k a fd ps (spI G f n) ∧ mg x = some (.ref (G.ca c)) ∧ Mk G.K (G.ca c) a ∧ Binds G.K fd ps [] ∧ ∀ os, f os ≠ .stuck → os.length = n
def mMake (f : FM) (c : Nat) (ms : Env → R (List O)) : EM := fun r => match ms r with
  | .ok os r1 => match f (.ins c [] :: (frzs os).map .val) with
    | .ok (.val .non) (some o :: _) => .ok o r1
    | _ => .stuck
  | .exc x r1 => .exc x r1
  | .stuck => .stuck
section
variable {G : GC} {X : Cx} {mg : Str → Option Value} {base : Heap} {k n c : Nat} {f : FM} {x : Str} {p pos : Pos}
theorem e_make {es : List Expr} {ms : Env → R (List O)} {nm : Bool} (bx : BX G mg base X (k + 1)) (mk : MakeOk G mg base k x c f n) (h : SimA G X es ms nm) (hg : Gl X x) (hpl : stars X pos es) (h0 : es = [] → ms = mNil) (hdb : (x == ("__debug__" : Str)) = false := by decide) :
    SimE G X (.Call (.Name x p) es [] pos) (mMake f c ms) nm := fun Z H r s F ow en => by
  obtain ⟨a, fd, ps, F0, hm, M, hb, clen⟩ := mk
  have F' : FnOk X.prog X.w X.K X.mg X.base (L2.CX X.prog X.w) k a fd ps (spI G f n) := by rw [bx.p, bx.w, bx.K, bx.mg, bx.base]; exact F0
  have hm' : X.mg x = some (.ref (G.ca c)) := by rw [bx.mg]; exact hm
  have M' : Mk X.K (G.ca c) a := by rw [bx.K]; exact M
  have hb' : Binds X.K fd ps [] := by rw [bx.K]; exact hb
  have run : ∀ {Q : VK} {Q1 : List V → Hp → Prop}, wA X es s H Q1 → (es = [] → Q1 [] H) → (∀ vs H1, Q1 vs H1 → ∀ x dx, H1 x = none → H1 dx = none → dx ≠ x → spI G f n (.ref x :: (vs ++ [])) (upd (upd H1 dx (.own x)) x (.ins (G.ca c) dx [])) (fun v H2 => v = .non ∧ Q (.ref x) H2) E0) →
      wE X (.Call (.Name x p) es [] pos) s H Q := fun {Q Q1} h1 h2 h3 => by
    cases es with
    | nil => exact wE.of (pe_make0 M' F' bx.room hg hm' hb' .nil passL hdb) (h3 [] H (h2 rfl))
    | cons e es => exact wE.of (pe_make M' F' bx.room hg hm' hb' .nil passL pwA hdb (hpl e es rfl).1 (hpl e es rfl).2) (wA.mono h1 h3)
  have h1 := h Z H r s F ow en
  unfold mMake
  cases em : ms r with
  | stuck => trivial
  | exc xx r1 =>
    rw [em] at h1
    intro kx
    exact run (h1 kx) (fun e => by rw [h0 e] at em; cases em) fun _ _ z => z.elim
  | ok os r1 =>
    rw [em] at h1
    dsimp only
    have z0 : es = [] → OkA G Z H s F os r1 nm [] H := fun e => by
      subst e
      have e := h0 rfl
      subst e
      unfold mNil at em
      cases em
      exact ⟨Z, [], F, .nil, en, ow, .refl, fun _ => .refl _⟩
    cases eo : f (.ins c [] :: (frzs os).map .val) with
    | stuck => trivial
    | exc _ _ => trivial
    | ok o outs =>
      cases o with
      | val d =>
        cases d with
        | non =>
          cases outs with
          | nil => trivial
          | cons q outs =>
            cases q with
            | none => trivial
            | some o =>
              refine run h1 z0 fun vs H1 q x dx nx ndx nex => ?_
              obtain ⟨Z1, F1, a1, a2, a3, a4, a5⟩ := q.frozen
              obtain ⟨b1, b2, b3⟩ := a3.new (u := .own x) a2.there ndx
              have nx' : upd H1 dx (.own x) x = none := by rw [upd_ne nex.symm]; exact nx
              have en1 := a2.mono (.refl _) fun b m u e => b3 b u e
              have th1 : ∀ b ∈ dx :: F1, ∃ u, upd H1 dx (.own x) b = some u := fun b m => by
                rcases List.mem_cons.mp m with rfl | m
                · exact ⟨_, upd_same⟩
                · exact en1.there b m
              obtain ⟨c1, c2, c3⟩ := b1.new (u := .ins (G.ca c) dx []) th1 nx'
              have en2 := en1.mono (.refl _) fun b m u e => c3 b u e
              rw [List.append_nil]
              have self : RepO G (upd (upd H1 dx (.own x)) x (.ins (G.ca c) dx [])) Z1 (.ins c []) (.ref x) [x, dx] := by
                unfold RepO
                exact ⟨x, dx, [], [], rfl, by rw [upd_same, List.zip_nil_right], by rw [upd_ne nex, upd_same], Nat.zero_le _, .nil, rfl⟩
              have ro : RepOs G (upd (upd H1 dx (.own x)) x (.ins (G.ca c) dx [])) Z1 (.ins c [] :: (frzs os).map .val) (.ref x :: vs) ([x, dx] ++ []) := .cons self (.vals a1)
              have pc : (F1 ++ ([x, dx] ++ [])).Perm (x :: dx :: F1) := by
                rw [List.append_nil]
                exact List.perm_append_comm (l₁ := F1) (l₂ := [x, dx])
              have ow3 : Ow Z1 (upd (upd H1 dx (.own x)) x (.ins (G.ca c) dx [])) (F1 ++ ([x, dx] ++ [])) := c1.perm pc
              refine ⟨?_, Z1, _, _, ro, ow3.less (List.sublist_append_right _ _), fun o' outs' e v H' ⟨Z', E', F', d0, d1, d2, d3⟩ => ?_, fun x' outs' e => ?_, ?_⟩
              · rw [← ro.length]; exact clen _ (by rw [eo]; exact fun z => nomatch z)
              · rw [eo] at e; cases e
                unfold RepO RepV at d0
                obtain ⟨rfl, rfl⟩ := d0
                refine ⟨rfl, ?_⟩
                obtain ⟨v', s', G1, G2, es', g0, g1, rfl⟩ := d1
                rw [List.map_cons] at es'
                cases es'
                rw [List.nil_append] at d2 d3
                have d4 := d3.less (F2 := G1) fun b m => List.mem_append_left _ m
                obtain ⟨q1, q2, q3⟩ := d4.beside ow3 (d2.less (List.sublist_append_left _ _)) en2.there
                have pq : (G1 ++ F1).Perm (F1 ++ G1) := List.perm_append_comm
                have f12 := b2.trans c2
                refine ⟨Z', G1, F1, g0, en2.mono d3.zs q3, q2.perm pq, (a4.trans (f12.trans (q1.permL pc.symm))).less fun b m => pq.mem_iff.mp m, fun z => (a5 z).trans fun b u e => ?_⟩
                have hb1 : b ≠ x := ne_of_none e nx
                have hb2 : b ≠ dx := ne_of_none e ndx
                refine d3.fr b u (by rw [upd_ne hb1, upd_ne hb2]; exact e) ?_
                simp [hb1, hb2]
              · rw [eo] at e; cases e
              · rw [eo]; exact fun z => nomatch z
        | _ => trivial
      | _ => trivial
end
end PL
set_option Elab.async false
set_option linter.all false
set_option maxRecDepth 100000
set_option maxHeartbeats 1000000
namespace PL
open PySem PySem.Spec PyProof.Rows L2

/-! ### keys -/
mutual
def dNk : D → Option NestedKey
  | .non => some .none
  | .int i => some (.num i)
  | .str x => some (.text x)
  | .tup ds => match dNks ds with
    | some ks => some (.tup ks)
    | none => none
  | _ => none
def dNks : List D → Option (List NestedKey)
  | [] => some []
  | d :: ds => match dNk d with
    | some k => match dNks ds with
      | some ks => some (k :: ks)
      | none => none
    | none => none
end
mutual
theorem dNk_nkD : ∀ k : NestedKey, dNk (nkD k) = some k
  | .none => rfl
  | .num _ => rfl
  | .text _ => rfl
  | .tup ks => by unfold nkD dNk; rw [dNks_nkD ks]
theorem dNks_nkD : ∀ ks : List NestedKey, dNks (nkDs ks) = some ks
  | [] => rfl
  | k :: ks => by unfold nkDs dNks; rw [dNk_nkD k, dNks_nkD ks]
end
mutual
theorem nkD_of : ∀ {d : D} {k : NestedKey}, dNk d = some k → d = nkD k
  | .non, _, h => by cases h; rfl
  | .int _, _, h => by cases h; rfl
  | .str _, _, h => by cases h; rfl
  | .tup ds, _, h => by
    unfold dNk at h
    cases e : dNks ds with
    | none => rw [e] at h; cases h
    | some ks => rw [e] at h; cases h; unfold nkD; rw [nkDs_of e]
  | .bl _, _, h => by cases h
  | .lst _, _, h => by cases h
  | .dct _ _, _, h => by cases h
  | .ins _ _, _, h => by cases h
theorem nkDs_of : ∀ {ds : List D} {ks : List NestedKey}, dNks ds = some ks → ds = nkDs ks
  | [], _, h => by cases h; rfl
  | d :: ds, _, h => by
    unfold dNks at h
    cases e : dNk d with
    | none => rw [e] at h; cases h
    | some k =>
      rw [e] at h
      dsimp only at h
      cases e2 : dNks ds with
      | none => rw [e2] at h; cases h
      | some ks => rw [e2] at h; cases h; unfold nkDs; rw [nkD_of e, nkDs_of e2]
end
theorem nkD_inj {a b : NestedKey} (h : nkD a = nkD b) : a = b := by
  have := dNk_nkD a
  rw [h, dNk_nkD b] at this
  exact (Option.some.inj this).symm
theorem nkDs_map (ks : List NestedKey) : nkDs ks = ks.map nkD := by
  induction ks with
  | nil => rfl
  | cons k ks ih => simp only [nkDs, List.map_cons, ih]
theorem keyD_inj {a b : Key} (h : keyD a = keyD b) : a = b := by
  cases a <;> cases b <;> simp_all [keyD]
/-- a key: an int or a text (false), a tuple of such, nested (true) -/
def kindK : D → Option Bool
  | .int _ => some false
  | .str _ => some false
  | .tup ds => match dNks ds with
    | some ks => if (NestedKey.tup ks).depth ≤ 8 then some true else none
    | none => none
  | _ => none
def homK (b : Bool) (ks : List D) : Bool := ks.all fun k => decide (kindK k = some b)
theorem kind_plain {k : Key} : kindK (keyD k) = some false := by cases k <;> rfl
theorem plain_of {d : D} (h : kindK d = some false) : ∃ k : Key, d = keyD k := by
  cases d with
  | int i => exact ⟨.inl i, rfl⟩
  | str x => exact ⟨.inr x, rfl⟩
  | tup ds =>
    unfold kindK at h
    dsimp only at h
    split at h
    · split at h <;> cases h
    · cases h
  | _ => cases h
theorem nest_of {d : D} (h : kindK d = some true) : ∃ ks : List NestedKey, d = nkD (.tup ks) ∧ (NestedKey.tup ks).depth ≤ 8 := by
  cases d with
  | tup ds =>
    unfold kindK at h
    dsimp only at h
    cases e : dNks ds with
    | none => rw [e] at h; cases h
    | some ks =>
      rw [e] at h
      dsimp only at h
      by_cases hd : (NestedKey.tup ks).depth ≤ 8
      · exact ⟨ks, by unfold nkD; rw [← nkDs_of e], hd⟩
      · rw [if_neg hd] at h; cases h
  | _ => cases h
/-! ### dicts by data -/
def dIx (ks : List D) (k : D) : Option Nat := ks.findIdx? fun x => decide (x = k)
def dGet (ks ds : List D) (k : D) : Option D := (dIx ks k).bind fun i => ds[i]?
def dPut (ks ds : List D) (k d : D) : List D × List D := match dIx ks k with
  | some i => (ks, ds.set i d)
  | none => (ks ++ [k], ds ++ [d])
theorem dIx_cons {x k : D} {ks : List D} : dIx (x :: ks) k = if x = k then some 0 else (dIx ks k).map (· + 1) := by
  unfold dIx
  rw [List.findIdx?_cons]
  by_cases h : x = k
  · simp [h]
  · simp [h]
/-- look up, whatever the keys' kind -/
theorem val_rel {κ α : Type} [DecidableEq κ] (f : κ → D) (inj : ∀ a b, f a = f b → a = b) (k : κ) (R : D → α → Prop) : ∀ (kk : List κ) (ds : List D) (vs : List α), kk.length = ds.length → ds.length = vs.length → (∀ (i : Nat) (d : D) (v : α), ds[i]? = some d → vs[i]? = some v → R d v) →
    (match dGet (kk.map f) ds (f k) with
      | some d => ∃ v, (((kk.zip vs).find? fun kv => decide (kv.1 = k)).map (·.2)) = some v ∧ R d v
      | none => (((kk.zip vs).find? fun kv => decide (kv.1 = k)).map (·.2)) = none)
  | [], ds, vs, _, _, _ => rfl
  | x :: kk, [], vs, h, _, _ => by simp at h
  | x :: kk, d :: ds, [], _, h, _ => by simp at h
  | x :: kk, d :: ds, v :: vs, h1, h2, hr => by
    have ih := val_rel f inj k R kk ds vs (by simpa using h1) (by simpa using h2) fun i d v e1 e2 => hr (i + 1) d v (by simpa using e1) (by simpa using e2)
    unfold dGet at ih ⊢
    rw [List.map_cons, dIx_cons]
    by_cases e : x = k
    · subst e
      rw [if_pos rfl]
      simp only [Option.bind_some, List.getElem?_cons_zero, List.zip_cons_cons, List.find?_cons, decide_true, Option.map_some]
      exact ⟨v, rfl, hr 0 d v rfl rfl⟩
    · rw [if_neg fun z => e (inj _ _ z)]
      rw [List.zip_cons_cons, List.find?_cons, show decide ((x, v).1 = k) = false from decide_eq_false e]
      cases e2 : dIx (kk.map f) (f k) with
      | none =>
        rw [e2] at ih
        exact ih
      | some i =>
        rw [e2] at ih
        simpa using ih
theorem get_two {G : GC} {Z : Hp} {ds : List D} {vs : List V} (h : RepVs G Z ds vs) : ∀ (i : Nat) (d : D) (v : V), ds[i]? = some d → vs[i]? = some v → RepV G Z d v := fun i d v e1 e2 => by
  obtain ⟨w, h1, h2⟩ := h.get e1
  rw [e2] at h1
  cases h1
  exact h2
mutual
theorem nested_is {G : GC} {X : Cx} {pins : List (Addr × Obj)} {σ : L2.St} {H Z : Hp} {t : Shared} (I : Inv X pins σ H t) (hK : X.K = G.K) (sz : Sub Z H) : ∀ {k : NestedKey} {v : V} {u : Value}, RepV G Z (nkD k) v → RelV v u → NestedIs t.heap k u
  | .none, _, _, h, r => by unfold nkD RepV at h; subst h; cases r; exact .none
  | .num i, _, _, h, r => by unfold nkD RepV at h; subst h; obtain ⟨tk, rfl⟩ := r; exact .int i tk
  | .text x, _, _, h, r => by unfold nkD RepV at h; subst h; obtain ⟨tk, rfl⟩ := r; exact .text x tk
  | .tup ks, _, _, h, r => by
    unfold nkD RepV at h
    obtain ⟨a, vs, rfl, q, rv⟩ := h
    cases r
    obtain ⟨its, r1, p, _⟩ := I.tuple (X := X) (by rw [hK]; exact sz.sqT q)
    obtain ⟨o, ho, hc, n, hd⟩ := p
    exact .tup ho hc hd (by simpa using nested_all I hK sz rv r1)
theorem nested_all {G : GC} {X : Cx} {pins : List (Addr × Obj)} {σ : L2.St} {H Z : Hp} {t : Shared} (I : Inv X pins σ H t) (hK : X.K = G.K) (sz : Sub Z H) : ∀ {ks : List NestedKey} {vs : List V} {us : List Value}, RepVs G Z (nkDs ks) vs → Vals vs us → NestedAll t.heap ks us
  | [], _, _, h, r => by
    unfold nkDs RepVs at h
    subst h
    cases r
    exact .nil
  | k :: ks, _, _, h, r => by
    unfold nkDs RepVs at h
    obtain ⟨v, w, rfl, h1, h2⟩ := h
    cases r with
    | cons r1 r2 => exact .cons (nested_is I hK sz h1 r1) (nested_all I hK sz h2 r2)
end
/-- a dict of plain keys -/
theorem plain_dict {w : World} {a : Addr} {u : HO} {ks : List D} {kvs vs : List V} (h : DctU w a u ks kvs vs) (hom : homK false ks = true) : ∃ kk : List Key, u = .dK (kk.zip vs) ∧ ks = kk.map keyD ∧ kvs = kk.map kV ∧ kk.length = vs.length ∧ kk.Nodup := by
  rcases h with h | ⟨nks, as, rfl, rfl, rfl, _, _, ne, tu⟩
  · exact h
  · exfalso
    cases nks with
    | nil => exact ne rfl
    | cons k nks =>
      cases k with
      | tup ks =>
        unfold homK nkDs at hom
        rw [List.all_cons, Bool.and_eq_true] at hom
        have := of_decide_eq_true hom.1
        unfold nkD kindK at this
        dsimp only at this
        split at this
        · split at this <;> cases this
        · cases this
      | _ => simp [isTupK] at tu
theorem hom_nil_of {kk : List Key} (h : homK true (kk.map keyD) = true) : kk = [] := by
  cases kk with
  | nil => rfl
  | cons k kk =>
    unfold homK at h
    rw [List.map_cons, List.all_cons, kind_plain] at h
    simp at h
theorem nkDs_len (nks : List NestedKey) : (nkDs nks).length = nks.length := by rw [nkDs_map, List.length_map]
/-- a dict of nested keys (or an empty one), in the state -/
theorem nest_dict {G : GC} {X : Cx} {pins : List (Addr × Obj)} {σ : L2.St} {H Z : Hp} {t : Shared} (I : Inv X pins σ H t) (hK : X.K = G.K) (hw : X.w = G.w) (sz : Sub Z H) {a : Addr} {u : HO} {ks : List D} {kvs vs : List V} (hr : Rd H a u) (h : DctU G.w a u ks kvs vs) (rk : RepVs G Z ks kvs) (hom : homK true ks = true) :
    ∃ (nks : List NestedKey) (as : List Addr) (us : List Value), ks = nkDs nks ∧ kvs = as.map V.ref ∧ Vals vs us ∧ nks.length = as.length ∧ as.length = vs.length ∧ (a == sysModules) = false ∧ vs.length ≤ sizeLine ∧ nks.Nodup ∧ (∀ k ∈ nks, k.depth ≤ 8) ∧ nks.all isTupK = true ∧
      t.heap.DictOfH (nestedKind X.prog X.w) a (nks.zip (as.zip us)) := by
  have x := hr.ok I.hok
  rcases h with ⟨kk, rfl, rfl, rfl, e1, nd⟩ | ⟨nks, as, rfl, rfl, rfl, e1, e2, ne, tu⟩
  · have := hom_nil_of hom
    subst this
    have hv : vs = [] := List.eq_nil_of_length_eq_zero e1.symm
    subst hv
    obtain ⟨_, hd, vs', kv, o, es, ep, h1, h2, h3, _, h5, _⟩ := x
    cases kv
    have : es.toList = [] := by
      cases h' : es.toList with
      | nil => rfl
      | cons _ _ => rw [h'] at h5; cases h5
    exact ⟨[], [], [], rfl, rfl, .nil, rfl, rfl, hd, Nat.zero_le _, .nil, fun _ m => (nomatch m), rfl, o, es, ep, h1, h2, h3, this, fun _ m => (nomatch m), .nil⟩
  · obtain ⟨⟨hd, hz, l1, l2, nd, dp, o, es, ep, us, rv, h1, h2, h3, h4⟩, _, _⟩ := x
    have lu := rv.length
    refine ⟨nks, as, us, rfl, rfl, rv, e1, e2, hd, hz, nd, dp, tu, o, es, ep, h1, h2, h3, ?_, fun y hy => ?_, ?_⟩
    · rw [h4]
      refine List.map_congr_left fun y hy => ?_
      show _ = (⟨NestedKey.hash X.w y.1, .ref y.2.1, y.2.2⟩ : DictEntry)
      rw [hw]
    · obtain ⟨i, hi⟩ := List.mem_iff_getElem?.mp hy
      rw [List.getElem?_zip_eq_some] at hi
      obtain ⟨hi1, hi2⟩ := hi
      have hi2 : (as.zip us)[i]? = some (y.2.1, y.2.2) := hi2
      rw [List.getElem?_zip_eq_some] at hi2
      have m := List.mem_of_getElem? hi1
      refine ⟨?_, dp _ m⟩
      obtain ⟨v, q1, q2⟩ := rk.get (i := i) (d := nkD y.1) (by rw [nkDs_map, List.getElem?_map, hi1]; rfl)
      rw [List.getElem?_map, hi2.1] at q1
      cases q1
      exact nested_is I hK sz q2 rfl
    · have : (nks.zip (as.zip us)).map (·.1) = nks := List.map_fst_zip (by rw [List.length_zip]; omega)
      rw [this]
      exact nd
/-! ### an operator's reading by data -/
def rDat (G : GC) (f : D → D → Option O) : R2 := fun x y H Q => ∃ Z d e o, RepB G H Z d x ∧ RepB G H Z e y ∧ f d e = some o ∧ Sub Z H ∧ ∀ u H', New G Z H o u H' → Q u H'
theorem f_dat {G : GC} {f : D → D → Option O} : Op2 G f (rDat G f) := fun Z H d e v w o Q hd he ef sz hQ => ⟨Z, d, e, o, hd, he, ef, sz, hQ⟩
def rDat1 (G : GC) (f : D → Option O) : V → Hp → VK → Prop := fun x H Q => ∃ Z d o, RepB G H Z d x ∧ f d = some o ∧ Sub Z H ∧ ∀ u H', New G Z H o u H' → Q u H'
theorem f_dat1 {G : GC} {f : D → Option O} : Op1 G f (rDat1 G f) := fun Z H d v o Q hd ef sz hQ => ⟨Z, d, o, hd, ef, sz, hQ⟩
def getD : D → D → Option O
  | .dct ks ds, k => match kindK k with
    | some b => if homK b ks = true then match dGet ks ds k with
        | some d => some (.val d)
        | none => none
      else none
    | none => none
  | _, _ => none
theorem rb_key {G : GC} {H Z : Hp} {k : Key} {v : V} (h : RepB G H Z (keyD k) v) : v = kV k := by
  cases k with
  | inl i => exact rb_int h
  | inr x => exact rb_str h
theorem rb_nest {G : GC} {H Z : Hp} {ks : List NestedKey} {v : V} (h : RepB G H Z (nkD (.tup ks)) v) : RepV G Z (nkD (.tup ks)) v := by
  unfold nkD at h ⊢
  exact h
theorem rb_dct {G : GC} {H Z : Hp} {ks ds : List D} {v : V} (h : RepB G H Z (.dct ks ds) v) : ∃ a u kvs vs, v = .ref a ∧ Rd H a u ∧ DctU G.w a u ks kvs vs ∧ RepVs G Z ks kvs ∧ RepVs G Z ds vs := h
theorem room_nk {A : Around} (hu : A.units + 64 < cLine) {P : Program} {w : World} : (nestedKind P w).room A.in1 := by
  show A.in1.units + 8 < cLine
  have : A.in1.units = A.units + 1 := rfl
  omega
section
variable {G : GC} {X : Cx}
/-- what the dict holds at the key, by its values -/
theorem nest_at {Z H : Hp} {pins : List (Addr × Obj)} {σ : L2.St} {t : Shared} (I : Inv X pins σ H t) (hK : X.K = G.K) (hw : X.w = G.w) (sz : Sub Z H) {a : Addr} {u : HO} {ks ds : List D} {kvs vs : List V} {k : List NestedKey} {x : V} (hr : Rd H a u) (h : DctU G.w a u ks kvs vs) (rk : RepVs G Z ks kvs) (rd : RepVs G Z ds vs) (hom : homK true ks = true)
    (hx : RepV G Z (nkD (.tup k)) x) (hd8 : (NestedKey.tup k).depth ≤ 8) : ∃ (b : Addr) (xs : List (NestedKey × Addr × Value)), x = .ref b ∧ (a == sysModules) = false ∧ t.heap.DictOfH (nestedKind X.prog X.w) a xs ∧ (nestedKind X.prog X.w).is t.heap (.tup k) b ∧
      (match dGet ks ds (nkD (.tup k)) with
        | some d => ∃ p v, atKey xs (.tup k) = some p ∧ RelV v p.2 ∧ RepV G Z d v
        | none => atKey xs (.tup k) = none) := by
  obtain ⟨nks, as, us, rfl, rfl, rv, l1, l2, hd, hz, nd, dp, tu, dd⟩ := nest_dict I hK hw sz hr h rk hom
  have hx' := hx
  unfold nkD RepV at hx'
  obtain ⟨b, ys, rfl, _, _⟩ := hx'
  refine ⟨b, _, rfl, hd, dd, ⟨nested_is I hK sz hx rfl, hd8⟩, ?_⟩
  have lu := rv.length
  have key := val_rel nkD (fun _ _ => nkD_inj) (.tup k) (fun (d : D) (p : Addr × Value) => ∃ v, RelV v p.2 ∧ RepV G Z d v) nks ds (as.zip us) (by have := rd.length; omega) (by have := rd.length; rw [List.length_zip]; omega) fun i d p e1 e2 => by
    obtain ⟨v, q1, q2⟩ := rd.get e1
    have e2 : (as.zip us)[i]? = some (p.1, p.2) := e2
    rw [List.getElem?_zip_eq_some] at e2
    obtain ⟨w', q3, q4⟩ := rv.get q1
    rw [e2.2] at q3
    cases q3
    exact ⟨v, q4, q2⟩
  rw [nkDs_map]
  unfold atKey
  cases e : dGet (nks.map nkD) ds (nkD (.tup k)) with
  | none => rw [e] at key; exact key
  | some d =>
    rw [e] at key
    obtain ⟨p, q1, v, q2, q3⟩ := key
    exact ⟨p, v, q1, q2, q3⟩
theorem plain_at {Z : Hp} {a : Addr} {u : HO} {ks ds : List D} {kvs vs : List V} {k : Key} (h : DctU G.w a u ks kvs vs) (rd : RepVs G Z ds vs) (hom : homK false ks = true) : ∃ kk : List Key, u = .dK (kk.zip vs) ∧
      (match dGet ks ds (keyD k) with
        | some d => ∃ v, valV (kk.zip vs) k = some v ∧ RepV G Z d v
        | none => valV (kk.zip vs) k = none) := by
  obtain ⟨kk, rfl, rfl, rfl, l1, nd⟩ := plain_dict h hom
  refine ⟨kk, rfl, ?_⟩
  have key := val_rel keyD (fun _ _ => keyD_inj) k (fun d v => RepV G Z d v) kk ds vs (by have := rd.length; omega) rd.length (get_two rd)
  exact key
theorem ix_dict (hK : X.K = G.K) (hw : X.w = G.w) (hu : X.A.units + 64 < cLine) : IxR X (rDat G getD) := by
  intro value slice pins s σ H x y v u Q I rx ry h hs
  obtain ⟨Z, d, e, o, hd, he, ef, sz, hQ⟩ := h
  cases d with
  | dct ks ds =>
    unfold getD at ef
    dsimp only at ef
    obtain ⟨a, un, kvs, vs, rfl, hr, hu', rk, rd⟩ := rb_dct hd
    cases rx
    cases hk : kindK e with
    | none => rw [hk] at ef; cases ef
    | some b =>
      rw [hk] at ef
      dsimp only at ef
      by_cases hom : homK b ks = true
      · rw [if_pos hom] at ef
        cases b with
        | false =>
          obtain ⟨k, rfl⟩ := plain_of hk
          have hy := rb_key he
          subst hy
          obtain ⟨kk, rfl, key⟩ := plain_at (k := k) hu' rd hom
          cases eg : dGet ks ds (keyD k) with
          | none => rw [eg] at ef; cases ef
          | some dd =>
            rw [eg] at ef key
            cases ef
            obtain ⟨vv, h1, h2⟩ := key
            have g : DGet H a (kV k) (some vv) := .inl ⟨_, k, hr, rfl, h1.symm⟩
            exact tail_any (dict_typeIs I g) PySem.F.slot_dict_getitem.lookup (d_getItem (by omega) I g ry fun w' s' I' rw' => ⟨vv, H, I', rw', hQ _ _ (.val h2)⟩) hs
        | true =>
          obtain ⟨k, rfl, h8⟩ := nest_of hk
          obtain ⟨b, xs, rfl, hsys, dd, hi, key⟩ := nest_at I hK hw sz hr hu' rk rd hom (rb_nest he) h8
          cases ry
          cases eg : dGet ks ds (nkD (.tup k)) with
          | none => rw [eg] at ef; cases ef
          | some d' =>
            rw [eg] at ef key
            cases ef
            obtain ⟨p, vv, h1, h2, h3⟩ := key
            exact tail_any dd.typeIs PySem.F.slot_dict_getitem.lookup (wpAny_getItem_heap (room_nk hu) hi dd h1 ⟨vv, H, I.tok _, h2, hQ _ _ (.val h3)⟩) hs
      · rw [if_neg hom] at ef; cases ef
  | _ => unfold getD at ef; cases ef
/-- k in d -/
def inDct (neg : Bool) : D → D → Option O
  | k, .dct ks _ => match kindK k with
    | some b => if homK b ks = true then some (.val (.bl (if neg = true then !(dIx ks k).isSome else (dIx ks k).isSome))) else none
    | none => none
  | _, _ => none
theorem dGet_some {ks ds : List D} {k : D} (h : ks.length = ds.length) : (dGet ks ds k).isSome = (dIx ks k).isSome := by
  unfold dGet
  cases e : dIx ks k with
  | none => rfl
  | some i =>
    have := (List.findIdx?_eq_some_iff_getElem.mp e).1
    rw [Option.bind_some, List.getElem?_eq_getElem (by omega)]
    rfl
theorem op_inDct (hK : X.K = G.K) (hw : X.w = G.w) (hu : X.A.units + 64 < cLine) : OpR X (compareOp .In) (rDat G (inDct false)) := by
  intro pins s σ H x y v u Q I rx ry h
  obtain ⟨Z, e, d, o, he, hd, ef, sz, hQ⟩ := h
  cases d with
  | dct ks ds =>
    unfold inDct at ef
    dsimp only at ef
    obtain ⟨a, un, kvs, vs, rfl, hr, hu', rk, rd⟩ := rb_dct hd
    have ll : ks.length = ds.length := by rw [rk.length, rd.length]; exact hu'.len
    cases ry
    cases hk : kindK e with
    | none => rw [hk] at ef; cases ef
    | some b =>
      rw [hk] at ef
      dsimp only at ef
      by_cases hom : homK b ks = true
      · rw [if_pos hom, if_neg Bool.false_ne_true] at ef
        cases ef
        rw [← dGet_some ll] at hQ
        cases b with
        | false =>
          obtain ⟨k, rfl⟩ := plain_of hk
          have hy := rb_key he
          subst hy
          obtain ⟨kk, rfl, key⟩ := plain_at (k := k) hu' rd hom
          refine d_in (o := valV (kk.zip vs) k) (by omega) I (.inl ⟨_, k, hr, rfl, rfl⟩) rx fun s' I' => ⟨.bl _, H, I', rfl, ?_⟩
          cases eg : dGet ks ds (keyD k) with
          | none =>
            rw [eg] at hQ key
            rw [key]
            exact hQ _ _ (.val rv_bl)
          | some dd =>
            rw [eg] at hQ key
            obtain ⟨vv, h1, _⟩ := key
            rw [h1]
            exact hQ _ _ (.val rv_bl)
        | true =>
          obtain ⟨k, rfl, h8⟩ := nest_of hk
          obtain ⟨b, xs, rfl, hsys, dd, hi, key⟩ := nest_at I hK hw sz hr hu' rk rd hom (rb_nest he) h8
          cases rx
          refine wpAny_in_heap (room_nk hu) hi hsys dd ⟨.bl _, H, I.tok _, rfl, ?_⟩
          cases eg : dGet ks ds (nkD (.tup k)) with
          | none =>
            rw [eg] at hQ key
            rw [key]
            exact hQ _ _ (.val rv_bl)
          | some d' =>
            rw [eg] at hQ key
            obtain ⟨p, vv, h1, _⟩ := key
            rw [h1]
            exact hQ _ _ (.val rv_bl)
      · rw [if_neg hom] at ef; cases ef
  | _ => unfold inDct at ef; cases ef
theorem op_ninDct (hK : X.K = G.K) (hw : X.w = G.w) (hu : X.A.units + 64 < cLine) : OpR X (compareOp .NotIn) (rDat G (inDct true)) := by
  intro pins s σ H x y v u Q I rx ry h
  obtain ⟨Z, e, d, o, he, hd, ef, sz, hQ⟩ := h
  cases d with
  | dct ks ds =>
    unfold inDct at ef
    dsimp only at ef
    obtain ⟨a, un, kvs, vs, rfl, hr, hu', rk, rd⟩ := rb_dct hd
    have ll : ks.length = ds.length := by rw [rk.length, rd.length]; exact hu'.len
    cases ry
    cases hk : kindK e with
    | none => rw [hk] at ef; cases ef
    | some b =>
      rw [hk] at ef
      dsimp only at ef
      by_cases hom : homK b ks = true
      · rw [if_pos hom, if_pos rfl] at ef
        cases ef
        rw [← dGet_some ll] at hQ
        cases b with
        | false =>
          obtain ⟨k, rfl⟩ := plain_of hk
          have hy := rb_key he
          subst hy
          obtain ⟨kk, rfl, key⟩ := plain_at (k := k) hu' rd hom
          refine d_notIn (o := valV (kk.zip vs) k) (by omega) I (.inl ⟨_, k, hr, rfl, rfl⟩) rx fun s' I' => ⟨.bl _, H, I', rfl, ?_⟩
          cases eg : dGet ks ds (keyD k) with
          | none =>
            rw [eg] at hQ key
            rw [key]
            exact hQ _ _ (.val rv_bl)
          | some dd =>
            rw [eg] at hQ key
            obtain ⟨vv, h1, _⟩ := key
            rw [h1]
            exact hQ _ _ (.val rv_bl)
        | true =>
          obtain ⟨k, rfl, h8⟩ := nest_of hk
          obtain ⟨b, xs, rfl, hsys, dd, hi, key⟩ := nest_at I hK hw sz hr hu' rk rd hom (rb_nest he) h8
          cases rx
          refine notIn_keyed (room_nk hu) hi hsys ⟨_, dd, rfl⟩ ⟨.bl _, H, I.tok _, rfl, ?_⟩
          rw [valueAt_pairsH, Option.isSome_map]
          cases eg : dGet ks ds (nkD (.tup k)) with
          | none =>
            rw [eg] at hQ key
            rw [key]
            exact hQ _ _ (.val rv_bl)
          | some d' =>
            rw [eg] at hQ key
            obtain ⟨p, vv, h1, _⟩ := key
            rw [h1]
            exact hQ _ _ (.val rv_bl)
      · rw [if_neg hom] at ef; cases ef
  | _ => unfold inDct at ef; cases ef
end
end PL
set_option Elab.async false
set_option linter.all false
set_option maxRecDepth 100000
set_option maxHeartbeats 1000000
namespace PL
open PySem PySem.Spec PyProof.Rows L2

/-! ### d[k] = v -/
theorem dIx_of {κ : Type} [DecidableEq κ] (f : κ → D) (inj : ∀ a b, f a = f b → a = b) (k : κ) : ∀ kk : List κ, (match dIx (kk.map f) (f k) with
    | some i => kk[i]? = some k
    | none => k ∉ kk)
  | [] => by simp [dIx]
  | x :: kk => by
    have ih := dIx_of f inj k kk
    rw [List.map_cons, dIx_cons]
    by_cases e : x = k
    · subst e
      rw [if_pos rfl]
      rfl
    · rw [if_neg fun z => e (inj _ _ z)]
      cases e2 : dIx (kk.map f) (f k) with
      | none =>
        rw [e2] at ih
        simp only [Option.map_none]
        intro m
        rcases List.mem_cons.mp m with z | z
        · exact e z.symm
        · exact ih z
      | some i =>
        rw [e2] at ih
        simpa using ih
theorem map_zip {κ α : Type} [DecidableEq κ] {k : κ} {v : α} : ∀ {kk : List κ} {vs : List α} {i : Nat}, kk.Nodup → kk[i]? = some k → (kk.zip vs).map (fun kv => if kv.1 = k then (kv.1, v) else kv) = kk.zip (vs.set i v)
  | [], _, i, _, h => by simp at h
  | _ :: _, [], i, _, _ => by simp
  | x :: kk, w :: vs, 0, nd, h => by
    simp only [List.getElem?_cons_zero, Option.some.injEq] at h
    subst h
    have n := (List.nodup_cons.mp nd).1
    rw [List.set_cons_zero, List.zip_cons_cons, List.zip_cons_cons, List.map_cons, if_pos rfl]
    congr 1
    have : ∀ kv ∈ kk.zip vs, (if kv.1 = x then (kv.1, v) else kv) = kv := fun kv m => if_neg fun z => n (by rw [← z]; exact (List.of_mem_zip (a := kv.1) (b := kv.2) m).1)
    rw [List.map_congr_left this, List.map_id']
  | x :: kk, w :: vs, i + 1, nd, h => by
    rw [List.getElem?_cons_succ] at h
    have n := List.nodup_cons.mp nd
    have ne : ¬ x = k := fun z => n.1 (by rw [z]; exact List.mem_of_getElem? h)
    rw [List.set_cons_succ, List.zip_cons_cons, List.zip_cons_cons, List.map_cons, if_neg ne, map_zip n.2 h]
theorem any_zip {κ α : Type} [DecidableEq κ] {k : κ} {kk : List κ} {vs : List α} (h : k ∉ kk) : ((kk.zip vs).any fun kv => decide (kv.1 = k)) = false := by
  rw [List.any_eq_false]
  intro kv m
  have := (List.of_mem_zip (a := kv.1) (b := kv.2) m).1
  simp only [decide_eq_true_eq]
  exact fun z => h (by rw [← z]; exact this)
theorem any_zip_t {κ α : Type} [DecidableEq κ] {k : κ} {kk : List κ} {vs : List α} {i : Nat} (h : kk[i]? = some k) (l : kk.length = vs.length) : ((kk.zip vs).any fun kv => decide (kv.1 = k)) = true := by
  rw [List.any_eq_true]
  have hi : i < kk.length := by
    rcases Nat.lt_or_ge i kk.length with z | z
    · exact z
    · rw [List.getElem?_eq_none_iff.mpr z] at h; cases h
  refine ⟨(k, vs[i]'(by omega)), ?_, by simp⟩
  refine List.mem_iff_getElem?.mpr ⟨i, ?_⟩
  rw [List.getElem?_zip_eq_some]
  exact ⟨h, List.getElem?_eq_getElem (by omega)⟩
theorem find_zip {κ α : Type} [DecidableEq κ] {k : κ} {kk : List κ} {vs : List α} : (((kk.zip vs).find? fun x => decide (x.1 = k)).map (·.2)).isSome = ((kk.zip vs).any fun kv => decide (kv.1 = k)) := by
  rw [Option.isSome_map, Bool.eq_iff_iff, List.find?_isSome, List.any_eq_true]
def putO (c : O) (k : D) (o : O) : Option O := match c, k with
  | .lst os, .int i => match ixN os.length i with
    | some j => some (.lst (os.set j o))
    | none => none
  | .dct ks ds, k => match kindK k with
    | some b => if homK b ks = true then (if lenOk (ds.length + 1) = true then some (.dct (dPut ks ds k (frz o)).1 (dPut ks ds k (frz o)).2) else none) else none
    | none => none
  | _, _ => none
def rPutD (G : GC) : V → V → V → Hp → (Hp → Prop) → Prop := fun o i v H Q => ∃ Z a u ks ds kvs vs k d b, o = V.ref a ∧ H a = some u ∧ DctU G.w a u ks kvs vs ∧ RepVs G Z ks kvs ∧ RepVs G Z ds vs ∧ RepB G H Z k i ∧ RepV G Z d v ∧ Sub Z H ∧ kindK k = some b ∧ homK b ks = true ∧ ds.length < sizeLine ∧
  ∀ u' kvs' vs', DctU G.w a u' (dPut ks ds k d).1 kvs' vs' → RepVs G Z (dPut ks ds k d).1 kvs' → RepVs G Z (dPut ks ds k d).2 vs' → Q (upd H a u')
theorem RepVs.set1 {G : GC} {Z : Hp} : ∀ {ds : List D} {vs : List V} (i : Nat) {d : D} {v : V}, RepVs G Z ds vs → RepV G Z d v → RepVs G Z (ds.set i d) (vs.set i v)
  | [], _, _, _, _, h, _ => by unfold RepVs at h; subst h; exact .nil
  | x :: ds, _, 0, d, v, h, r => by
    unfold RepVs at h
    obtain ⟨u, w, rfl, q, t⟩ := h
    exact .cons r t
  | x :: ds, _, i + 1, d, v, h, r => by
    unfold RepVs at h
    obtain ⟨u, w, rfl, q, t⟩ := h
    exact .cons q (t.set1 i r)
section
variable {G : GC} {X : Cx}
theorem set_dct (hK : X.K = G.K) (hw : X.w = G.w) (hu : X.A.units + 64 < cLine) : PSet X (rPutD G) := by
  intro pins s σ H o i v ov iv uv Q I ro ri rv h
  obtain ⟨Z, a, u, ks, ds, kvs, vs, k, d, b, rfl, ha, hd, rk, rd, hk, hv, sz, ek, hom, hl, hQ⟩ := h
  cases ro
  have lk := rk.length
  have ld := rd.length
  have ll := hd.len
  cases b with
  | false =>
    obtain ⟨kk0, rfl⟩ := plain_of ek
    have hy := rb_key hk
    subst hy
    obtain ⟨kk, rfl, rfl, rfl, l1, nd⟩ := plain_dict hd hom
    have ix := dIx_of keyD (fun _ _ => keyD_inj) kk0 kk
    refine d_setItem (by omega) I (.inl ⟨kk.zip vs, kk0, ha, rfl, by rw [List.length_zip]; omega, rfl⟩) ri rv fun s' I' => ?_
    refine ⟨_, I', ?_⟩
    unfold dPut at hQ
    cases e : dIx (kk.map keyD) (keyD kk0) with
    | some j =>
      rw [e] at ix hQ
      have hp : putK (kk.zip vs) kk0 v = kk.zip (vs.set j v) := by
        unfold putK
        rw [if_pos (any_zip_t ix l1)]
        exact map_zip nd ix
      rw [hp]
      exact hQ _ _ _ (.inl ⟨kk, rfl, rfl, rfl, by rw [List.length_set]; exact l1, nd⟩) rk (rd.set1 j hv)
    | none =>
      rw [e] at ix hQ
      have hp : putK (kk.zip vs) kk0 v = (kk ++ [kk0]).zip (vs ++ [v]) := by
        unfold putK
        rw [if_neg (by rw [any_zip ix]; exact Bool.false_ne_true), List.zip_append l1]
        rfl
      rw [hp]
      refine hQ _ (kk.map kV ++ [kV kk0]) _ (.inl ⟨kk ++ [kk0], rfl, by rw [List.map_append]; rfl, by rw [List.map_append]; rfl, by rw [List.length_append, List.length_append, l1]; rfl, ?_⟩) (rk.append (.cons ?_ .nil)) (rd.append (.cons hv .nil))
      · rw [List.nodup_append]
        exact ⟨nd, by simp, fun x mx y my exy => ix (by rw [List.mem_singleton.mp my] at exy; rw [← exy]; exact mx)⟩
      · cases kk0 with
        | inl i => exact rv_int
        | inr x => exact rv_str
  | true =>
    obtain ⟨kn, rfl, h8⟩ := nest_of ek
    have hx := rb_nest hk
    have hx' := hx
    unfold nkD RepV at hx'
    obtain ⟨bk, ys, rfl, _, _⟩ := hx'
    cases ri
    obtain ⟨nks, as, us, rfl, rfl, rv2, l1, l2, hsys, hz, nd, dp, tu, dd⟩ := nest_dict I hK hw sz (.inl ha) hd rk hom
    have lu := rv2.length
    have ix := dIx_of nkD (fun _ _ => nkD_inj) (.tup kn) nks
    have mu : Mut (H a) := by
      rw [ha]
      rcases hd with ⟨_, rfl, _⟩ | ⟨_, _, rfl, _⟩
      · exact True.intro
      · exact True.intro
    refine wpAny_setItem_heap (hsz := by rw [List.length_zip, List.length_zip]; omega) (room_nk hu) ⟨nested_is I hK sz hx rfl, h8⟩ dd fun h' dd' hs => ?_
    obtain ⟨ob, es, ep, q1, q2, q3, q4, _, _⟩ := dd'
    -- what stands there now
    have fin : ∀ (nks' : List NestedKey) (as' : List Addr) (us' : List Value) (vs' : List V), storedH (nks.zip (as.zip us)) (.tup kn) bk uv = nks'.zip (as'.zip us') → Vals vs' us' → nks'.length = as'.length → as'.length = vs'.length → vs'.length ≤ sizeLine → nks'.Nodup → (∀ k ∈ nks', k.depth ≤ 8) →
        L2.Inv X pins σ (upd H a (nkO G.w a nks' as' vs')) { s with heap := h', toks := s.toks + (nestedKind X.prog X.w).draws (.tup kn) } := fun nks' as' us' vs' e1 e2 e3 e4 e5 e6 e7 => by
      refine d_write I mu hs ⟨ob, q1⟩ ⟨⟨hsys, e5, e3, e4, e6, e7, ob, es, ep, us', e2, q1, q2, q3, ?_⟩, ⟨ob, q1⟩, fun h1 h2 ⟨c1, c2, c3, c4, c5, c6, o1, es1, ep1, us1, c7, c8, c9, c10, c11⟩ kp => ⟨c1, c2, c3, c4, c5, c6, o1, es1, ep1, us1, c7, kp _ c8, c9, c10, c11⟩⟩
      rw [q4, e1]
      refine List.map_congr_left fun y hy => ?_
      show (⟨NestedKey.hash X.w y.1, .ref y.2.1, y.2.2⟩ : DictEntry) = _
      rw [hw]
    have ne : ∀ {l : List NestedKey} {x : NestedKey}, l ++ [x] ≠ [] := fun {l x} => by simp
    unfold dPut at hQ
    rw [nkDs_map] at hQ rk
    unfold storedH at fin
    rw [show (atKey (nks.zip (as.zip us)) (.tup kn)).isSome = ((nks.zip (as.zip us)).any fun kv => decide (kv.1 = NestedKey.tup kn)) from find_zip] at fin
    cases e : dIx (nks.map nkD) (nkD (.tup kn)) with
    | some j =>
      rw [e] at ix hQ
      rw [if_pos (any_zip_t ix (by rw [List.length_zip]; omega))] at fin
      have hp : (nks.zip (as.zip us)).map (putAt (.tup kn) uv) = nks.zip (as.zip (us.set j uv)) := by
        have : ∀ {nks : List NestedKey} {as : List Addr} {us : List Value} {j : Nat}, nks.Nodup → nks[j]? = some (.tup kn) → (nks.zip (as.zip us)).map (putAt (.tup kn) uv) = nks.zip (as.zip (us.set j uv)) := fun {nks} => by
          induction nks with
          | nil => intro _ _ _ _ h; simp at h
          | cons x nks ih =>
            intro as us j nd h
            have n := List.nodup_cons.mp nd
            cases as with
            | nil => simp
            | cons a1 as =>
              cases us with
              | nil => simp
              | cons u1 us =>
                cases j with
                | zero =>
                  simp only [List.getElem?_cons_zero, Option.some.injEq] at h
                  subst h
                  rw [List.set_cons_zero, List.zip_cons_cons, List.zip_cons_cons, List.zip_cons_cons, List.zip_cons_cons, List.map_cons]
                  have e0 : putAt (NestedKey.tup kn) uv (NestedKey.tup kn, a1, u1) = (NestedKey.tup kn, a1, uv) := by unfold putAt; rw [if_pos rfl]
                  rw [e0]
                  congr 1
                  have : ∀ kv ∈ nks.zip (as.zip us), putAt (NestedKey.tup kn) uv kv = kv := fun kv m => if_neg fun z => n.1 (by rw [← z]; exact (List.of_mem_zip (a := kv.1) (b := kv.2) m).1)
                  rw [List.map_congr_left this, List.map_id']
                | succ j =>
                  rw [List.getElem?_cons_succ] at h
                  have ne : ¬ x = NestedKey.tup kn := fun z => n.1 (by rw [z]; exact List.mem_of_getElem? h)
                  rw [List.set_cons_succ, List.zip_cons_cons, List.zip_cons_cons, List.zip_cons_cons, List.zip_cons_cons, List.map_cons, ih n.2 h]
                  unfold putAt
                  rw [if_neg ne]
        exact this nd ix
      have I' := fin nks as (us.set j uv) (vs.set j v) hp (rv2.set rv j) l1 (by rw [List.length_set]; exact l2) (by rw [List.length_set]; exact hz) nd dp
      refine ⟨_, I', hQ _ (as.map V.ref) (vs.set j v) (.inr ⟨nks, as, rfl, by rw [nkDs_map], rfl, l1, by rw [List.length_set]; exact l2, ?_, tu⟩) rk (rd.set1 j hv)⟩
      intro z
      subst z
      simp at ix
    | none =>
      rw [e] at ix hQ
      rw [if_neg (by rw [any_zip ix]; exact Bool.false_ne_true)] at fin
      have hp : nks.zip (as.zip us) ++ [(NestedKey.tup kn, bk, uv)] = (nks ++ [NestedKey.tup kn]).zip ((as ++ [bk]).zip (us ++ [uv])) := by
        rw [List.zip_append (by omega : as.length = us.length), List.zip_append (by rw [List.length_zip]; omega)]
        rfl
      have nk : nkDs (nks ++ [NestedKey.tup kn]) = nks.map nkD ++ [nkD (.tup kn)] := by
        rw [nkDs_map, List.map_append]
        rfl
      have I' := fin (nks ++ [NestedKey.tup kn]) (as ++ [bk]) (us ++ [uv]) (vs ++ [v]) hp (rv2.append (.cons rv .nil)) (by rw [List.length_append, List.length_append, l1]; rfl) (by rw [List.length_append, List.length_append, l2]; rfl) (by rw [List.length_append]; simp; omega) (by
        rw [List.nodup_append]
        exact ⟨nd, by simp, fun x mx y my exy => ix (by rw [List.mem_singleton.mp my] at exy; rw [← exy]; exact mx)⟩) (fun k m => by
        rcases List.mem_append.mp m with m | m
        · exact dp k m
        · rw [List.mem_singleton.mp m]; exact h8)
      refine ⟨_, I', hQ _ ((as ++ [bk]).map V.ref) (vs ++ [v]) (.inr ⟨nks ++ [NestedKey.tup kn], as ++ [bk], rfl, nk.symm, rfl, by rw [List.length_append, List.length_append, l1]; rfl, by rw [List.length_append, List.length_append, l2]; rfl, ne, ?_⟩) ?_ (rd.append (.cons hv .nil))⟩
      · rw [List.all_append, tu]; rfl
      · rw [List.map_append]
        exact rk.append (.cons hx .nil)
end
end PL
set_option Elab.async false
set_option linter.all false
set_option maxRecDepth 100000
set_option maxHeartbeats 1000000
namespace PL
open PySem PySem.Spec PyProof.Rows L2

/-! ### path[key] = value -/
def mPut (L : Nat → List Nat) (i : Nat) (ps : List Nat) (mk : OM) (m : EM) : SM := fun r => match m r with
  | .ok o r1 => match r1[i]? with
    | some (some q0) => match getP L q0 ps with
      | some c0 => match mk r1 with
        | .ok k r2 => match r2[i]? with
          | some (some q) => match getP L q ps with
            | some c => match putO c k o with
              | some c2 => if ownP L q ps = true then .nx (r2.set i (some (setP L q ps c2))) else .stuck
              | none => .stuck
            | none => .stuck
          | _ => .stuck
        | .exc x r2 => .exc x r2
        | .stuck => .stuck
      | none => .stuck
    | _ => .stuck
  | .exc x r1 => .exc x r1
  | .stuck => .stuck
def rPutA (G : GC) : V → V → V → Hp → (Hp → Prop) → Prop := fun o i v H Q => rSetL o i v H Q ∨ rPutD G o i v H Q
section
variable {G : GC} {X : Cx} {M : List Nat}
theorem set_any (hK : X.K = G.K) (hw : X.w = G.w) (hu : X.A.units + 64 < cLine) : PSet X (rPutA G) := by
  intro pins s σ H o i v ov iv uv Q I ro ri rv h
  rcases h with h | h
  · exact set_list pins s σ H o i v ov iv uv Q I ro ri rv h
  · exact set_dct hK hw hu pins s σ H o i v ov iv uv Q I ro ri rv h
theorem s_sub (ok : ClsOk G) (hK : X.K = G.K) (hw : X.w = G.w) (hu : X.A.units + 64 < cLine) {oe ke e : Expr} {m : EM} {mk : OM} {nm nk pk : Bool} {i : Nat} {ps : List Nat} {pos pos' : Pos} (h : SimE G X e m nm) (hp : PthE G X oe i ps) (hk : SimO G X ke mk nk pk) (hps : (ps.isEmpty || nk) = true := by decide)
    (hs : swapsWithSole [.Subscript oe ke pos'] e pos.line X.env = pure false := by rfl) (hsw : swappedStores [.Subscript oe ke pos'] e X.env = pure none := by rfl)
    (h1 : (assignEach [.Subscript oe ke pos'] X.env).map (·.2) = [assign (.Subscript oe ke pos') X.env] := by rfl)
    (ha : ∀ v, assign (.Subscript oe ke pos') X.env v = (do
      let ov ← holding [v] (eval oe X.env)
      let iv ← holding [v, ov] (eval ke X.env)
      standAt pos'
      holding [v, ov, iv] (setItem ov iv v)
      release [v, ov, iv] []) := by intro _; rfl) : SimS G X M (.Assign [.Subscript oe ke pos'] e pos) (mPut G.fid i ps mk m) := fun Z H r s F ow en ns ex => by
  have k1 := h Z H r s F ow en
  have P : PS X (.Assign [.Subscript oe ke pos'] e pos) (tAsg (wE X e) (gSub (wE X oe) (wE X ke) (rPutA G))) := ps_asg pwE (pg_sub pwE pwE (set_any hK hw hu) ha) hs hsw h1
  unfold mPut at ns ex ⊢
  cases em : m r with
  | stuck => rw [em] at ns; exact absurd rfl ns
  | exc x r1 =>
    rw [em] at k1 ex
    exact wS.of P (wE.mono (k1 (exc_e ex)) fun _ _ z => z.elim)
  | ok o r1 =>
    rw [em] at k1 ns ex
    dsimp only at ns ex ⊢
    cases er0 : r1[i]? with
    | none => rw [er0] at ns; exact absurd rfl ns
    | some q0' =>
      cases q0' with
      | none => rw [er0] at ns; exact absurd rfl ns
      | some q0 =>
        rw [er0] at ns ex
        dsimp only at ns ex ⊢
        cases ep0 : getP G.fid q0 ps with
        | none => rw [ep0] at ns; exact absurd rfl ns
        | some c0 =>
          rw [ep0] at ns ex
          dsimp only at ns ex ⊢
          -- the value, then the container's place
          have start : ∀ {D : Ends}, (∀ v Z1 H1 E1 F1 w0 w, RepO G H1 Z1 o v E1 → RepEnv G H1 Z1 r1 s F1 → Ow Z1 H1 (E1 ++ F1) → Fr Z H F Z1 H1 (E1 ++ F1) → s[i]? = some (some w0) → PathV G H1 w0 ps w → wE X ke s H1 fun y H2 => rPutA G w y v H2 fun H3 => D.nx s H3) → wS X (.Assign [.Subscript oe ke pos'] e pos) D s H := fun {D} kk =>
            wS.of P (wE.mono k1 fun v H1 ⟨Z1, E1, F1, a1, a2, a3, a4, _⟩ => by
              obtain ⟨w0, w, _, _, e1, e2, _, _, _⟩ := path_at ok (a3.less (List.sublist_append_right _ _)) a2 er0 ep0
              refine (hp s H1 w0 w e1 e2).mono fun u H1' ⟨eu, eH⟩ => ?_
              subst eu eH
              exact kk v Z1 _ E1 F1 w0 _ a1 a2 a3 a4 e1 e2)
          cases emk : mk r1 with
          | stuck => rw [emk] at ns; exact absurd rfl ns
          | exc x r2 =>
            rw [emk] at ex
            refine start fun v Z1 H1 E1 F1 w0 w a1 a2 a3 a4 e1 e2 => ?_
            have h2 := hk Z1 H1 r1 s F1 (a3.less (List.sublist_append_right _ _)) a2
            rw [emk] at h2
            exact wE.mono (h2 fun cls d H' q => exc_e ex cls d H' (q.then a1 a3 a4)) fun _ _ z => z.elim
          | ok k r2 =>
            rw [emk] at ns ex
            dsimp only at ns ex ⊢
            cases er : r2[i]? with
            | none => rw [er] at ns; exact absurd rfl ns
            | some q' =>
              cases q' with
              | none => rw [er] at ns; exact absurd rfl ns
              | some q =>
                rw [er] at ns ex
                dsimp only at ns ex ⊢
                cases ep : getP G.fid q ps with
                | none => rw [ep] at ns; exact absurd rfl ns
                | some c =>
                  rw [ep] at ns ex
                  dsimp only at ns ex ⊢
                  cases es : putO c k o with
                  | none => rw [es] at ns; exact absurd rfl ns
                  | some c2 =>
                    rw [es] at ns ex
                    dsimp only at ns ex ⊢
                    cases hwn : ownP G.fid q ps with
                    | false => rw [hwn] at ns; exact absurd rfl ns
                    | true =>
                      rw [if_pos rfl]
                      refine start fun v Z1 H1 E1 F1 w0 w a1 a2 a3 a4 e1 e2 => ?_
                      have h2 := hk Z1 H1 r1 s F1 (a3.less (List.sublist_append_right _ _)) a2
                      rw [emk] at h2
                      refine wE.mono h2 fun y H2 ⟨Z2, F2, b0, _, b2, b3, b4, b5⟩ => ?_
                      obtain ⟨g1, g2, g3⟩ := b4.beside a3 b3 a1.there
                      have a1' := a1.mono b4.zs g3
                      have fr2 := a4.trans g1
                      -- the place again
                      have same : ∀ {w1 w2 : V}, s[i]? = some (some w1) → PathV G H2 w1 ps w2 → w2 = w := fun {w1 w2} z1 z2 => by
                        rw [e1] at z1
                        cases z1
                        cases ps with
                        | nil => cases e2; cases z2; rfl
                        | cons f fs =>
                          have hn : nk = true := by simpa using hps
                          exact z2.det (e2.sub (b5 hn))
                      cases c with
                      | lst os =>
                        cases k with
                        | int ii =>
                          unfold putO at es
                          dsimp only at es
                          cases ei : ixN os.length ii with
                          | none => rw [ei] at es; cases es
                          | some j =>
                            rw [ei] at es
                            cases es
                            obtain ⟨w1, w2, F3, F4, q1, q2, q3, q4, q5, q6, q7⟩ := upd_at ok g2 a1'.there b2 er ep
                            have ew := same q1 q2
                            subst ew
                            unfold RepO at q3
                            obtain ⟨a, vs, E3, rfl, hl0, hr, rfl⟩ := q3
                            have hj : j < os.length := (ixN_seq ei).2.1
                            have ey := rb_int b0
                            subst ey
                            refine .inl ⟨a, vs, ii, j, rfl, rfl, hl0, by rw [← hr.length]; exact ei, ?_⟩
                            have n1 := List.nodup_cons.mp q6
                            have kE : ∀ b ∈ E1, ∀ u, H2 b = some u → upd H2 a (.lst (vs.set j v)) b = some u := fun b m u q => by
                              rw [upd_ne fun z => q5 a (by simp) (by rw [← z]; exact m)]; exact q
                            have kE3 : ∀ b ∈ E3, ∀ u, H2 b = some u → upd H2 a (.lst (vs.set j v)) b = some u := fun b m u q => by
                              rw [upd_ne fun z => n1.1 (by rw [← z]; exact m)]; exact q
                            obtain ⟨F5, p1, F6, p2, p3⟩ := hr.putAt hj (a1'.mono (.refl _) kE) kE3
                            have in5 : ∀ b ∈ F5, b ∈ E1 ∨ b ∈ E3 := fun b m => (List.mem_append.mp (p3.subset m)).imp id fun m => p2.subset m
                            obtain ⟨F7, t1, t2, t3⟩ := q7 hwn (upd H2 a (.lst (vs.set j v))) (.lst (os.set j o)) (a :: F5) (fun b u q m => by rw [upd_ne fun z => m (by rw [z]; simp)]; exact q) (by
                              unfold RepO
                              exact ⟨a, _, F5, rfl, upd_same, p1, rfl⟩) (fun b m => by
                              rcases List.mem_cons.mp m with rfl | m
                              · left; simp
                              · rcases in5 b m with z | z
                                · exact .inr (.inl z)
                                · left; simp [z]) (by
                              refine List.nodup_cons.mpr ⟨fun m => ?_, p3.nodup_iff.mpr (List.nodup_append.mpr ⟨(List.nodup_append.mp g2.nd).1, p2.nodup n1.2, fun x mx z mz ez => q5 z (by simp [p2.subset mz]) (by rw [← ez]; exact mx)⟩)⟩
                              rcases in5 a m with z | z
                              · exact q5 a (by simp) z
                              · exact n1.1 z)
                            exact ⟨Z2, F7, t1, t2, fr2.trans t3, .refl⟩
                        | _ => unfold putO at es; cases es
                      | dct ks ds =>
                        unfold putO at es
                        dsimp only at es
                        cases hkk : kindK k with
                        | none => rw [hkk] at es; cases es
                        | some bb =>
                          rw [hkk] at es
                          dsimp only at es
                          by_cases hom : homK bb ks = true
                          · rw [if_pos hom] at es
                            by_cases hlen : lenOk (ds.length + 1) = true
                            · rw [if_pos hlen] at es
                              cases es
                              -- the value is frozen
                              obtain ⟨z1, z2, z3, z4⟩ := g2.freeze
                              have rv := RepO.frz z2 z3 a1'
                              have b2' := b2.mono z2 fun _ _ _ q => q
                              have z1' : Ow (add Z2 H2 E1) H2 ([] ++ F2) := z1
                              obtain ⟨w1, w2, F3, F4, q1, q2, q3, q4, q5, q6, q7⟩ := upd_at ok z1' (fun _ m => nomatch m) b2' er ep
                              have ew := same q1 q2
                              subst ew
                              unfold RepO at q3
                              obtain ⟨a, u, kvs, vs, rfl, hl0, hd, hrk, hrd, rfl⟩ := q3
                              refine .inr ⟨_, a, u, ks, ds, kvs, vs, k, frz o, bb, rfl, hl0, hd, hrk, hrd, b0.mono (.refl _) z2, rv, z1.sub, hkk, hom, lenOk_le hlen, fun u' kvs' vs' d1 d2 d3 => ?_⟩
                              obtain ⟨F7, t1, t2, t3⟩ := q7 hwn (upd H2 a u') (.dct (dPut ks ds k (frz o)).1 (dPut ks ds k (frz o)).2) [a] (fun b u q m => by rw [upd_ne fun z => m (by rw [z]; simp)]; exact q) (by
                                unfold RepO
                                exact ⟨a, u', kvs', vs', rfl, upd_same, d1, d2, d3, rfl⟩) (fun b m => .inl m) (by simp)
                              exact ⟨_, F7, t1, t2, (fr2.trans z4).trans t3, .refl⟩
                            · rw [if_neg hlen] at es; cases es
                          · rw [if_neg hom] at es; cases es
                      | _ => unfold putO at es; cases es
end
/-! ### {} -/
def mDnew : EM := fun r => .ok (.dct [] []) r
theorem e_dnew {G : GC} {X : Cx} {pos : Pos} : SimE G X (.Dict [] [] pos) mDnew true := fun Z H r s F ow en => by
  refine wE.of pe_dnewK fun p np => New.fin (.dct (u := .dK []) (kvs := []) (vs := []) np (.inl ⟨[], rfl, rfl, rfl, rfl, .nil⟩) .nil .nil) en ow .refl fun _ => .refl _
end PL
set_option Elab.async false
set_option linter.all false
set_option maxRecDepth 100000
set_option maxHeartbeats 1000000
namespace PL
open PySem PySem.Spec PyProof.Rows L2

/-! ### a dict's entries as they stand -/
def RawD (od : Obj) (kvs vs : List V) : Prop := ∃ es ep, od.ExactDict ∧ od.data = .dict es ep ∧ Vals kvs (es.toList.map (·.key)) ∧ Vals vs (es.toList.map (·.val))
theorem pairs_vals {P : Program} {w : World} : ∀ {kk : List Key} {vs : List V} {vs' : List (Key × Value)} {es : List DictEntry}, kk.length = vs.length → KV (kk.zip vs) vs' → Pairs (mixKind P w) es vs' → Vals (kk.map kV) (es.map (·.key)) ∧ Vals vs (es.map (·.val))
  | [], vs, vs', es, l, kv, p => by
    have : vs = [] := List.eq_nil_of_length_eq_zero l.symm
    subst this
    have kv : Paired _ [] vs' := kv
    cases kv
    cases p
    exact ⟨.nil, .nil⟩
  | k :: kk, [], _, _, l, _, _ => by simp at l
  | k :: kk, v :: vs, vs', es, l, kv, p => by
    have kv : Paired _ ((k, v) :: kk.zip vs) vs' := kv
    cases kv with
    | @cons _ q _ qs h t =>
      obtain ⟨h1, h2⟩ := h
      have h1 : k = q.1 := h1
      cases p with
      | cons p1 p2 p3 =>
        obtain ⟨r1, r2⟩ := pairs_vals (by simpa using l) t p3
        rw [← p2] at h2
        refine ⟨.cons ?_ r1, .cons h2 r2⟩
        rw [← h1] at p1
        rcases keyIs_shape p1 with ⟨i, tk, rfl, e⟩ | ⟨x, tk, rfl, e⟩
        · exact ⟨tk, e⟩
        · exact ⟨tk, e⟩
theorem vals_refs : ∀ as : List Addr, Vals (as.map V.ref) (as.map Value.ref)
  | [] => .nil
  | a :: as => .cons rfl (vals_refs as)
theorem raw_of {w : World} {P : Program} {H : Hp} {h : Heap} {a : Addr} {u : HO} {ks : List D} {kvs vs : List V} {od : Obj} (x : ObjOk P w H h a u) (d : DctU w a u ks kvs vs) (hod : h.get? a = some od) : RawD od kvs vs ∧ (a == sysModules) = false ∧ kvs.length ≤ sizeLine := by
  rcases d with ⟨kk, rfl, rfl, rfl, l1, nd⟩ | ⟨nks, as, rfl, rfl, rfl, l1, l2, ne, tu⟩
  · obtain ⟨z, hd, vs', kv, o, es, ep, h1, h2, h3, _, h5, _⟩ := x
    rw [hod] at h1
    cases h1
    obtain ⟨r1, r2⟩ := pairs_vals l1 kv h5
    exact ⟨⟨es, ep, h2, h3, r1, r2⟩, hd, by rw [List.length_map]; rw [List.length_zip] at z; omega⟩
  · obtain ⟨⟨hd, hz, _, _, _, _, o, es, ep, us, rv, h1, h2, h3, h4⟩, _, _⟩ := x
    rw [hod] at h1
    cases h1
    have lu := rv.length
    refine ⟨⟨es, ep, h2, h3, ?_, ?_⟩, hd, by rw [List.length_map]; omega⟩
    · rw [h4, List.map_map]
      have : (nks.zip (as.zip us)).map ((fun (x : DictEntry) => x.key) ∘ fun x => (⟨x.1.hash w, .ref x.2.1, x.2.2⟩ : DictEntry)) = as.map Value.ref := by
        have e1 : (nks.zip (as.zip us)).map ((fun (x : DictEntry) => x.key) ∘ fun x => (⟨x.1.hash w, .ref x.2.1, x.2.2⟩ : DictEntry)) = ((nks.zip (as.zip us)).map (·.2)).map fun y => Value.ref y.1 := by rw [List.map_map]; rfl
        rw [e1, List.map_snd_zip (by rw [List.length_zip]; omega)]
        have e2 : (as.zip us).map (fun y => Value.ref y.1) = ((as.zip us).map (·.1)).map Value.ref := by rw [List.map_map]; rfl
        rw [e2, List.map_fst_zip (by omega)]
      rw [this]
      exact vals_refs as
    · rw [h4, List.map_map]
      have : (nks.zip (as.zip us)).map ((fun (x : DictEntry) => x.val) ∘ fun x => (⟨x.1.hash w, .ref x.2.1, x.2.2⟩ : DictEntry)) = us := by
        have e1 : (nks.zip (as.zip us)).map ((fun (x : DictEntry) => x.val) ∘ fun x => (⟨x.1.hash w, .ref x.2.1, x.2.2⟩ : DictEntry)) = ((nks.zip (as.zip us)).map (·.2)).map fun y => y.2 := by rw [List.map_map]; rfl
        rw [e1, List.map_snd_zip (by rw [List.length_zip]; omega), List.map_snd_zip (by omega)]
      rw [this]
      exact rv
/-! ### for k in d: the dict locked -/
def Itq (d : Addr) (od : Obj) (u : HO) (kvs : List V) : It :=
  ⟨fun i H => H d = some (.frz od u) ∧ i < kvs.length, fun i H x H' => H' = H ∧ kvs[i]? = some x, fun i H => H d = some (.frz od u) ∧ kvs.length ≤ i⟩
theorem turn_raw {P : Program} {w : World} {K : PySem.W.Frag} {tg : Expr} {d it : Addr} {od : Obj} {u : HO} {kvs vs : List V} {es : Array DictEntry} {ep : Nat} (hx : od.ExactDict) (hd : od.data = .dict es ep) (hk : Vals kvs (es.toList.map (·.key))) :
    Turn P w K tg (Itq d od u kvs) [it] it (fun i h => h.IsKeyIter it d i es.size ep) where
  mem := by simp
  obj := fun i h st b hb => by
    have e : b = it := by simpa using hb
    subst e
    obtain ⟨oi, e, c, dd⟩ := st
    exact ⟨oi, e, fun v z => by rw [dd] at z; cases z⟩
  keep := fun i h h' ⟨o, e, r⟩ k => ⟨o, k it (by simp) o e, r⟩
  item := by
    intro X hP hw hK hc i pins s σ H E I hf st hg
    subst hP hw hK
    obtain ⟨hl, hi⟩ := hg
    obtain ⟨f0, f1, f2, f3, f4, f5⟩ := hf it (by simp)
    obtain ⟨ho, _⟩ := I.hok d _ hl
    have hm : s.heap.DictRaw d es ep := ⟨od, ho, hx, hd⟩
    have hlen := hk.length
    simp only [List.length_map, Array.length_toList] at hlen
    have hi' : i < es.size := by omega
    refine wpAny_pyNext_keys_item_raw st hm hi' fun h' st' sb => ?_
    have I1 : L2.Inv X pins σ H { s with heap := h' } := I.turned (t' := s.toks) (fun b o hb e => (sb.2 b hb).trans e) f0 f1 f3 f4 f5
    obtain ⟨oi, e, c, dd⟩ := id st'
    obtain ⟨uu, q1, q2⟩ := hk.get (List.getElem?_eq_getElem hi)
    rw [List.getElem?_map, Array.getElem?_toList, Array.getElem?_eq_getElem hi'] at q1
    cases q1
    exact ⟨_, rfl, go_of (s := { s with heap := h' }) e c dd (by decide) ⟨_, H, I1, q2, ⟨rfl, List.getElem?_eq_getElem hi⟩, st', fun b hb => (hf b hb).1⟩⟩
  done := by
    intro X hP hw hK hc i pins s σ H E I hf st hg
    subst hP hw hK
    obtain ⟨hl, hi⟩ := hg
    obtain ⟨f0, f1, f2, f3, f4, f5⟩ := hf it (by simp)
    obtain ⟨ho, _⟩ := I.hok d _ hl
    have hm : s.heap.DictRaw d es ep := ⟨od, ho, hx, hd⟩
    have hlen := hk.length
    simp only [List.length_map, Array.length_toList] at hlen
    exact wpAny_pyNext_keys_end_raw (I.ok.hd hc) st hm (by omega) fun h' eb => ⟨rfl, I.turned (t' := s.toks) (fun b o hb e => eb b o hb e) f0 f1 f3 f4 f5⟩
  self := fun A i s Q E st h => by
    refine wpAny_pyIter_slot st.typeIs F.slot_dict_keyiterator_iter (wpAny_call_entry F.slot_dict_keyiterator_iter st.typeIs F.entry_dict_keyiterator_iter ?_ (F.args_dict_keyiterator_iter_1 _))
    show wpAny _ _ (ret (.ref it)) _ _ s
    exact wpAny_pure ⟨_, rfl, "dict_keyiterator", _, st.typeIs, F.slot_dict_keyiterator_next.lookup, h⟩
theorem iter_raw {X : Cx} {tg : Expr} {s : L2.St} {H : Hp} {d : Addr} {od : Obj} {u : HO} {ks : List D} {kvs vs : List V} {R : It → Hp → Prop} (hw : ∀ w', w' = X.w → DctU w' d u ks kvs vs) (hl : H d = some (.frz od u)) (q : R (Itq d od u kvs) H) : wIter X tg s (.ref d) H R := fun pins t v I r => by
  cases r
  obtain ⟨ho, x⟩ := I.hok d _ hl
  obtain ⟨⟨es, ep, h1, h2, h3, h4⟩, hs, _⟩ := raw_of x (hw X.w rfl) ho
  refine wpAny_pyIter_dict_raw hs ⟨od, ho, h1, h2⟩ ?_
  exact pi_one (tk := t.toks) I _ (turn_raw (vs := vs) h1 h2 h3) ⟨_, Heap.get?_push_size _ rfl, rfl, rfl⟩ q
/-! ### locked and unlocked -/
structure Sw (w : World) (d : Addr) (Z Z' : Hp) : Prop where
  ne : ∀ a, a ≠ d → Z' a = Z a
  rd : ∀ u ks kvs vs, DctU w d u ks kvs vs → Rd Z d u → Rd Z' d u
  nl : ∀ xs, ¬ Rd Z d (.lst xs)
  nt : ∀ xs, ¬ Rd Z d (.tup xs)
  ni : ∀ C dx fs, Z d ≠ some (.ins C dx fs)
  no : ∀ x, Z d ≠ some (.own x)
theorem DctU.nf {w : World} {a : Addr} {u : HO} {ks : List D} {kvs vs : List V} (h : DctU w a u ks kvs vs) : ∀ o x, u ≠ .frz o x := by
  rcases h with ⟨kk, rfl, _⟩ | ⟨nks, as, rfl, _⟩
  · exact fun _ _ e => (nomatch e)
  · exact fun _ _ e => (by unfold nkO at e; cases e)
theorem sw_lock {w : World} {d : Addr} {Z : Hp} {u : HO} {od : Obj} {ks : List D} {kvs vs : List V} (h : DctU w d u ks kvs vs) (hz : Z d = some u) : Sw w d Z (upd Z d (.frz od u)) := by
  have rd : ∀ x, Rd Z d x → (∀ o y, x ≠ .frz o y) → x = u := fun x r nf => by
    rcases r with r | ⟨o, r⟩
    · rw [hz] at r; cases r; rfl
    · rw [hz] at r; cases r
      exact absurd rfl (h.nf o x)
  refine ⟨fun a ha => upd_ne ha, fun x _ _ _ hx r => ?_, fun xs r => ?_, fun xs r => ?_, fun C dx fs r => ?_, fun x r => ?_⟩
  · have := rd x r hx.nf
    subst this
    exact .inr ⟨od, upd_same⟩
  · exact h.ne.1 xs (rd _ r fun _ _ e => nomatch e).symm
  · exact h.ne.2.1 xs (rd _ r fun _ _ e => nomatch e).symm
  · rw [hz] at r; cases r; exact h.ne.2.2.1 _ _ _ rfl
  · rw [hz] at r; cases r; exact h.ne.2.2.2 _ rfl
theorem sw_unlock {w : World} {d : Addr} {Z : Hp} {u : HO} {od : Obj} {ks : List D} {kvs vs : List V} (h : DctU w d u ks kvs vs) (hz : Z d = some (.frz od u)) : Sw w d Z (upd Z d u) := by
  have rd : ∀ x, Rd Z d x → (∀ o y, x ≠ .frz o y) → x = u := fun x r nf => by
    rcases r with r | ⟨o, r⟩
    · rw [hz] at r; cases r
      exact absurd rfl (nf _ _)
    · rw [hz] at r; cases r; rfl
  refine ⟨fun a ha => upd_ne ha, fun x _ _ _ hx r => ?_, fun xs r => ?_, fun xs r => ?_, fun C dx fs r => ?_, fun x r => ?_⟩
  · have := rd x r hx.nf
    subst this
    exact .inl upd_same
  · exact h.ne.1 xs (rd _ r fun _ _ e => nomatch e).symm
  · exact h.ne.2.1 xs (rd _ r fun _ _ e => nomatch e).symm
  · rw [hz] at r; cases r
  · rw [hz] at r; cases r
mutual
theorem RepV.sw {G : GC} {d : Addr} {Z Z' : Hp} (s : Sw G.w d Z Z') : ∀ {x : D} {v : V}, RepV G Z x v → RepV G Z' x v
  | .non, _, h => by unfold RepV at h ⊢; exact h
  | .bl _, _, h => by unfold RepV at h ⊢; exact h
  | .int _, _, h => by unfold RepV at h ⊢; exact h
  | .str _, _, h => by unfold RepV at h ⊢; exact h
  | .tup ds, _, h => by
    unfold RepV at h ⊢
    obtain ⟨a, vs, e, q, r⟩ := h
    refine ⟨a, vs, e, ?_, RepVs.sw s r⟩
    by_cases ha : a = d
    · subst ha
      rcases q with q | q
      · exact absurd q (s.nt _)
      · exact .inr q
    · rcases q with (q | ⟨o, q⟩) | q
      · exact .inl (.inl (by rw [s.ne a ha]; exact q))
      · exact .inl (.inr ⟨o, by rw [s.ne a ha]; exact q⟩)
      · exact .inr q
  | .lst ds, _, h => by
    unfold RepV at h ⊢
    obtain ⟨a, vs, e, q, r⟩ := h
    refine ⟨a, vs, e, ?_, RepVs.sw s r⟩
    by_cases ha : a = d
    · subst ha
      rcases q with q | q
      · exact absurd q (s.nl _)
      · exact .inr q
    · rcases q with (q | ⟨o, q⟩) | q
      · exact .inl (.inl (by rw [s.ne a ha]; exact q))
      · exact .inl (.inr ⟨o, by rw [s.ne a ha]; exact q⟩)
      · exact .inr q
  | .dct ks ds, _, h => by
    unfold RepV at h ⊢
    obtain ⟨a, u, kvs, vs, e, q, q2, r, r2⟩ := h
    refine ⟨a, u, kvs, vs, e, ?_, q2, RepVs.sw s r, RepVs.sw s r2⟩
    by_cases ha : a = d
    · subst ha
      exact s.rd u ks kvs vs q2 q
    · rcases q with q | ⟨o, q⟩
      · exact .inl (by rw [s.ne a ha]; exact q)
      · exact .inr ⟨o, by rw [s.ne a ha]; exact q⟩
  | .ins c ds, _, h => by
    unfold RepV at h ⊢
    obtain ⟨a, dx, vs, e, q, q2, l, r⟩ := h
    have ha : a ≠ d := fun z => by subst z; exact s.ni _ _ _ q
    have hd : dx ≠ d := fun z => by subst z; exact s.no _ q2
    exact ⟨a, dx, vs, e, by rw [s.ne a ha]; exact q, by rw [s.ne dx hd]; exact q2, l, RepVs.sw s r⟩
theorem RepVs.sw {G : GC} {d : Addr} {Z Z' : Hp} (s : Sw G.w d Z Z') : ∀ {xs : List D} {vs : List V}, RepVs G Z xs vs → RepVs G Z' xs vs
  | [], _, h => by unfold RepVs at h ⊢; exact h
  | x :: xs, _, h => by
    unfold RepVs at h ⊢
    obtain ⟨v, w, e, r, rs⟩ := h
    exact ⟨v, w, e, RepV.sw s r, RepVs.sw s rs⟩
end
mutual
theorem RepO.sw {G : GC} {H H' : Hp} {d : Addr} {Z Z' : Hp} (s : Sw G.w d Z Z') : ∀ {o : O} {v : V} {F : List Addr}, (∀ a ∈ F, ∀ u, H a = some u → H' a = some u) → RepO G H Z o v F → RepO G H' Z' o v F
  | .val d, _, _, _, h => by
    unfold RepO at h ⊢
    exact ⟨h.1.sw s, h.2⟩
  | .lst os, _, _, k, h => by
    unfold RepO at h ⊢
    obtain ⟨a, vs, E, e, q, r, f⟩ := h
    subst f
    exact ⟨a, vs, E, e, k a (by simp) _ q, RepOs.sw s (fun b hb => k b (by simp [hb])) r, rfl⟩
  | .dct ks ds, _, _, k, h => by
    unfold RepO at h ⊢
    obtain ⟨a, u, kvs, vs, e, q, q2, r, r2, f⟩ := h
    subst f
    exact ⟨a, u, kvs, vs, e, k a (by simp) _ q, q2, RepVs.sw s r, RepVs.sw s r2, rfl⟩
  | .ins c os, _, _, k, h => by
    unfold RepO at h ⊢
    obtain ⟨a, dx, vs, E, e, q, q2, l, r, f⟩ := h
    subst f
    exact ⟨a, dx, vs, E, e, k a (by simp) _ q, k dx (by simp) _ q2, l, RepOs.sw s (fun b hb => k b (by simp [hb])) r, rfl⟩
theorem RepOs.sw {G : GC} {H H' : Hp} {d : Addr} {Z Z' : Hp} (s : Sw G.w d Z Z') : ∀ {os : List O} {vs : List V} {F : List Addr}, (∀ a ∈ F, ∀ u, H a = some u → H' a = some u) → RepOs G H Z os vs F → RepOs G H' Z' os vs F
  | [], _, _, _, h => by unfold RepOs at h ⊢; exact h
  | o :: os, _, _, k, h => by
    unfold RepOs at h ⊢
    obtain ⟨v, w, F1, F2, e, r, rs, f⟩ := h
    subst f
    exact ⟨v, w, F1, F2, e, RepO.sw s (fun b hb => k b (List.mem_append_left _ hb)) r, RepOs.sw s (fun b hb => k b (List.mem_append_right _ hb)) rs, rfl⟩
end
theorem RepEnv.sw {G : GC} {H H' : Hp} {d : Addr} {Z Z' : Hp} (s : Sw G.w d Z Z') : ∀ {r : Env} {t : L2.St} {F : List Addr}, (∀ a ∈ F, ∀ u, H a = some u → H' a = some u) → RepEnv G H Z r t F → RepEnv G H' Z' r t F
  | [], _, _, _, h => h
  | none :: r, _, _, k, h => by
    obtain ⟨x, s', e, h⟩ := h
    exact ⟨x, s', e, RepEnv.sw s k h⟩
  | some o :: r, _, _, k, h => by
    obtain ⟨v, s', F1, F2, e, h1, h2, f⟩ := h
    subst f
    exact ⟨v, s', F1, F2, e, h1.sw s fun b hb => k b (List.mem_append_left _ hb), h2.sw s fun b hb => k b (List.mem_append_right _ hb), rfl⟩
/-- the state locked at d -/
theorem lock_at {G : GC} {Z H : Hp} {r : Env} {s : L2.St} {F : List Addr} {d : Addr} {u : HO} {od : Obj} {ks : List D} {kvs vs : List V} (ow : Ow Z H F) (en : RepEnv G H Z r s F) (hz : Z d = some u) (hu : DctU G.w d u ks kvs vs) :
    Ow (upd Z d (.frz od u)) (upd H d (.frz od u)) F ∧ RepEnv G (upd H d (.frz od u)) (upd Z d (.frz od u)) r s F := by
  have nF : ∀ a ∈ F, a ≠ d := fun a m e => by
    subst e
    have := ow.sep a m
    rw [hz] at this; cases this
  refine ⟨⟨fun a o e => ?_, ow.nd, fun a m => by rw [upd_ne (nF a m)]; exact ow.sep a m⟩, en.sw (sw_lock hu hz) fun a m o e => by rw [upd_ne (nF a m)]; exact e⟩
  by_cases ha : a = d
  · subst ha; rw [upd_same] at e ⊢; exact e
  · rw [upd_ne ha] at e ⊢; exact ow.sub a o e
/-- .. and unlocked again -/
theorem unlock_at {G : GC} {Z H Z1 H1 : Hp} {F F1 : List Addr} {d : Addr} {u : HO} {od : Obj} {ks : List D} {kvs vs : List V} (hz : Z d = some u) (hh : H d = some u) (hu : DctU G.w d u ks kvs vs) (ow1 : Ow Z1 H1 F1) (fr : Fr (upd Z d (.frz od u)) (upd H d (.frz od u)) F Z1 H1 F1) :
    Z1 d = some (.frz od u) ∧ H1 d = some (.frz od u) ∧ Sw G.w d Z1 (upd Z1 d u) ∧ (∀ a ∈ F1, ∀ o, H1 a = some o → upd H1 d u a = some o) ∧ Ow (upd Z1 d u) (upd H1 d u) F1 ∧ Fr Z H F (upd Z1 d u) (upd H1 d u) F1 := by
  have z1 : Z1 d = some (.frz od u) := fr.zs d _ upd_same
  have h1 := ow1.sub d _ z1
  have nF : ∀ a ∈ F1, a ≠ d := fun a m e => by
    subst e
    have := ow1.sep a m
    rw [z1] at this; cases this
  refine ⟨z1, h1, sw_unlock hu z1, fun a m o e => by rw [upd_ne (nF a m)]; exact e, ⟨fun a o e => ?_, ow1.nd, fun a m => by rw [upd_ne (nF a m)]; exact ow1.sep a m⟩, ⟨fun a o e => ?_, fun a o e m => ?_, fun a m => ?_, fun a o e => ?_⟩⟩
  · by_cases ha : a = d
    · subst ha; rw [upd_same] at e ⊢; exact e
    · rw [upd_ne ha] at e ⊢; exact ow1.sub a o e
  · by_cases ha : a = d
    · subst ha; rw [hz] at e; cases e; exact upd_same
    · rw [upd_ne ha]; exact fr.zs a o (by rw [upd_ne ha]; exact e)
  · by_cases ha : a = d
    · subst ha; rw [hh] at e; cases e; exact upd_same
    · rw [upd_ne ha]; exact fr.fr a o (by rw [upd_ne ha]; exact e) m
  · rcases fr.ow a m with q | q
    · exact .inl q
    · rw [upd_ne (nF a m)] at q; exact .inr q
  · by_cases ha : a = d
    · subst ha; rw [upd_same] at e; cases e; exact .inl hz
    · rw [upd_ne ha] at e
      rcases fr.zn a o e with q | q | q
      · rw [upd_ne ha] at q; exact .inl q
      · exact .inr (.inl q)
      · rw [upd_ne ha] at q; exact .inr (.inr q)
/-- the keys' data are what a locked dict yields -/
theorem yields_raw {G : GC} {Z : Hp} {d : Addr} {od : Obj} {u : HO} {ks : List D} {kvs : List V} (hz : Z d = some (.frz od u)) (rk : RepVs G Z ks kvs) : Yields G Z (Itq d od u kvs) ks := fun i H sz hi => by
  have l := rk.length
  refine ⟨fun e => ⟨sz _ _ hz, by omega⟩, fun hlt => ⟨⟨sz _ _ hz, by omega⟩, fun x H' ⟨e, y⟩ => ?_⟩⟩
  subst e
  obtain ⟨v, h1, h2⟩ := rk.get (List.getElem?_eq_getElem hlt)
  rw [h1] at y
  cases y
  exact ⟨_, List.getElem?_eq_getElem hlt, .val h2⟩
end PL
set_option Elab.async false
set_option linter.all false
set_option maxRecDepth 100000
set_option maxHeartbeats 1000000
namespace PL
open PySem PySem.Spec PyProof.Rows L2

theorem PathV.upd {G : GC} {H : Hp} {d : Addr} {y : HO} (nd : ∀ C dx fs, H d ≠ some (.ins C dx fs)) : ∀ {ps : List Nat} {v w : V}, PathV G H v ps w → PathV G (L2.upd H d y) v ps w
  | [], _, _, h => h
  | f :: fs, v, w, h => by
    obtain ⟨a, c, dx, kv, u, e1, e2, e3, e4, h⟩ := h
    refine ⟨a, c, dx, kv, u, e1, ?_, e3, e4, PathV.upd nd h⟩
    rw [upd_ne fun z => by subst z; exact nd _ _ _ e2]
    exact e2
/-- a path read in a state -/
theorem rd_at {G : GC} (ok : ClsOk G) {Z H : Hp} {r r1 : Env} {s : L2.St} {F : List Addr} {i : Nat} {ps : List Nat} {o : O} (ow : Ow Z H F) (en : RepEnv G H Z r s F) (e : mRd G.fid i ps r = .ok o r1) :
    ∃ v w, s[i]? = some (some v) ∧ PathV G H v ps w ∧ OkE G Z H s F o r1 true w H := by
  unfold mRd at e
  cases er : r[i]? with
  | none => rw [er] at e; cases e
  | some q =>
    cases q with
    | none => rw [er] at e; cases e
    | some o0 =>
      rw [er] at e
      dsimp only at e
      cases ep : getP G.fid o0 ps with
      | none => rw [ep] at e; cases e
      | some o' =>
        rw [ep] at e
        obtain ⟨v, w, F1, F2, e1, e2, a1, a2, a3⟩ := path_at ok ow en er ep
        refine ⟨v, w, e1, e2, ?_⟩
        have key : ownP G.fid o0 ps = true → OkE G Z H s F (.val (frz o')) (r.set i (some (setP G.fid o0 ps (.val (frz o'))))) true w H := fun hw => by
          obtain ⟨b1, b2, b3, b4⟩ := (ow.perm a2).freeze
          have rv := RepO.frz b2 b3 a1
          obtain ⟨F4, c1, c2⟩ := a3 hw H _ (.val (frz o')) [] (fun _ _ _ z => z) b2 (.ofV rv)
          exact ⟨add Z H F1, [], F4, .ofV rv, c1, b1.perm c2, (Fr.trans (Fr.refl.less fun b m => a2.mem_iff.mp m) b4).less fun b m => c2.mem_iff.mp m, fun _ => .refl _⟩
        cases o' with
        | val d =>
          cases e
          unfold RepO at a1
          exact ⟨Z, [], F, .ofV a1.1, en, ow, .refl, fun _ => .refl _⟩
        | lst os =>
          dsimp only at e
          cases hw : ownP G.fid o0 ps with
          | true => rw [hw, if_pos rfl] at e; cases e; exact key hw
          | false => rw [hw] at e; cases e
        | dct ks ds =>
          dsimp only at e
          cases hw : ownP G.fid o0 ps with
          | true => rw [hw, if_pos rfl] at e; cases e; exact key hw
          | false => rw [hw] at e; cases e
        | ins c os =>
          dsimp only at e
          cases hw : ownP G.fid o0 ps with
          | true => rw [hw, if_pos rfl] at e; cases e; exact key hw
          | false => rw [hw] at e; cases e
/-- a frozen dict: locked, or to be locked -/
theorem dict_road {G : GC} {X : Cx} (hw : X.w = G.w) {tg e : Expr} {Z H : Hp} {r1 : Env} {s : L2.St} {F : List Addr} {i : Nat} {ps : List Nat} {ks ds : List D} {v w : V} (hp : PthE G X e i ps) (e1 : s[i]? = some (some v)) (e2 : PathV G H v ps w) (q : OkE G Z H s F (.val (.dct ks ds)) r1 true w H) :
    (∃ Z1 F1, RepEnv G H Z1 r1 s F1 ∧ Ow Z1 H F1 ∧ Fr Z H F Z1 H F1 ∧ wI X tg e s H (fun J H1 => ∃ Z2 F2, RepEnv G H1 Z2 r1 s F2 ∧ Ow Z2 H1 F2 ∧ Fr Z H F Z2 H1 F2 ∧ Yields G Z2 J ks)) ∨
    (∃ Z1 F1 d u kvs vs, RepEnv G H Z1 r1 s F1 ∧ Ow Z1 H F1 ∧ Fr Z H F Z1 H F1 ∧ H d = some u ∧ Mut (some u) ∧ Z1 d = some u ∧ DctU G.w d u ks kvs vs ∧
      ∀ od, RepEnv G (upd H d (.frz od u)) (upd Z1 d (.frz od u)) r1 s F1 ∧ Ow (upd Z1 d (.frz od u)) (upd H d (.frz od u)) F1 ∧
        wI X tg e s (upd H d (.frz od u)) (fun J H1 => ∃ Z2 F2, RepEnv G H1 Z2 r1 s F2 ∧ Ow Z2 H1 F2 ∧ Fr (upd Z1 d (.frz od u)) (upd H d (.frz od u)) F1 Z2 H1 F2 ∧ Yields G Z2 J ks)) := by
  obtain ⟨Z1, E1, F1, a1, a2, a3, a4, _⟩ := q
  unfold RepO at a1
  obtain ⟨a1, rfl⟩ := a1
  have a3 : Ow Z1 H F1 := a3
  have a4 : Fr Z H F Z1 H F1 := a4
  unfold RepV at a1
  obtain ⟨d, u, kvs, vs, rfl, hr, hd, rk, rds⟩ := a1
  have ni : ∀ x, Z1 d = some x → (∀ C dx fs, x ≠ .ins C dx fs) → ∀ C dx fs, H d ≠ some (.ins C dx fs) := fun x h1 h2 C dx fs h3 => by
    rw [a3.sub d x h1] at h3
    exact h2 C dx fs (Option.some.inj h3)
  rcases hr with hr | ⟨od, hr⟩
  · right
    refine ⟨Z1, F1, d, u, kvs, vs, a2, a3, a4, a3.sub d u hr, ?_, hr, hd, fun od => ?_⟩
    · rcases hd with ⟨_, rfl, _⟩ | ⟨_, _, rfl, _⟩
      · exact True.intro
      · exact True.intro
    · obtain ⟨b1, b2⟩ := lock_at (od := od) a3 a2 hr hd
      refine ⟨b2, b1, wI.of pi_of ((hp s _ v (.ref d) e1 (e2.upd (ni u hr hd.ne.2.2.1))).mono fun x H' ⟨ex, eH⟩ => ?_)⟩
      subst ex eH
      exact iter_raw (fun w' ew => by subst ew; rw [hw]; exact hd) upd_same ⟨_, F1, b2, b1, .refl, yields_raw upd_same (rk.sw (sw_lock hd hr))⟩
  · left
    refine ⟨Z1, F1, a2, a3, a4, wI.of pi_of ((hp s H v (.ref d) e1 e2).mono fun x H' ⟨ex, eH⟩ => ?_)⟩
    subst ex eH
    exact iter_raw (fun w' ew => by subst ew; rw [hw]; exact hd) (a3.sub d _ hr) ⟨Z1, F1, a2, a3, a4, yields_raw hr rk⟩
/-! ### for k in d -/
def mForD (L : Nat → List Nat) (i : Nat) (ps : List Nat) (a : AM) (b : SM) : SM := fun r => match mRd L i ps r with
  | .ok (.val (.dct ks _)) r1 => match loopF a b ks r1 with
    | .exc _ _ => .stuck
    | o => o
  | _ => .stuck
section
variable {G : GC} {X : Cx} {M : List Nat}
theorem s_forD (ok : ClsOk G) (hw : X.w = G.w) {tg e : Expr} {sb : List Stmt} {i : Nat} {ps : List Nat} {a : AM} {mb : SM} {pos : Pos} (hpo : PassesOwn (model X.prog X.w) X.A X.env X.xe) (hcl : X.calm = true) (hp : PthE G X e i ps) (hg : SimG G X (Keep M) tg a) (hb : SimSs G X M sb mb)
    (hs : ∀ x, foldedSetIterable e X.env x = pure x := by intro _; rfl) : SimS G X M (.For tg e sb [] pos) (mForD G.fid i ps a mb) := fun Z H r s F ow en ns ex => by
  unfold mForD at ns ex ⊢
  cases em : mRd G.fid i ps r with
  | stuck => rw [em] at ns; exact absurd rfl ns
  | exc x r1 => rw [em] at ns; exact absurd rfl ns
  | ok o r1 =>
    rw [em] at ns ex
    cases o with
    | val dd =>
      cases dd with
      | dct ks ds =>
        dsimp only at ns ex ⊢
        obtain ⟨v, w, e1, e2, q⟩ := rd_at ok ow en em
        have go : ∀ out, loopF a mb ks r1 = out → (∀ x r, out ≠ .exc x r) → out ≠ .stuck → wS X (.For tg e sb [] pos) (endsOf G M Z H s F out) s H := fun out eo nx nst => by
          rcases dict_road (tg := tg) hw hp e1 e2 q with ⟨Z1, F1, b1, b2, b3, h0⟩ | ⟨Z1, F1, d, u, kvs, vs, b1, b2, b3, hH, mu, hZ, hd, lk⟩
          · have := for_core (M := M) hpo hcl hg hb h0 (by rw [eo]; exact nst) (by
              rw [eo]
              cases out with
              | exc x r => exact absurd rfl (nx x r)
              | _ => trivial) (pos := pos) hs
            rw [eo] at this
            exact this
          · refine wS.of (ps_lock pwS) ⟨d, u, hH, mu, fun od => ?_⟩
            obtain ⟨c1, c2, h0⟩ := lk od
            have := for_core (M := M) hpo hcl hg hb h0 (by rw [eo]; exact nst) (by
              rw [eo]
              cases out with
              | exc x r => exact absurd rfl (nx x r)
              | _ => trivial) (pos := pos) hs
            rw [eo] at this
            have okS : ∀ {r' : Env} {s' : L2.St} {H' : Hp}, OkS G M (upd Z1 d (.frz od u)) (upd H d (.frz od u)) s F1 r' s' H' → H' d = some (.frz od u) ∧ OkS G M Z H s F r' s' (upd H' d u) := fun {r' s' H'} ⟨Z2, F2, g1, g2, g3, g4⟩ => by
              obtain ⟨t1, t2, t3, t4, t5, t6⟩ := unlock_at hZ hH hd g2 g3
              exact ⟨t2, _, F2, g1.sw t3 t4, t5, b3.trans t6, g4⟩
            refine wS.mono this ⟨fun s' H' z => ?_, fun v H' z => ?_, fun s' H' z => ?_, fun s' H' z => ?_⟩
            · cases out with
              | nx r' => exact okS z
              | _ => exact z.elim
            · cases out with
              | ret o r' =>
                obtain ⟨Z2, E2, F2, s2, g0, g1, g2, g3, g4⟩ := z
                obtain ⟨t1, t2, t3, t4, t5, t6⟩ := unlock_at hZ hH hd g2 g3
                exact ⟨t2, _, E2, F2, s2, g0.sw t3 fun a m => t4 a (List.mem_append_left _ m), g1.sw t3 fun a m => t4 a (List.mem_append_right _ m), t5, b3.trans t6, g4⟩
              | _ => exact z.elim
            · cases out with
              | brk r' => exact okS z
              | _ => exact z.elim
            · cases out with
              | ct r' => exact okS z
              | _ => exact z.elim
        cases eo : loopF a mb ks r1 with
        | exc x r2 => rw [eo] at ns; exact absurd rfl ns
        | stuck => rw [eo] at ns; exact absurd rfl ns
        | nx r2 => exact go _ eo (fun _ _ z => nomatch z) (fun z => nomatch z)
        | ret o r2 => exact go _ eo (fun _ _ z => nomatch z) (fun z => nomatch z)
        | brk r2 => exact go _ eo (fun _ _ z => nomatch z) (fun z => nomatch z)
        | ct r2 => exact go _ eo (fun _ _ z => nomatch z) (fun z => nomatch z)
      | _ => exact absurd rfl ns
    | _ => exact absurd rfl ns
end
/-- behind a lock: a value -/
theorem OkE.unlock {G : GC} {Z H Z1 : Hp} {s : L2.St} {F F1 : List Addr} {d : Addr} {u : HO} {od : Obj} {ks : List D} {kvs vs : List V} {o : O} {r' : Env} {nm : Bool} {v : V} {H' : Hp} (hZ : Z1 d = some u) (hH : H d = some u) (hd : DctU G.w d u ks kvs vs) (b3 : Fr Z H F Z1 H F1)
    (q : OkE G (upd Z1 d (.frz od u)) (upd H d (.frz od u)) s F1 o r' nm v H') : H' d = some (.frz od u) ∧ OkE G Z H s F o r' false v (upd H' d u) := by
  obtain ⟨Z2, E2, F2, g0, g1, g2, g3, _⟩ := q
  obtain ⟨t1, t2, t3, t4, t5, t6⟩ := unlock_at hZ hH hd g2 g3
  exact ⟨t2, _, E2, F2, g0.sw t3 fun a m => t4 a (List.mem_append_left _ m), g1.sw t3 fun a m => t4 a (List.mem_append_right _ m), t5, b3.trans t6, fun z => nomatch z⟩
/-! ### [.. for k in d] -/
def mLcD (L : Nat → List Nat) (own : List Nat) (i : Nat) (ps : List Nat) (a : AM) (c : TM) (m : EM) : EM := fun r => match mRd L i ps r with
  | .ok (.val (.dct ks _)) r1 => match loopC own a c m ks (wipeE r1 own) with
    | .ok os r2 => if lenOk (os.length + 1) = true then .ok (.lst os) r2 else .stuck
    | _ => .stuck
  | _ => .stuck
section
variable {G : GC} {X : Cx} {scope : Scope} {own : List (Str × Nat)}
theorem e_lcD (ok : ClsOk G) (hw : X.w = G.w) {tg iter elt : Expr} {ifs : List Expr} {pos : Pos} {i : Nat} {ps : List Nat} {a : AM} {mc : TM} {me : EM} {nm : Bool} (hcl : X.calm = true) (hN : X.N.Nodup) (bok : BlkOk X.N X.env.scope scope own) (hp : PthE G X iter i ps)
    (hg : Blk X scope fun B => SimG G B (KWipe (own.map (·.2))) tg a) (hc : Blk X scope fun B => SimTs G B ifs mc) (he : Blk X scope fun B => SimE G B elt me nm) (hs : ∀ x, foldedSetIterable iter X.env x = pure x := by intro _; rfl) :
    SimE G X (.ListComp elt [⟨tg, iter, ifs, 0⟩] scope pos) (mLcD G.fid (own.map (·.2)) i ps a mc me) false := fun Z H r s F ow en => by
  have P : PE X (.ListComp elt [⟨tg, iter, ifs, 0⟩] scope pos) (tLc (wI X tg iter) (bG X scope tg) (bT X scope ifs) (bE X scope elt) (own.map (·.2))) :=
    pe_lc hcl hN pwI bok (fun bs bH bC bcl bfp => ⟨fun pins t s H v u Q I r h => h bs bH bC bcl bfp pins t u I r⟩) (fun bs bH bC bcl bfp => ⟨fun pins t s H Q I h => h bs bH bC bcl bfp pins t I⟩) (fun bs bH bC bcl bfp => ⟨fun pins t s H Q I h => h bs bH bC bcl bfp pins t I⟩) hs
  unfold mLcD
  cases em : mRd G.fid i ps r with
  | stuck => trivial
  | exc x r1 => trivial
  | ok o r1 =>
    cases o with
    | val dd =>
      cases dd with
      | dct ks ds =>
        dsimp only
        obtain ⟨v, w, e1, e2, q⟩ := rd_at ok ow en em
        cases el : loopC (own.map (·.2)) a mc me ks (wipeE r1 (own.map (·.2))) with
        | stuck => trivial
        | exc x r2 => trivial
        | ok os r2 =>
          dsimp only
          cases hlen : lenOk (os.length + 1) with
          | false => trivial
          | true =>
            rw [if_pos rfl]
            rcases dict_road (tg := tg) hw hp e1 e2 q with ⟨Z1, F1, b1, b2, b3, h0⟩ | ⟨Z1, F1, d, u, kvs, vs, b1, b2, b3, hH, mu, hZ, hd, lk⟩
            · exact wE.of P (lc_core' hg hc he h0 el hlen)
            · refine wE.of (pe_lock pwE) ⟨d, u, hH, mu, fun od => ?_⟩
              obtain ⟨c1, c2, h0⟩ := lk od
              exact wE.mono (wE.of P (lc_core' hg hc he h0 el hlen)) fun v H' q => q.unlock hZ hH hd b3
      | _ => trivial
    | _ => trivial
end
end PL
set_option Elab.async false
set_option linter.all false
set_option maxRecDepth 100000
set_option maxHeartbeats 1000000
namespace PL
open PySem PySem.Spec PyProof.Rows L2

/-! ### a comprehension's store -/
def DSet (X : Cx) (t : V → V → V → Hp → (Hp → Prop) → Prop) : Prop :=
  ∀ (pins : List (Addr × Obj)) (s : Shared) (σ : L2.St) (H : Hp) (D : Addr) (i v : V) (iv u : Value) (Q : Hp → Prop) (E : Value → Shared → Prop), L2.Inv X pins σ H s → RelV i iv → RelV v u → t (.ref D) i v H Q →
    wpAny (model X.prog X.w) X.A (dictSet D iv u) (fun _ s' => ∃ H', L2.Inv X pins σ H' s' ∧ Q H') E s
theorem room_nk0 {A : Around} (hu : A.units + 64 < cLine) {P : Program} {w : World} : (nestedKind P w).room A := by
  show A.units + 8 < cLine
  omega
section
variable {G : GC} {X : Cx}
theorem dset_dct (hK : X.K = G.K) (hw : X.w = G.w) (hu : X.A.units + 64 < cLine) : DSet X (rPutD G) := by
  intro pins s σ H a0 i v iv uv Q E I ri rv h
  obtain ⟨Z, a, u, ks, ds, kvs, vs, k, d, b, ea, ha, hd, rk, rd, hk, hv, sz, ek, hom, hl, hQ⟩ := h
  have ea2 : a = a0 := (V.ref.inj ea).symm
  subst ea2
  have lk := rk.length
  have ld := rd.length
  have ll := hd.len
  cases b with
  | false =>
    obtain ⟨kk0, rfl⟩ := plain_of ek
    have hy := rb_key hk
    subst hy
    obtain ⟨kk, rfl, rfl, rfl, l1, nd⟩ := plain_dict hd hom
    have ix := dIx_of keyD (fun _ _ => keyD_inj) kk0 kk
    refine d_dictSet I ha (by rw [List.length_zip]; omega) ri rv fun s' I' => ?_
    refine ⟨_, I', ?_⟩
    unfold dPut at hQ
    cases e : dIx (kk.map keyD) (keyD kk0) with
    | some j =>
      rw [e] at ix hQ
      have hp : putK (kk.zip vs) kk0 v = kk.zip (vs.set j v) := by
        unfold putK
        rw [if_pos (any_zip_t ix l1)]
        exact map_zip nd ix
      rw [hp]
      exact hQ _ _ _ (.inl ⟨kk, rfl, rfl, rfl, by rw [List.length_set]; exact l1, nd⟩) rk (rd.set1 j hv)
    | none =>
      rw [e] at ix hQ
      have hp : putK (kk.zip vs) kk0 v = (kk ++ [kk0]).zip (vs ++ [v]) := by
        unfold putK
        rw [if_neg (by rw [any_zip ix]; exact Bool.false_ne_true), List.zip_append l1]
        rfl
      rw [hp]
      refine hQ _ (kk.map kV ++ [kV kk0]) _ (.inl ⟨kk ++ [kk0], rfl, by rw [List.map_append]; rfl, by rw [List.map_append]; rfl, by rw [List.length_append, List.length_append, l1]; rfl, ?_⟩) (rk.append (.cons ?_ .nil)) (rd.append (.cons hv .nil))
      · rw [List.nodup_append]
        exact ⟨nd, by simp, fun x mx y my exy => ix (by rw [List.mem_singleton.mp my] at exy; rw [← exy]; exact mx)⟩
      · cases kk0 with
        | inl i => exact rv_int
        | inr x => exact rv_str
  | true =>
    obtain ⟨kn, rfl, h8⟩ := nest_of ek
    have hx := rb_nest hk
    have hx' := hx
    unfold nkD RepV at hx'
    obtain ⟨bk, ys, rfl, _, _⟩ := hx'
    cases ri
    obtain ⟨nks, as, us, rfl, rfl, rv2, l1, l2, hsys, hz, nd, dp, tu, dd⟩ := nest_dict I hK hw sz (.inl ha) hd rk hom
    have lu := rv2.length
    have ix := dIx_of nkD (fun _ _ => nkD_inj) (.tup kn) nks
    have mu : Mut (H a) := by
      rw [ha]
      rcases hd with ⟨_, rfl, _⟩ | ⟨_, _, rfl, _⟩
      · exact True.intro
      · exact True.intro
    refine wpAny_dictSet_heap (hsz := by rw [List.length_zip, List.length_zip]; omega) (room_nk0 hu) ⟨nested_is I hK sz hx rfl, h8⟩ dd fun h' dd' hs => ?_
    obtain ⟨ob, es, ep, q1, q2, q3, q4, _, _⟩ := dd'
    -- what stands there now
    have fin : ∀ (nks' : List NestedKey) (as' : List Addr) (us' : List Value) (vs' : List V), storedH (nks.zip (as.zip us)) (.tup kn) bk uv = nks'.zip (as'.zip us') → Vals vs' us' → nks'.length = as'.length → as'.length = vs'.length → vs'.length ≤ sizeLine → nks'.Nodup → (∀ k ∈ nks', k.depth ≤ 8) →
        L2.Inv X pins σ (upd H a (nkO G.w a nks' as' vs')) { s with heap := h', toks := s.toks + (nestedKind X.prog X.w).draws (.tup kn) } := fun nks' as' us' vs' e1 e2 e3 e4 e5 e6 e7 => by
      refine d_write I mu hs ⟨ob, q1⟩ ⟨⟨hsys, e5, e3, e4, e6, e7, ob, es, ep, us', e2, q1, q2, q3, ?_⟩, ⟨ob, q1⟩, fun h1 h2 ⟨c1, c2, c3, c4, c5, c6, o1, es1, ep1, us1, c7, c8, c9, c10, c11⟩ kp => ⟨c1, c2, c3, c4, c5, c6, o1, es1, ep1, us1, c7, kp _ c8, c9, c10, c11⟩⟩
      rw [q4, e1]
      refine List.map_congr_left fun y hy => ?_
      show (⟨NestedKey.hash X.w y.1, .ref y.2.1, y.2.2⟩ : DictEntry) = _
      rw [hw]
    have ne : ∀ {l : List NestedKey} {x : NestedKey}, l ++ [x] ≠ [] := fun {l x} => by simp
    unfold dPut at hQ
    rw [nkDs_map] at hQ rk
    unfold storedH at fin
    rw [show (atKey (nks.zip (as.zip us)) (.tup kn)).isSome = ((nks.zip (as.zip us)).any fun kv => decide (kv.1 = NestedKey.tup kn)) from find_zip] at fin
    cases e : dIx (nks.map nkD) (nkD (.tup kn)) with
    | some j =>
      rw [e] at ix hQ
      rw [if_pos (any_zip_t ix (by rw [List.length_zip]; omega))] at fin
      have hp : (nks.zip (as.zip us)).map (putAt (.tup kn) uv) = nks.zip (as.zip (us.set j uv)) := by
        have : ∀ {nks : List NestedKey} {as : List Addr} {us : List Value} {j : Nat}, nks.Nodup → nks[j]? = some (.tup kn) → (nks.zip (as.zip us)).map (putAt (.tup kn) uv) = nks.zip (as.zip (us.set j uv)) := fun {nks} => by
          induction nks with
          | nil => intro _ _ _ _ h; simp at h
          | cons x nks ih =>
            intro as us j nd h
            have n := List.nodup_cons.mp nd
            cases as with
            | nil => simp
            | cons a1 as =>
              cases us with
              | nil => simp
              | cons u1 us =>
                cases j with
                | zero =>
                  simp only [List.getElem?_cons_zero, Option.some.injEq] at h
                  subst h
                  rw [List.set_cons_zero, List.zip_cons_cons, List.zip_cons_cons, List.zip_cons_cons, List.zip_cons_cons, List.map_cons]
                  have e0 : putAt (NestedKey.tup kn) uv (NestedKey.tup kn, a1, u1) = (NestedKey.tup kn, a1, uv) := by unfold putAt; rw [if_pos rfl]
                  rw [e0]
                  congr 1
                  have : ∀ kv ∈ nks.zip (as.zip us), putAt (NestedKey.tup kn) uv kv = kv := fun kv m => if_neg fun z => n.1 (by rw [← z]; exact (List.of_mem_zip (a := kv.1) (b := kv.2) m).1)
                  rw [List.map_congr_left this, List.map_id']
                | succ j =>
                  rw [List.getElem?_cons_succ] at h
                  have ne : ¬ x = NestedKey.tup kn := fun z => n.1 (by rw [z]; exact List.mem_of_getElem? h)
                  rw [List.set_cons_succ, List.zip_cons_cons, List.zip_cons_cons, List.zip_cons_cons, List.zip_cons_cons, List.map_cons, ih n.2 h]
                  unfold putAt
                  rw [if_neg ne]
        exact this nd ix
      have I' := fin nks as (us.set j uv) (vs.set j v) hp (rv2.set rv j) l1 (by rw [List.length_set]; exact l2) (by rw [List.length_set]; exact hz) nd dp
      refine ⟨_, I', hQ _ (as.map V.ref) (vs.set j v) (.inr ⟨nks, as, rfl, by rw [nkDs_map], rfl, l1, by rw [List.length_set]; exact l2, ?_, tu⟩) rk (rd.set1 j hv)⟩
      intro z
      subst z
      simp at ix
    | none =>
      rw [e] at ix hQ
      rw [if_neg (by rw [any_zip ix]; exact Bool.false_ne_true)] at fin
      have hp : nks.zip (as.zip us) ++ [(NestedKey.tup kn, bk, uv)] = (nks ++ [NestedKey.tup kn]).zip ((as ++ [bk]).zip (us ++ [uv])) := by
        rw [List.zip_append (by omega : as.length = us.length), List.zip_append (by rw [List.length_zip]; omega)]
        rfl
      have nk : nkDs (nks ++ [NestedKey.tup kn]) = nks.map nkD ++ [nkD (.tup kn)] := by
        rw [nkDs_map, List.map_append]
        rfl
      have I' := fin (nks ++ [NestedKey.tup kn]) (as ++ [bk]) (us ++ [uv]) (vs ++ [v]) hp (rv2.append (.cons rv .nil)) (by rw [List.length_append, List.length_append, l1]; rfl) (by rw [List.length_append, List.length_append, l2]; rfl) (by rw [List.length_append]; simp; omega) (by
        rw [List.nodup_append]
        exact ⟨nd, by simp, fun x mx y my exy => ix (by rw [List.mem_singleton.mp my] at exy; rw [← exy]; exact mx)⟩) (fun k m => by
        rcases List.mem_append.mp m with m | m
        · exact dp k m
        · rw [List.mem_singleton.mp m]; exact h8)
      refine ⟨_, I', hQ _ ((as ++ [bk]).map V.ref) (vs ++ [v]) (.inr ⟨nks ++ [NestedKey.tup kn], as ++ [bk], rfl, nk.symm, rfl, by rw [List.length_append, List.length_append, l1]; rfl, by rw [List.length_append, List.length_append, l2]; rfl, ne, ?_⟩) ?_ (rd.append (.cons hv .nil))⟩
      · rw [List.all_append, tu]; rfl
      · rw [List.map_append]
        exact rk.append (.cons hx .nil)
end
end PL
set_option Elab.async false
set_option linter.all false
set_option maxRecDepth 100000
set_option maxHeartbeats 1000000
namespace PL
open PySem PySem.Spec PyProof.Rows L2

/-! ### {k: v for ..}: the store by a reading -/
abbrev TSt := V → V → V → Hp → (Hp → Prop) → Prop
def tDx (wi : TI) (g : TG) (tt : TT) (tk tv : TE) (st : TSt) (vs : List Nat) : TE := fun σ H Q => wi σ H fun J H1 => ∀ D, H1 D = none → ∃ W : Nat → Nat → Hp → Prop, (∃ m, W 0 m (upd H1 D (.dK []))) ∧ ∀ i m H, W i m H →
  (J.stop i H ∧ Q (.ref D) H) ∨ (J.go i H ∧ ∃ Nx : Hp → Prop, (∀ H', Nx H' → ∃ m', m' < m ∧ W (i + 1) m' H') ∧ ∀ x H', J.yld i H x H' → g x (wipe σ vs) H' fun σ2 H2 => wipe σ2 vs = wipe σ vs ∧ tt σ2 H2 fun b H3 =>
    if b = true then tk σ2 H3 fun y H4 => tv σ2 H4 fun z H5 => st (.ref D) y z H5 Nx else Nx H3)
section
variable {X : Cx}
theorem dx_core {pins : List (Addr × Obj)} {s : Shared} {σ : L2.St} {H : Hp} {Q : VK} {kx vx tg iter : Expr} {ifs : List Expr} {scope : Scope} {own : List (Str × Nat)} {pos pos' : Pos} {wi : TI} {g : TG} {tt : TT} {tk tv : TE} {st : TSt} {use : Option (Value → Sem Unit)} {Qf : Value → Shared → Prop}
    (hc : X.calm = true) (hN : X.N.Nodup) (I : L2.Inv X pins σ H s) (hi : PI X tg iter wi) (ok : BlkOk X.N X.env.scope scope own)
    (hg : Blk X scope fun B => PG B tg g) (ht : Blk X scope fun B => PTs B ifs tt) (hk : Blk X scope fun B => PE B kx tk) (he : Blk X scope fun B => PE B vx tv) (hst : Blk X scope fun B => DSet B st) (hs : ∀ x, foldedSetIterable iter X.env x = pure x)
    (h : tDx wi g tt tk tv st (own.map (·.2)) σ H Q)
    (fin : ∀ D C s' m H', L2.Inv X pins σ H' s' → Q (.ref D) H' → s'.heap.Ns C m → FpOk X pins H' C → compPost (model X.prog X.w) X.A X.xe use Qf (.ref D) C (.ok .next) s') :
    wpAny (model X.prog X.w) X.A (comprehension (.DictComp kx vx [⟨tg, iter, ifs, 0⟩] scope pos) scope X.env pos' newDict false (eval iter X.env) use) Qf X.xe s := by
  have caught : ∀ y ∈ scope.names, y.2 = .free → ∃ c, X.env.cells.lookup y.1 = some c := fun y hy e => (ok.free y hy e).elim (fun k => I.ok.has _ (.inl k)) fun k => I.ok.has _ (.inr k)
  refine wpAny_comprehension_free (use := use) rfl hs (closure_ok caught) ok.kind (fun y hy e => by rw [ok.uniq y hy, e]) (thn (hi.run pins s σ H _ I h) fun _ _ hx => thn hx fun itv s2 ⟨it, fp, tn, J, H2, e, I2, T, st2, f2, q⟩ => ?_)
  subst e
  refine wpAny_newObj_type (newEnv_comp ?_)
  generalize hD : s2.heap.objs.size = D
  obtain ⟨W, ⟨m0, w0⟩, turn⟩ := q D (I2.hok.fresh (Nat.le_of_eq hD))
  -- the new dict, then the block's own frame
  have grow : ∀ b o, s2.heap.get? b = some o → (s2.heap.push { cls := .type "dict", data := .dict #[] }).get? b = some o := fun b o e => Heap.get?_push_of_some _ e
  have I3 : L2.Inv X pins σ (upd H2 D (.dK [])) { s2 with heap := s2.heap.push { cls := .type "dict", data := .dict #[] } } := I2.laid (t' := s2.toks) grow (Nat.le_of_eq hD) (by rw [← hD]; exact dk_empty s2.heap I2.big)
  have small : ∀ b ∈ fp, b < s2.heap.objs.size := fun b hb => let ⟨_, e, _⟩ := T.obj _ _ st2 b hb; Heap.lt_size e
  generalize hs3 : ({ s2 with heap := s2.heap.push { cls := .type "dict", data := .dict #[] } } : Shared) = s3 at I3 ⊢
  have h3 : s3.heap = s2.heap.push { cls := .type "dict", data := .dict #[] } := by rw [← hs3]
  have st3 : tn 0 s3.heap := T.keep _ _ _ st2 fun b _ o e => by rw [h3]; exact grow b o e
  have f3 : ∀ b ∈ fp, FpOk X pins (upd H2 D (.dK [])) b ∧ b < s3.heap.objs.size := fun b hb => by
    refine ⟨⟨?_, (f2 b hb).2⟩, by rw [h3, Heap.size_push]; exact Nat.lt_succ_of_lt (small b hb)⟩
    rw [upd_ne (by rw [← hD]; exact Nat.ne_of_lt (small b hb))]
    exact (f2 b hb).1
  generalize upd H2 D (.dK []) = H3 at I3 f3 w0
  have I4 := block_start I3 ok hN f3
  have pg := hg s3 H3 s3.heap.objs.size (cellsFrom (s3.heap.objs.size + 1) scope.names (cloFrom X.env.cells scope.names [])) fp
  have pt := ht s3 H3 s3.heap.objs.size (cellsFrom (s3.heap.objs.size + 1) scope.names (cloFrom X.env.cells scope.names [])) fp
  have pk := hk s3 H3 s3.heap.objs.size (cellsFrom (s3.heap.objs.size + 1) scope.names (cloFrom X.env.cells scope.names [])) fp
  have pe := he s3 H3 s3.heap.objs.size (cellsFrom (s3.heap.objs.size + 1) scope.names (cloFrom X.env.cells scope.names [])) fp
  have ps := hst s3 H3 s3.heap.objs.size (cellsFrom (s3.heap.objs.size + 1) scope.names (cloFrom X.env.cells scope.names [])) fp
  show codeAny _ _ (.compStart (.DictComp kx vx [⟨tg, iter, ifs, 0⟩] scope pos) 0 (.ref it) (.ref D) (compEnvC scope (cellsFrom (s3.heap.objs.size + 1) scope.names (cloFrom X.env.cells scope.names [])) s3.heap.objs.size X.env)) (compPost (model X.prog X.w) X.A X.xe use Qf (.ref D) s3.heap.objs.size) { s3 with heap := pushCells (s3.heap.push { cls := .type "dict", data := .dict #[] }) scope.names }
  generalize hce : compEnvC scope (cellsFrom (s3.heap.objs.size + 1) scope.names (cloFrom X.env.cells scope.names [])) s3.heap.objs.size X.env = ce at I4 pg pt pk pe ps ⊢
  have cL : ce.locals = s3.heap.objs.size := by subst hce; rfl
  have st4 : tn 0 ({ s3 with heap := pushCells (s3.heap.push { cls := .type "dict", data := .dict #[] }) scope.names } : Shared).heap := T.keep _ _ _ st3 fun b _ o e => pushCells_keeps _ _ _ _ (Heap.get?_push_of_some _ e)
  generalize hs4 : ({ s3 with heap := pushCells (s3.heap.push { cls := .type "dict", data := .dict #[] }) scope.names } : Shared) = s4 at I4 st4 ⊢
  have still : ∀ {σ' : L2.St} {H' : Hp} {s' : Shared}, L2.Inv (X.blk s3 H3 scope ce fp) [] σ' H' s' → (∀ b ∈ fp, H' b = none) → ∀ b ∈ fp, FpOk (X.blk s3 H3 scope ce fp) [] H' b := fun {σ' H' s'} I' hn b hb =>
    ⟨hn b hb, (I'.ok.exf b hb).1, I'.ok.exfs b hb, .inl hb, fun x c e => (I'.ok.exf b hb).2 x c e, fun p hp => absurd (show p ∈ ([] : List (Addr × Obj)) ++ [] from hp) (by simp)⟩
  have loop : codeAny (model X.prog X.w) X.A (.compLoop (.DictComp kx vx [⟨tg, iter, ifs, 0⟩] scope pos) 0 (.ref it) (.ref D) ce) (compPost (model X.prog X.w) X.A X.xe use Qf (.ref D) s3.heap.objs.size) s4 := by
    refine compLoop_anyD (fun n s' => ∃ i H', L2.Inv (X.blk s3 H3 scope ce fp) [] (wipe σ (own.map (·.2))) H' s' ∧ tn i s'.heap ∧ (∀ b ∈ fp, H' b = none) ∧ W i n H') ?_ m0 ⟨0, H3, I4, st4, fun b hb => (f3 b hb).1.1, w0⟩
    rintro n s5 ⟨i, H5, I5, st5, n5, w5⟩
    rcases turn i n H5 w5 with ⟨stop, qq⟩ | ⟨go, Nx, hNx, step⟩
    · refine thnF (T.done (X.blk s3 H3 scope ce fp) rfl rfl rfl hc i [] s5 _ H5 (fun _ _ => False) I5 (still I5 n5) st5 stop) fun r s6 ⟨hr, I6⟩ => ?_
      subst hr
      have I7 : L2.Inv X pins σ H5 s6 := I3.call' (ch := fp) I6.os I6.base I6.hok I6.bare fun b hb => ⟨(f3 b hb).1.2.2.2.1, (f3 b hb).1.2.1, (f3 b hb).1.2.2.2.2.1, (f3 b hb).1.2.2.2.2.2⟩
      have nC : H5 ce.locals = none := I6.free
      obtain ⟨m, hn, _⟩ := I6.loc
      have hn : s6.heap.Ns ce.locals m := hn
      rw [cL] at hn nC
      exact fin D s3.heap.objs.size s6 m H5 I7 qq hn (I3.fpOk (Nat.le_refl _) nC)
    · refine thnF (T.item (X.blk s3 H3 scope ce fp) rfl rfl rfl hc i [] s5 _ H5 (fun _ _ => False) I5 (still I5 n5) st5 go) fun r s6 ⟨u, hr, h6⟩ => ?_
      subst hr
      refine thnF h6 fun _ s7 ⟨x, H7, I7, r7, y7, st7, n7⟩ => ?_
      refine thnF (pg.run _ s7 _ H7 x u _ (I7.pinned (still I7 n7) (T.obj _ _ st7)) r7 (step x H7 y7)) fun _ s8 ⟨σ8, H8, I8, hw8, q8⟩ => ?_
      refine thnF (pt.run _ s8 σ8 H8 _ I8 q8) fun b s9 ⟨H9, I9, q9⟩ => ?_
      have over : ∀ {s' : Shared} {H' : Hp}, L2.Inv (X.blk s3 H3 scope ce fp) ([] ++ pinsAt fp s7.heap) σ8 H' s' → Nx H' → ∃ m, m < n ∧ ∃ i H', L2.Inv (X.blk s3 H3 scope ce fp) [] (wipe σ (own.map (·.2))) H' s' ∧ tn i s'.heap ∧ (∀ b ∈ fp, H' b = none) ∧ W i m H' := fun {s' H'} I' nx => by
        obtain ⟨m', hm, w'⟩ := hNx H' nx
        have pinned : ∀ b ∈ fp, ∀ o, s7.heap.get? b = some o → s'.heap.get? b = some o ∧ H' b = none := fun b hb o e =>
          let z := I'.pin (b, o) (List.mem_append_right _ (List.mem_append_right _ (mem_pinsAt hb e)))
          ⟨z.1, z.2.1⟩
        refine ⟨m', hm, i + 1, H', (I'.unpinned (pins := [])).weak (by rw [← hw8, wipe_length]) (fun j v e => ?_), T.keep _ _ _ st7 fun b hb o e => (pinned b hb o e).1, fun b hb => ?_, w'⟩
        · rw [← hw8] at e
          exact (wipe_some e).1
        · obtain ⟨o, e, _⟩ := T.obj _ _ st7 b hb
          exact (pinned b hb o e).2
      cases b with
      | false =>
        simp only [Bool.false_eq_true, if_false] at q9 ⊢
        exact over I9 q9
      | true =>
        simp only [if_true] at q9 ⊢
        refine thnF (pk.run _ s9 σ8 H9 _ I9 q9) fun z s10 ⟨yk, H10, I10, r10, q10⟩ => ?_
        refine thnF (pe.run _ s10 σ8 H10 _ I10 q10) fun z2 s11 ⟨yv, H11, I11, r11, q11⟩ => ?_
        exact thn (ps _ s11 σ8 H11 D yk yv z z2 Nx _ I11 r10 r11 q11) fun _ s12 ⟨H12, I12, nx⟩ => over I12 nx
  exact codeAny_compStart_dict loop (T.self X.A 0 _ _ _ st4 loop)
theorem pe_dx {kx vx tg iter : Expr} {ifs : List Expr} {scope : Scope} {own : List (Str × Nat)} {pos : Pos} {wi : TI} {g : TG} {tt : TT} {tk tv : TE} {st : TSt} (hc : X.calm = true) (hN : X.N.Nodup) (hi : PI X tg iter wi) (ok : BlkOk X.N X.env.scope scope own)
    (hg : Blk X scope fun B => PG B tg g) (ht : Blk X scope fun B => PTs B ifs tt) (hk : Blk X scope fun B => PE B kx tk) (he : Blk X scope fun B => PE B vx tv) (hst : Blk X scope fun B => DSet B st) (hs : ∀ x, foldedSetIterable iter X.env x = pure x := by intro _; rfl) :
    PE X (.DictComp kx vx [⟨tg, iter, ifs, 0⟩] scope pos) (tDx wi g tt tk tv st (own.map (·.2))) := by
  refine ⟨fun pins s σ H Q I h => ?_⟩
  rw [arm_eval_DictComp]
  refine dx_core hc hN I hi ok hg ht hk he hst hs h fun D C s' m H' I' q hn f => ⟨m, hn, fun h'' sb => ?_⟩
  obtain ⟨f0, f1, f2, f3, f4, f5⟩ := f
  exact ⟨.ref D, H', I'.turned (t' := s'.toks) (fun b o hb e => (sb.2 b hb).trans e) f0 f1 f3 f4 f5, rfl, q⟩
/-- name = {..} on one line, the name a local -/
theorem ps_setDx {i : Nat} {y : Str} {py : Pos} {kx vx tg iter : Expr} {ifs : List Expr} {scope : Scope} {own : List (Str × Nat)} {pos spos : Pos} {wi : TI} {g : TG} {tt : TT} {tk tv : TE} {st : TSt} (hc : X.calm = true) (hN : X.N.Nodup) (hy : X.N[i]? = some y) (hyl : X.env.scope.names.lookup y = some .local)
    (hsw : swapsWith (.DictComp kx vx [⟨tg, iter, ifs, 0⟩] scope pos) (some (.Name y py)) spos.line X.env = pure true) (hi : PI X tg iter wi) (ok : BlkOk X.N X.env.scope scope own)
    (hg : Blk X scope fun B => PG B tg g) (ht : Blk X scope fun B => PTs B ifs tt) (hk : Blk X scope fun B => PE B kx tk) (he : Blk X scope fun B => PE B vx tv) (hst : Blk X scope fun B => DSet B st) (hs : ∀ x, foldedSetIterable iter X.env x = pure x := by intro _; rfl) :
    PS X (.Assign [.Name y py] (.DictComp kx vx [⟨tg, iter, ifs, 0⟩] scope pos) spos) (tAsg (tDx wi g tt tk tv st (own.map (·.2))) (gName i)) := by
  refine ⟨fun pins s σ H D I h => ?_⟩
  rw [exec_Assign_Name_used _ _ _ _ hsw]
  refine wpAny_bind (wpAny_standAt (wpAny_bind ?_))
  rw [arm_evalThenUse_DictComp]
  have h : tDx wi g tt tk tv st (own.map (·.2)) σ H (fun x H1 => gName i x σ H1 D.nx) := h
  refine wpAny_bind (thn (dx_core (use := some (assign (.Name y py) X.env)) (Qf := fun _ s' => SP X pins D .next s') hc hN I hi ok hg ht hk he hst hs h fun L C s' m H' I' q hn f => ?_) fun _ s' hq => wpAny_pure (wpAny_pure hq))
  show wpAny _ _ (assign (.Name y py) X.env (.ref L)) _ _ _
  refine wpAny_assign_Name (store_ok2 (v := V.ref L) I' hN hy (.inl hyl) rfl (fun s2 I2 ⟨a, sb, ha⟩ => ?_) (.inr hyl))
  obtain ⟨f0, f1, f2, f3, f4, f5⟩ := f
  have haC : C ≠ a := by
    rcases ha with z | z
    · rw [z]; exact f1
    · exact fun e => f4 y a z e.symm
  exact ⟨m, hn.sameBut sb haC, fun h3 sb3 => ⟨_, H', I2.turned (t' := s2.toks) (fun b o hb e => (sb3.2 b hb).trans e) f0 f1 f3 f4 f5, q⟩⟩
theorem sw_trueD {kx vx : Expr} {gs : List Comprehension} {scope : Scope} {pos py : Pos} {y : Str} {l : Nat} {env : PySem.Env} (hk : env.scope.kind = .function) (hy : env.scope.names.lookup y = some .local) (hl : (py.line == pos.line) = true)
    (ha : (scope.names.any fun (n, k) => n == y && (k == .local || k == .cell)) = false) : swapsWith (.DictComp kx vx gs scope pos) (some (.Name y py)) l env = pure true := by
  have ky : env.kindOf y = some .local := hy
  have hb : env.blockKind = .function := by unfold Env.blockKind; rw [hk]; rfl
  unfold swapsWith
  simp only [hb, ky, ha, Expr.pos, hl]
  rfl
end
/-! ### .. by data -/
def loopD (own : List Nat) (a : AM) (c : TM) (mk : OM) (m : EM) : List D → List D × List D → Env → R (List D × List D)
  | [], acc, r => .ok acc r
  | d :: ds, acc, r => match a d r with
    | some r1 => match c r1 with
      | .ok true r2 => match mk r2 with
        | .ok k r3 => match m r3 with
          | .ok o r4 => match putO (.dct acc.1 acc.2) k o with
            | some (.dct ks vs) => loopD own a c mk m ds (ks, vs) (wipeE r4 own)
            | _ => .stuck
          | _ => .stuck
        | _ => .stuck
      | .ok false r2 => loopD own a c mk m ds acc (wipeE r2 own)
      | _ => .stuck
    | none => .stuck
section
variable {G : GC} {X : Cx} {scope : Scope}
theorem wipe2 (t : L2.St) (ow0 : List Nat) : L2.wipe (L2.wipe t ow0) ow0 = L2.wipe t ow0 := by
  have : ∀ own1 : List Nat, (∀ i ∈ own1, i ∈ ow0) → L2.wipe (L2.wipe t own1) ow0 = L2.wipe t ow0 := fun own1 => by
    induction own1 with
    | nil => intro _; rfl
    | cons v vs ih =>
      intro hh
      show L2.wipe ((L2.wipe t vs).set v none) ow0 = _
      rw [wipe_set (List.contains_iff_mem.mpr (hh v List.mem_cons_self))]
      exact ih fun i m => hh i (List.mem_cons_of_mem _ m)
  exact this ow0 fun _ m => m
theorem dx_run {tg iter kx vx : Expr} {ifs : List Expr} {a : AM} {mc : TM} {mk : OM} {me : EM} {nm nk : Bool} {ow0 : List Nat}
    (hg : Blk X scope fun B => SimG G B (KWipe ow0) tg a) (hc : Blk X scope fun B => SimTs G B ifs mc) (hk : Blk X scope fun B => SimO G B kx mk nk false) (he : Blk X scope fun B => SimE G B vx me nm) {Z H : Hp} {s : L2.St} {F : List Addr} {ds : List D} {os : List D × List D} {r0 r' : Env}
    (h0 : wI X tg iter s H (fun J H1 => ∃ Z1 F1, RepEnv G H1 Z1 r0 s F1 ∧ Ow Z1 H1 F1 ∧ Fr Z H F Z1 H1 F1 ∧ Yields G Z1 J ds)) (el : loopD ow0 a mc mk me ds ([], []) (wipeE r0 ow0) = .ok os r') :
    tDx (wI X tg iter) (bG X scope tg) (bT X scope ifs) (bE X scope kx) (bE X scope vx) (rPutD G) ow0 s H (OkE G Z H s F (.dct os.1 os.2) r' false) := by
  refine wI.mono h0 fun J H0 ⟨Z0, F0, d1, d2, d3, d4⟩ L hL => ?_
  obtain ⟨Fw, w1, w2⟩ := d1.wipe ow0
  have d2' := d2.less w2
  obtain ⟨g1, g2, g3⟩ := d2'.new (u := .dK []) w1.there hL
  have frL : Fr Z H F Z0 (upd H0 L (.dK [])) (L :: Fw) := (d3.less fun b m => w2.subset m).trans g2
  refine ⟨fun i k H1 => k = ds.length - i ∧ i ≤ ds.length ∧ ∃ Z1 F1 r1 acc u kvs vs, H1 L = some u ∧ DctU G.w L u acc.1 kvs vs ∧ RepVs G Z1 acc.1 kvs ∧ RepVs G Z1 acc.2 vs ∧ RepEnv G H1 Z1 (wipeE r1 ow0) (L2.wipe s ow0) F1 ∧ Ow Z1 H1 ([L] ++ F1) ∧ Fr Z H F Z1 H1 ([L] ++ F1) ∧ Sub Z0 Z1 ∧
    loopD ow0 a mc mk me (ds.drop i) acc (wipeE r1 ow0) = .ok os r', ⟨ds.length, rfl, Nat.zero_le _, Z0, Fw, r0, ([], []), .dK [], [], [], upd_same, .inl ⟨[], rfl, rfl, rfl, rfl, .nil⟩, .nil, .nil, ?_, g1, frL, .refl _, el⟩, ?_⟩
  · exact (w1.mono (.refl _) fun b m u e => g3 b u e).wipeS ow0 fun _ m => m
  rintro i k H1 ⟨ek, hk', Z1, F1, r1, acc, u, kvs, vs, aL, aD, aK, aV, a1, a2, a3, a5, a6⟩
  subst ek
  have a2l : Ow Z1 H1 F1 := a2.less (List.sublist_append_right _ _)
  obtain ⟨y1, y2⟩ := d4 i H1 (a5.trans a2.sub) hk'
  by_cases hlt : i < ds.length
  · obtain ⟨y3, y4⟩ := y2 hlt
    have ed : ds.drop i = ds[i] :: ds.drop (i + 1) := (List.drop_eq_getElem_cons hlt)
    rw [ed] at a6
    unfold loopD at a6
    cases ea : a ds[i] (wipeE r1 ow0) with
    | none => rw [ea] at a6; cases a6
    | some r2 =>
      rw [ea] at a6
      dsimp only at a6
      cases ec : mc r2 with
      | stuck => rw [ec] at a6; cases a6
      | exc x r3 => rw [ec] at a6; cases a6
      | ok b r3 =>
        rw [ec] at a6
        refine .inr ⟨y3, fun H1 => ∃ Z1 F1 r1 acc u kvs vs, H1 L = some u ∧ DctU G.w L u acc.1 kvs vs ∧ RepVs G Z1 acc.1 kvs ∧ RepVs G Z1 acc.2 vs ∧ RepEnv G H1 Z1 (wipeE r1 ow0) (L2.wipe s ow0) F1 ∧ Ow Z1 H1 ([L] ++ F1) ∧ Fr Z H F Z1 H1 ([L] ++ F1) ∧ Sub Z0 Z1 ∧
          loopD ow0 a mc mk me (ds.drop (i + 1)) acc (wipeE r1 ow0) = .ok os r', fun H' q => ⟨ds.length - (i + 1), by omega, rfl, hlt, q⟩, fun x H2 y => ?_⟩
        obtain ⟨d, ed2, nw⟩ := y4 x H2 y
        rw [List.getElem?_eq_getElem hlt] at ed2
        cases ed2
        obtain ⟨Z2, E2, F2, b0, b1, b2, b3, _⟩ := New.fin (nm := false) (nw.more a5) a1 a2l .refl (fun z => nomatch z)
        unfold RepO at b0
        obtain ⟨b0, rfl⟩ := b0
        have tE : ∀ b ∈ [L], ∃ u, H1 b = some u := fun b m => by
          rw [List.mem_singleton.mp m]; exact ⟨_, aL⟩
        refine fun bs bH bC bcl bfp => wG.mono (hg bs bH bC bcl bfp Z2 H2 _ (L2.wipe s ow0) F2 _ x r2 b2 b1 b0 ea) fun s2 H3 ⟨eH, kw, F3, c1, c2, c3⟩ => ?_
        subst eH
        have kw : L2.wipe s2 ow0 = L2.wipe (L2.wipe s ow0) ow0 := kw
        rw [wipe2] at kw
        refine ⟨kw, ?_⟩
        have b3' := b3.less c3
        intro bs2 bH2 bC2 bcl2 bfp2
        have h2 := hc bs2 bH2 bC2 bcl2 bfp2 Z2 H3 r2 s2 F3 c2 c1
        rw [ec] at h2
        refine wTs.mono h2 fun cb H4 ⟨eb, Z4, F4, e1, e2, e3, _⟩ => ?_
        subst eb
        have f4 := b3'.trans e3
        cases cb with
        | false =>
          refine iteF ?_
          dsimp only at a6
          obtain ⟨q1, q2, q3⟩ := f4.beside a2 e2 tE
          obtain ⟨F5, v1, v2⟩ := e1.wipe ow0
          refine ⟨Z4, F5, r3, acc, u, kvs, vs, q3 L (by simp) _ aL, aD, aK.sub f4.zs, aV.sub f4.zs, ?_, q2.less (v2.append_left _), (a3.trans q1).less fun b m => (v2.append_left _).subset m, a5.trans f4.zs, a6⟩
          have := v1.wipeS ow0 fun _ m => m
          rw [kw] at this
          exact this
        | true =>
          refine iteT ?_
          dsimp only at a6
          cases emk : mk r3 with
          | stuck => rw [emk] at a6; cases a6
          | exc x r4 => rw [emk] at a6; cases a6
          | ok kd r4 =>
            rw [emk] at a6
            dsimp only at a6
            cases eme : me r4 with
            | stuck => rw [eme] at a6; cases a6
            | exc x r5 => rw [eme] at a6; cases a6
            | ok o r5 =>
              rw [eme] at a6
              dsimp only at a6
              intro bs3 bH3 bC3 bcl3 bfp3
              have h3 := hk bs3 bH3 bC3 bcl3 bfp3 Z4 H4 r3 s2 F4 e2 e1
              rw [emk] at h3
              refine wE.mono h3 fun yk H5 ⟨Z5, F5, _, i0, i1, i2, i3, _⟩ => ?_
              have i0 := i0 rfl
              intro bs4 bH4 bC4 bcl4 bfp4
              have h4 := he bs4 bH4 bC4 bcl4 bfp4 Z5 H5 r4 s2 F5 i2 i1
              rw [eme] at h4
              refine wE.mono h4 fun yv H6 q => ?_
              obtain ⟨Z6, E6, F6, j0, j1, j2, j3, _⟩ := q.frozen
              unfold RepO at j0
              obtain ⟨j0, rfl⟩ := j0
              have j2 : Ow Z6 H6 F6 := j2
              have j3 : Fr Z5 H5 F5 Z6 H6 F6 := j3
              have f6 := f4.trans (i3.trans j3)
              obtain ⟨q1, q2, q3⟩ := f6.beside a2 j2 tE
              have hL6 := q3 L (by simp) _ aL
              -- the store
              cases ep : putO (.dct acc.1 acc.2) kd o with
              | none => rw [ep] at a6; cases a6
              | some c2 =>
                rw [ep] at a6
                unfold putO at ep
                dsimp only at ep
                cases hkk : kindK kd with
                | none => rw [hkk] at ep; cases ep
                | some bb =>
                  rw [hkk] at ep
                  dsimp only at ep
                  by_cases hom : homK bb acc.1 = true
                  · rw [if_pos hom] at ep
                    by_cases hlen : lenOk (acc.2.length + 1) = true
                    · rw [if_pos hlen] at ep
                      cases ep
                      dsimp only at a6
                      refine ⟨Z6, L, u, acc.1, acc.2, kvs, vs, kd, frz o, bb, rfl, hL6, aD, aK.sub f6.zs, aV.sub f6.zs, (i0.sub j3.zs).b q2.sub, j0, q2.sub, hkk, hom, lenOk_le hlen, fun u' kvs' vs' t1 t2 t3 => ?_⟩
                      obtain ⟨F7, v1, v2⟩ := j1.wipe ow0
                      have nL : L ∉ F6 := (List.nodup_cons.mp q2.nd).1
                      have kp : ∀ b ∈ F7, ∀ x, H6 b = some x → upd H6 L u' b = some x := fun b m x e => by
                        rw [upd_ne fun z => nL (by rw [← z]; exact v2.subset m)]; exact e
                      have o6 := q2.less (v2.append_left [L])
                      have f7 := (a3.trans q1).less fun b m => (v2.append_left [L]).subset m
                      refine ⟨Z6, F7, r5, (dPut acc.1 acc.2 kd (frz o)), u', kvs', vs', upd_same, t1, t2, t3, ?_, ⟨fun b x e => ?_, o6.nd, o6.sep⟩, ⟨f7.zs, fun b x e m => ?_, f7.ow, f7.zn⟩, a5.trans f6.zs, a6⟩
                      · have := (v1.mono (.refl _) kp).wipeS ow0 fun _ m => m
                        rw [kw] at this
                        exact this
                      · rw [upd_ne fun z => by rw [z, o6.sep L (by simp)] at e; cases e]
                        exact o6.sub b x e
                      · rw [upd_ne fun z => ?_]
                        · exact f7.fr b x e m
                        · subst z
                          have hx := d3.fr b x e m
                          rw [hL] at hx
                          cases hx
                    · rw [if_neg hlen] at ep; cases ep
                  · rw [if_neg hom] at ep; cases ep
  · have e : i = ds.length := by omega
    refine .inl ⟨y1 e, ?_⟩
    subst e
    rw [List.drop_length] at a6
    unfold loopD at a6
    cases a6
    refine ⟨Z1, [L], F1, ?_, ?_, a2, a3, fun z => nomatch z⟩
    · unfold RepO
      exact ⟨L, u, kvs, vs, rfl, aL, aD, aK, aV, rfl⟩
    · exact a1.same (wipe_length s ow0).symm fun i hi => (wipe_get fun m => hi (wipeE_get m)).symm
end
def mDcD (L : Nat → List Nat) (own : List Nat) (i : Nat) (ps : List Nat) (a : AM) (c : TM) (mk : OM) (m : EM) : EM := fun r => match mRd L i ps r with
  | .ok (.val (.dct ks _)) r1 => match loopD own a c mk m ks ([], []) (wipeE r1 own) with
    | .ok os r2 => .ok (.dct os.1 os.2) r2
    | _ => .stuck
  | _ => .stuck
section
variable {G : GC} {X : Cx} {scope : Scope} {own : List (Str × Nat)}
theorem e_dcD (ok : ClsOk G) (hK : X.K = G.K) (hw : X.w = G.w) (hu : X.A.units + 64 < cLine) {tg iter kx vx : Expr} {ifs : List Expr} {pos : Pos} {i : Nat} {ps : List Nat} {a : AM} {mc : TM} {mk : OM} {me : EM} {nm nk : Bool} (hcl : X.calm = true) (hN : X.N.Nodup) (bok : BlkOk X.N X.env.scope scope own) (hp : PthE G X iter i ps)
    (hg : Blk X scope fun B => SimG G B (KWipe (own.map (·.2))) tg a) (hc : Blk X scope fun B => SimTs G B ifs mc) (hk : Blk X scope fun B => SimO G B kx mk nk false) (he : Blk X scope fun B => SimE G B vx me nm) (hs : ∀ x, foldedSetIterable iter X.env x = pure x := by intro _; rfl) :
    SimE G X (.DictComp kx vx [⟨tg, iter, ifs, 0⟩] scope pos) (mDcD G.fid (own.map (·.2)) i ps a mc mk me) false := fun Z H r s F ow en => by
  have P : PE X (.DictComp kx vx [⟨tg, iter, ifs, 0⟩] scope pos) (tDx (wI X tg iter) (bG X scope tg) (bT X scope ifs) (bE X scope kx) (bE X scope vx) (rPutD G) (own.map (·.2))) :=
    pe_dx hcl hN pwI bok (fun bs bH bC bcl bfp => ⟨fun pins t s H v u Q I r h => h bs bH bC bcl bfp pins t u I r⟩) (fun bs bH bC bcl bfp => ⟨fun pins t s H Q I h => h bs bH bC bcl bfp pins t I⟩) (fun bs bH bC bcl bfp => ⟨fun pins t s H Q I h => h bs bH bC bcl bfp pins t I⟩) (fun bs bH bC bcl bfp => ⟨fun pins t s H Q I h => h bs bH bC bcl bfp pins t I⟩)
      (fun bs bH bC bcl bfp => dset_dct hK hw hu) hs
  unfold mDcD
  cases em : mRd G.fid i ps r with
  | stuck => trivial
  | exc x r1 => trivial
  | ok o r1 =>
    cases o with
    | val dd =>
      cases dd with
      | dct ks ds =>
        dsimp only
        obtain ⟨v, w, e1, e2, q⟩ := rd_at ok ow en em
        cases el : loopD (own.map (·.2)) a mc mk me ks ([], []) (wipeE r1 (own.map (·.2))) with
        | stuck => trivial
        | exc x r2 => trivial
        | ok os r2 =>
          dsimp only
          rcases dict_road (tg := tg) hw hp e1 e2 q with ⟨Z1, F1, b1, b2, b3, h0⟩ | ⟨Z1, F1, d, u, kvs, vs, b1, b2, b3, hH, mu, hZ, hd, lk⟩
          · exact wE.of P (dx_run hg hc hk he h0 el)
          · refine wE.of (pe_lock pwE) ⟨d, u, hH, mu, fun od => ?_⟩
            obtain ⟨c1, c2, h0⟩ := lk od
            exact wE.mono (wE.of P (dx_run hg hc hk he h0 el)) fun v H' q => q.unlock hZ hH hd b3
      | _ => trivial
    | _ => trivial
theorem s_setDcD {M : List Nat} {j : Nat} {y : Str} {py spos : Pos} (ok : ClsOk G) (hK : X.K = G.K) (hw : X.w = G.w) (hu : X.A.units + 64 < cLine) {tg iter kx vx : Expr} {ifs : List Expr} {pos : Pos} {i : Nat} {ps : List Nat} {a : AM} {mc : TM} {mk : OM} {me : EM} {nm nk : Bool} (hcl : X.calm = true) (hN : X.N.Nodup)
    (hy : X.N[j]? = some y) (hyl : X.env.scope.names.lookup y = some .local) (hsw : swapsWith (.DictComp kx vx [⟨tg, iter, ifs, 0⟩] scope pos) (some (.Name y py)) spos.line X.env = pure true) (bok : BlkOk X.N X.env.scope scope own) (hp : PthE G X iter i ps)
    (hg : Blk X scope fun B => SimG G B (KWipe (own.map (·.2))) tg a) (hc : Blk X scope fun B => SimTs G B ifs mc) (hk : Blk X scope fun B => SimO G B kx mk nk false) (he : Blk X scope fun B => SimE G B vx me nm) (hM : M.contains j = false) (hs : ∀ x, foldedSetIterable iter X.env x = pure x := by intro _; rfl) :
    SimS G X M (.Assign [.Name y py] (.DictComp kx vx [⟨tg, iter, ifs, 0⟩] scope pos) spos) (mSet j (mDcD G.fid (own.map (·.2)) i ps a mc mk me)) := fun Z H r s F ow en ns ex => by
  have P : PS X (.Assign [.Name y py] (.DictComp kx vx [⟨tg, iter, ifs, 0⟩] scope pos) spos) (tAsg (tDx (wI X tg iter) (bG X scope tg) (bT X scope ifs) (bE X scope kx) (bE X scope vx) (rPutD G) (own.map (·.2))) (gName j)) :=
    ps_setDx hcl hN hy hyl hsw pwI bok (fun bs bH bC bcl bfp => ⟨fun pins t s H v u Q I r h => h bs bH bC bcl bfp pins t u I r⟩) (fun bs bH bC bcl bfp => ⟨fun pins t s H Q I h => h bs bH bC bcl bfp pins t I⟩) (fun bs bH bC bcl bfp => ⟨fun pins t s H Q I h => h bs bH bC bcl bfp pins t I⟩) (fun bs bH bC bcl bfp => ⟨fun pins t s H Q I h => h bs bH bC bcl bfp pins t I⟩)
      (fun bs bH bC bcl bfp => dset_dct hK hw hu) hs
  have mono : ∀ {H : Hp} {Q Q' : VK}, tDx (wI X tg iter) (bG X scope tg) (bT X scope ifs) (bE X scope kx) (bE X scope vx) (rPutD G) (own.map (·.2)) s H Q → (∀ v H', Q v H' → Q' v H') → tDx (wI X tg iter) (bG X scope tg) (bT X scope ifs) (bE X scope kx) (bE X scope vx) (rPutD G) (own.map (·.2)) s H Q' := fun {H Q Q'} h k => by
    refine wI.mono h fun J H1 q L hL => ?_
    obtain ⟨W, w0, turn⟩ := q L hL
    refine ⟨W, w0, fun i m H w => ?_⟩
    rcases turn i m H w with ⟨z1, z2⟩ | z
    · exact .inl ⟨z1, k _ _ z2⟩
    · exact .inr z
  unfold mSet mDcD at ns ex ⊢
  cases em : mRd G.fid i ps r with
  | stuck => rw [em] at ns; exact absurd rfl ns
  | exc x r1 => rw [em] at ns; exact absurd rfl ns
  | ok o r1 =>
    rw [em] at ns ex
    cases o with
    | val dd =>
      cases dd with
      | dct ks ds =>
        dsimp only at ns ex ⊢
        obtain ⟨v, w, e1, e2, q⟩ := rd_at ok ow en em
        cases el : loopD (own.map (·.2)) a mc mk me ks ([], []) (wipeE r1 (own.map (·.2))) with
        | stuck => rw [el] at ns; exact absurd rfl ns
        | exc x r2 => rw [el] at ns; exact absurd rfl ns
        | ok os r2 =>
          rw [el] at ns ex
          dsimp only at ns ex ⊢
          by_cases hl : j < r2.length
          · rw [if_pos hl] at ns ex ⊢
            rcases dict_road (tg := tg) hw hp e1 e2 q with ⟨Z1, F1, b1, b2, b3, h0⟩ | ⟨Z1, F1, d, u, kvs, vs, b1, b2, b3, hH, mu, hZ, hd, lk⟩
            · exact wS.of P (mono (dx_run hg hc hk he h0 el) fun v H1 q => store_OkS q hl hM)
            · refine wS.of (ps_lock pwS) ⟨d, u, hH, mu, fun od => ?_⟩
              obtain ⟨c1, c2, h0⟩ := lk od
              refine wS.of P (mono (dx_run hg hc hk he h0 el) fun v H' q => ?_)
              obtain ⟨t1, t2⟩ := q.unlock hZ hH hd b3
              exact ⟨t1, store_OkS t2 hl hM⟩
          · rw [if_neg hl] at ns
            exact absurd rfl ns
      | _ => exact absurd rfl ns
    | _ => exact absurd rfl ns
end
end PL
set_option Elab.async false
set_option linter.all false
set_option maxRecDepth 100000
set_option maxHeartbeats 1000000
namespace PL
open PySem PySem.Spec PyProof.Rows L2

/-! ### dict(d) -/
theorem call_dict_nest {prog : Program} {w : World} {A : Around} {E : Value → Shared → Prop} {s : Shared} {K : Type} [DecidableEq K] {knd : HeapKind prog w K} {o : Addr} {more : List (K × Addr × Value)} {Q : Value → Shared → Prop} (hu : knd.room A.in1.in1) (st : knd.Stays) (hoS : (o == sysModules) = false) (ho : s.heap.DictOfH knd o more)
    (hap : (more.map fun x => knd.hash x.1).Nodup) (hsz : more.length ≤ sizeLine)
    (h : ∀ h', h'.DictOfH knd s.heap.objs.size more → Heap.SameBut s.heap.objs.size (s.heap.push { cls := .type "dict", data := .dict #[] }) h' → Q (.ref s.heap.objs.size) { s with heap := h' }) :
    wpAny (model prog w) A (call (.type "dict") [.ref o]) Q E s := by
  refine callType_codes (Q₁ := fun obj s₁ => obj = .ref s.heap.objs.size ∧ s₁ = { s with heap := s.heap.push { cls := .type "dict", data := .dict #[] } }) F.kt_called_dict (F.kt_typeCall_dict_1 _) F.entry_dict_init (kt_code_dict_new _ ⟨rfl, rfl⟩) ?_
  rintro obj s₁ ⟨rfl, rfl⟩
  have hnew : (s.heap.push { cls := .type "dict", data := .dict #[] }).DictOfH knd s.heap.objs.size [] := Heap.DictOfH.new s.heap
  have kp : ∀ b ob, s.heap.get? b = some ob → (s.heap.push { cls := .type "dict", data := .dict #[] }).get? b = some ob := fun b ob e => Heap.get?_push_of_some _ e
  obtain ⟨oo, es, ep, q1, q2, q3, q4, q5, q6⟩ := id ho
  have ho' : (s.heap.push { cls := .type "dict", data := .dict #[] }).DictOfH knd o more := ⟨oo, es, ep, kp _ _ q1, q2, q3, q4, fun x hx => st.stays (fun b ob _ _ e _ => kp b ob e) (q5 x hx), q6⟩
  have hdo : s.heap.objs.size ≠ o := fun e => absurd (Heap.lt_size q1) (by rw [e]; exact Nat.lt_irrefl _)
  refine ⟨hnew.typeIs, F.args_dict_init_2 _ _, ?_⟩
  unfold Builtin.«dict.__init__»
  refine wpAny_bind ?_
  unfold Builtin.Dict.selfAndRest
  refine wpAny_bind (wpAny_notOrdered_dict hnew.typeIs ?_)
  show wpAny _ _ (pure (s.heap.objs.size, [Value.ref o])) _ _ _
  refine wpAny_pure ?_
  show wpAny _ _ (Builtin.Dict.updateFrom "dict.__init__" s.heap.objs.size (.ref o) [] .none) _ _ _
  refine updateFrom_dictH (R := wants (fun r s₂ => r = Value.none ∧ Q (Value.ref s.heap.objs.size) s₂) E) .none hu hdo hoS hnew ho' (.inr ⟨fun x hx => st.tuple (s := { s with heap := s.heap.push { cls := .type "dict", data := .dict #[] } }) (k := x.1) (by obtain ⟨_, _, _, _, _, _, _, p5, _⟩ := ho'; exact p5 x hx), hap⟩) (by simpa using hsz) fun h' d1 d2 hs => ?_
  rw [storedAllH_nil_of_nodup more q6] at d1
  exact ⟨rfl, h h' d1 hs⟩
def hashOk (w : World) (ks : List D) : Bool := match dNks ks with
  | some nks => decide ((nks.map fun k => k.hash w).Nodup)
  | none => false
def dctF (w : World) : D → Option O
  | .dct ks ds => if homK false ks = true then some (.dct ks ds) else if (homK true ks && hashOk w ks) = true then some (.dct ks ds) else none
  | _ => none
section
variable {G : GC} {X : Cx}
def rDct1 (G : GC) : List V → Hp → VK → Prop := fun xs H Q => ∃ x, xs = [x] ∧ rDat1 G (dctF G.w) x H Q
theorem call_dctD (hK : X.K = G.K) (hw : X.w = G.w) (hu : X.A.units + 64 < cLine) : CallR X (.type "dict") (rDct1 G) := by
  intro pins s σ H xs us Q I r q
  obtain ⟨x, rfl, Z, d, o, hd, ef, sz, hQ⟩ := q
  cases d with
  | dct ks ds =>
    unfold dctF at ef
    dsimp only at ef
    obtain ⟨a, u, kvs, vs, rfl, hr, hu', rk, rd⟩ := rb_dct hd
    by_cases h0 : homK false ks = true
    · rw [if_pos h0] at ef
      cases ef
      obtain ⟨kk, rfl, rfl, rfl, l1, nd⟩ := plain_dict hu' h0
      exact call_dictD pins s σ H _ us Q I r ⟨a, _, rfl, hr, fun p np => hQ _ _ (.dct np (.inl ⟨kk, rfl, rfl, rfl, l1, nd⟩) rk rd)⟩
    · rw [if_neg h0] at ef
      by_cases h1 : (homK true ks && hashOk G.w ks) = true
      · rw [if_pos h1] at ef
        cases ef
        obtain ⟨u0, eu, rx⟩ := vals1 r
        subst eu
        cases rx
        obtain ⟨nks, as, us', rfl, rfl, rv, l1, l2, hsys, hz, nd, dp, tu, dd⟩ := nest_dict I hK hw sz hr hu' rk (and_l h1)
        have lu := rv.length
        have hh := and_r h1
        unfold hashOk at hh
        rw [dNks_nkD] at hh
        dsimp only at hh
        have hh := of_decide_eq_true hh
        have hne : nks ≠ [] := fun z => by
          subst z
          exact h0 rfl
        refine call_dict_nest (w := X.w) (knd := nestedKind X.prog X.w) (by show X.A.in1.in1.units + 8 < cLine; have : X.A.in1.in1.units = X.A.units + 2 := rfl; omega) nestedKind_stays hsys dd ?_ (by rw [List.length_zip, List.length_zip]; omega) fun h' d' hs => ?_
        · have : (nks.zip (as.zip us')).map (fun x => (nestedKind X.prog X.w).hash x.1) = nks.map fun k => k.hash G.w := by
            have e1 : (nks.zip (as.zip us')).map (fun x => (nestedKind X.prog X.w).hash x.1) = ((nks.zip (as.zip us')).map (·.1)).map fun k => k.hash X.w := by rw [List.map_map]; rfl
            rw [e1, List.map_fst_zip (by rw [List.length_zip]; omega), hw]
          rw [this]
          exact hh
        · have hm : (s.heap.objs.size == sysModules) = false := beq_eq_false_iff_ne.mpr (Nat.ne_of_gt I.big)
          have fresh := I.hok.fresh (Nat.le_refl s.heap.objs.size)
          obtain ⟨ob, es, ep, q1, q2, q3, q4, _, _⟩ := d'
          refine ⟨.ref s.heap.objs.size, upd H s.heap.objs.size (nkO G.w s.heap.objs.size nks as vs), I.laid (t' := s.toks) (fun b u e => (hs.2 b (Nat.ne_of_lt (Heap.lt_size e))).trans (Heap.get?_push_of_some _ e)) (Nat.le_refl _) ?_, rfl, hQ _ _ (.dct fresh (.inr ⟨nks, as, rfl, rfl, rfl, l1, l2, hne, tu⟩) rk rd)⟩
          refine ⟨⟨hm, hz, l1, l2, nd, dp, ob, es, ep, us', rv, q1, q2, q3, ?_⟩, ⟨ob, q1⟩, fun h1 h2 ⟨c1, c2, c3, c4, c5, c6, o1, es1, ep1, us1, c7, c8, c9, c10, c11⟩ kp => ⟨c1, c2, c3, c4, c5, c6, o1, es1, ep1, us1, c7, kp _ c8, c9, c10, c11⟩⟩
          rw [q4]
          refine List.map_congr_left fun y hy => ?_
          show (⟨NestedKey.hash X.w y.1, .ref y.2.1, y.2.2⟩ : DictEntry) = _
          rw [hw]
      · rw [if_neg h1] at ef; cases ef
  | _ => cases ef
end
/-! ### d == d, the same nested keys in the same order -/
theorem nodup_get {α : Type} : ∀ {l : List α} {i j : Nat} {x : α}, l.Nodup → l[i]? = some x → l[j]? = some x → i = j
  | [], i, _, _, _, h, _ => by simp at h
  | a :: l, 0, 0, _, _, _, _ => rfl
  | a :: l, 0, j + 1, x, nd, h, h' => by
    simp at h h'
    subst h
    exact absurd (List.mem_of_getElem? h') (List.nodup_cons.mp nd).1
  | a :: l, i + 1, 0, x, nd, h, h' => by
    simp at h h'
    subst h'
    exact absurd (List.mem_of_getElem? h) (List.nodup_cons.mp nd).1
  | a :: l, i + 1, j + 1, x, nd, h, h' => by
    rw [List.getElem?_cons_succ] at h h'
    rw [nodup_get (List.nodup_cons.mp nd).2 h h']
theorem same_pairs_nest {prog : Program} {w : World} {A : Around} {E : Value → Shared → Prop} {s : Shared} {K : Type} [DecidableEq K] {knd : HeapKind prog w K} {nm : String} {a b : Addr} {xa xb : List (K × Addr × Value)} {e : Nat → Bool} {Q : Bool → Shared → Prop} (hu : knd.room A)
    (ha : (a == sysModules) = false) (hb : (b == sysModules) = false) (da : s.heap.DictOfH knd a xa) (db : s.heap.DictOfH knd b xb) (keys : xa.map (·.1) = xb.map (·.1)) (vals : ∀ i (h1 : i < xa.length) (h2 : i < xb.length), SeqAt.EqIn prog w A s xa[i].2.2 xb[i].2.2 (e i))
    (h : Q ((List.range xa.length).all e) s) : wpAny (model prog w) A (Builtin.Dict.samePairs nm a b) Q E s := by
  obtain ⟨oa, es, ep, hoa, _, hda, hea, hisa, hna⟩ := da
  obtain ⟨ob, es', ep', hob, _, hdb, heb, hisb, hnb⟩ := db
  have ll : xa.length = xb.length := by have := congrArg List.length keys; simpa using this
  have za : es.size = xa.length := size_of_entries hea
  have zb : es'.size = xb.length := size_of_entries heb
  unfold Builtin.Dict.samePairs Builtin.Dict.showsAll
  rw [if_neg (show ¬ (a == sysModules) = true by rw [ha]; exact Bool.false_ne_true), if_neg (show ¬ (b == sysModules) = true by rw [hb]; exact Bool.false_ne_true)]
  refine wpAny_bind (wpAny_pure (wpAny_bind (wpAny_pure ?_)))
  refine wpAny_bind (wpAny_dictEntries hoa hda ?_)
  dsimp only
  refine wpAny_bind (wpAny_dictEntries hob hdb ?_)
  rw [if_neg (by rw [za, zb, ll]; simp)]
  refine wpAny_bind (wpAny_dictEpoch hoa hda ?_)
  refine wpAny_bind ?_
  rw [Std.Legacy.Range.forIn_eq_forIn_range']
  simp only [Std.Legacy.Range.size, Nat.sub_zero, Nat.add_sub_cancel, Nat.div_one]
  refine wpAny_forIn_list _ (fun rest q s' => s' = s ∧ q = (none, ()) ∧ ∃ i, rest = List.range' i (es.size - i) ∧ i ≤ es.size ∧ (List.range i).all e = true) _ ?_ ?_ _ _ ⟨rfl, rfl, 0, by simp, Nat.zero_le _, rfl⟩
  · rintro x rest q s' ⟨rfl, rfl, i, hr, hi, hpre⟩
    have hlt : i < es.size := by
      rcases Nat.lt_or_ge i es.size with h | h
      · exact h
      · rw [Nat.sub_eq_zero_of_le h] at hr; simp at hr
    obtain ⟨rfl, hrest⟩ : x = i ∧ rest = List.range' (i + 1) (es.size - (i + 1)) := by
      have e : es.size - i = (es.size - (i + 1)) + 1 := by omega
      rw [e, List.range'_succ] at hr
      injection hr with h1 h2
      exact ⟨h1, h2⟩
    have h1 : x < xa.length := by omega
    have h2 : x < xb.length := by omega
    have ea : es[x] = entryOfKey knd xa[x] := by
      have := entry_at hea x
      rw [Array.getElem?_eq_getElem hlt, List.getElem?_eq_getElem h1] at this
      exact Option.some.inj this
    have eb : es'[x]'(by omega) = entryOfKey knd xb[x] := by
      have := entry_at heb x
      rw [Array.getElem?_eq_getElem (by omega), List.getElem?_eq_getElem h2] at this
      exact Option.some.inj this
    have ek : xa[x].1 = xb[x].1 := by
      have := congrArg (fun l => l[x]?) keys
      simp only [List.getElem?_map, List.getElem?_eq_getElem h1, List.getElem?_eq_getElem h2, Option.map_some, Option.some.injEq] at this
      exact this
    refine wpAny_bind (wpAny_dictEntries hoa hda ?_)
    rw [Array.getElem?_eq_getElem hlt, ea]
    show wpAny _ _ (holding [Value.ref xa[x].2.1, xa[x].2.2] _ >>= _) _ _ _
    refine wpAny_bind (wpAny_holding (wpAny_bind ?_))
    show wpAny _ _ (dictFind b (.ref xa[x].2.1) (knd.hash xa[x].1)) _ _ _
    refine wpAny_dictFind_heap hu (hisa _ (List.getElem_mem h1)) hob hdb heb hisb hnb (fun hno => ?_) fun j p hj => ?_
    · exact absurd (by rw [List.getElem?_eq_getElem h2, ek]) (hno x xb[x].2)
    · have ej : j = x := by
        have hjl : j < xb.length := by
          rcases Nat.lt_or_ge j xb.length with z | z
          · exact z
          · rw [List.getElem?_eq_none_iff.mpr z] at hj; cases hj
        have e1 : (xb.map (·.1))[j]? = some xa[x].1 := by rw [List.getElem?_map, hj]; rfl
        have e2 : (xb.map (·.1))[x]? = some xa[x].1 := by rw [List.getElem?_map, List.getElem?_eq_getElem h2, ek]; rfl
        exact nodup_get hnb e1 e2
      subst ej
      refine wpAny_bind (wpAny_dictEntries hob hdb ?_)
      rw [Array.getElem?_eq_getElem (by omega), eb]
      refine wpAny_holding (vals j h1 h2 _ _ ?_)
      cases he : e j with
      | false =>
        show wpAny _ _ (if (!false) = true then _ else _) _ _ _
        rw [if_pos (by decide)]
        refine wpAny_pure (wpAny_pure ?_)
        have : (List.range xa.length).all e = false := by
          rw [List.all_eq_false]
          exact ⟨j, List.mem_range.mpr h1, by rw [he]; exact Bool.false_ne_true⟩
        rw [this] at h
        exact h
      | true =>
        show wpAny _ _ (if (!true) = true then _ else _) _ _ _
        rw [if_neg (by decide)]
        refine wpAny_bind (wpAny_dictEpoch hoa hda ?_)
        rw [if_neg (by simp)]
        refine wpAny_pure ⟨rfl, rfl, j + 1, hrest, hlt, ?_⟩
        rw [List.range_succ, List.all_append, hpre]
        simp [he]
  · rintro q s' ⟨rfl, rfl, i, hr, hi, hpre⟩
    have hin : i = es.size := by
      rcases Nat.lt_or_ge i es.size with h | h
      · have e : es.size - i = (es.size - (i + 1)) + 1 := by omega
        rw [e, List.range'_succ] at hr; exact nomatch hr
      · exact Nat.le_antisymm hi h
    refine wpAny_pure ?_
    rw [hin, za] at hpre
    rw [hpre] at h
    exact h
def eqDct : D → D → Option O
  | .dct ks ds, .dct ls es => if (decide (ks = ls) && homK true ks && ds.all okD && es.all okD) = true then some (.val (.bl ((List.range ks.length).all fun i => PyData.eqv (toP (ds.getD i .non)) (toP (es.getD i .non))))) else none
  | _, _ => none
section
variable {G : GC} {X : Cx}
theorem op_eqDct (hK : X.K = G.K) (hw : X.w = G.w) (hu : X.A.units + 128 < cLine) : OpR X (compareOp .Eq) (rDat G eqDct) := by
  intro pins s σ H x y v u Q I rx ry h
  obtain ⟨Z, d, e, o, hd, he, ef, sz, hQ⟩ := h
  cases d with
  | dct ks ds =>
    cases e with
    | dct ls es =>
      unfold eqDct at ef
      dsimp only at ef
      by_cases hh : (decide (ks = ls) && homK true ks && ds.all okD && es.all okD) = true
      · rw [if_pos hh] at ef
        cases ef
        have e1 := of_decide_eq_true (and_l (and_l (and_l hh)))
        subst e1
        have hom := and_r (and_l (and_l hh))
        have okd := and_r (and_l hh)
        have oke := and_r hh
        obtain ⟨a, ua, kva, va, rfl, hra, hua, rka, rda⟩ := rb_dct hd
        obtain ⟨b, ub, kvb, vb, rfl, hrb, hub, rkb, rdb⟩ := rb_dct he
        cases rx
        cases ry
        obtain ⟨nks, as, us, ek, _, rv, l1, l2, hsys, hz, nd, dp, tu, dd⟩ := nest_dict I hK hw sz hra hua rka hom
        obtain ⟨nks', bs, ws, ek', _, rv', l1', l2', hsys', _, _, _, _, dd'⟩ := nest_dict I hK hw sz hrb hub rkb hom
        have en : nks = nks' := by
          have := dNks_nkD nks
          rw [← ek, ek', dNks_nkD] at this
          exact (Option.some.inj this).symm
        subst en
        have lu := rv.length
        have lu' := rv'.length
        have ld := rda.length
        have le := rdb.length
        have lk : ks.length = nks.length := by rw [ek, nkDs_map, List.length_map]
        refine wpAny_richCompare_same_room (op := .Eq) dd.typeIs dd'.typeIs PySem.F.slot_dict_eq (wpAny_call_entry PySem.F.slot_dict_eq dd.typeIs PySem.F.entry_dict_eq ?_ (PySem.F.args_dict_eq_2 _ _)) (by omega)
        show wpAny _ _ (Builtin.Dict.dictSlotArgs "__eq__" ⟨[.ref a, .ref b], []⟩ >>= _) _ _ s
        refine wpAny_bind ?_
        unfold Builtin.Dict.dictSlotArgs
        refine wpAny_bind (wpAny_notOrdered_dict dd.typeIs ?_)
        show wpAny _ _ (pure (Value.ref a, Value.ref b)) _ _ s
        refine wpAny_pure ?_
        refine wpAny_bind (wpAny_isInstance (T := "dict") dd'.typeIs PySem.F.sub_dict_dict ?_)
        simp only [Bool.not_true, Bool.false_eq_true, if_false]
        refine wpAny_bind (wpAny_pure (wpAny_bind (wpAny_pure ?_)))
        have lz : (nks.zip (as.zip us)).length = ks.length := by rw [List.length_zip, List.length_zip]; omega
        have lz' : (nks.zip (bs.zip ws)).length = ks.length := by rw [List.length_zip, List.length_zip]; omega
        refine wpAny_bind (same_pairs_nest (e := fun i => PyData.eqv (toP (ds.getD i .non)) (toP (es.getD i .non))) (by show X.A.in1.units + 8 < cLine; have : X.A.in1.units = X.A.units + 1 := rfl; omega) hsys hsys' dd dd' (by
          rw [List.map_fst_zip (by rw [List.length_zip]; omega), List.map_fst_zip (by rw [List.length_zip]; omega)]) (fun i h1 h2 => ?_) ?_)
        · have i1 : i < ds.length := by omega
          have i2 : i < es.length := by omega
          obtain ⟨v1, q1, q2⟩ := rda.get (List.getElem?_eq_getElem i1)
          obtain ⟨v2, p1, p2⟩ := rdb.get (List.getElem?_eq_getElem i2)
          obtain ⟨u1, t1, t2⟩ := rv.get q1
          obtain ⟨u2, t3, t4⟩ := rv'.get p1
          have o1 : okD ds[i] = true := List.all_eq_true.mp okd _ (List.getElem_mem i1)
          have o2 : okD es[i] = true := List.all_eq_true.mp oke _ (List.getElem_mem i2)
          obtain ⟨as1, r1⟩ := Dp.reads I _ v1 u1 (by rw [hK]; exact dp_v sz q2 (and_l o1)) t2
          obtain ⟨as2, r2⟩ := Dp.reads I _ v2 u2 (by rw [hK]; exact dp_v sz p2 (and_l o2)) t4
          have g1 : (nks.zip (as.zip us))[i].2.2 = u1 := by
            have : (as.zip us)[i]? = some ((as.zip us)[i]'(by rw [List.length_zip]; omega)) := List.getElem?_eq_getElem _
            rw [List.getElem_zip]
            rw [List.getElem_zip]
            have h' : i < us.length := by omega
            rw [List.getElem?_eq_getElem h'] at t1
            exact Option.some.inj t1
          have g2 : (nks.zip (bs.zip ws))[i].2.2 = u2 := by
            rw [List.getElem_zip]
            rw [List.getElem_zip]
            have h' : i < ws.length := by omega
            rw [List.getElem?_eq_getElem h'] at t3
            exact Option.some.inj t3
          rw [g1, g2]
          have gd : ds.getD i .non = ds[i] := by rw [List.getD_eq_getElem?_getD, List.getElem?_eq_getElem i1]; rfl
          have ge : es.getD i .non = es[i] := by rw [List.getD_eq_getElem?_getD, List.getElem?_eq_getElem i2]; rfl
          show SeqAt.EqIn X.prog X.w X.A.in1 s u1 u2 (PyData.eqv (toP (ds.getD i .non)) (toP (es.getD i .non)))
          rw [gd, ge]
          have h64 := SeqAt.depth_of_shaped (and_r o1)
          refine (SeqAt.eqAt_plain _ _ X.A.in1 s u1 u2 _ _ r1 r2 (PyData.plain_of_canLay0 _ (SeqAt.canLay_of_shaped (and_r o1))) (PyData.plain_of_canLay0 _ (SeqAt.canLay_of_shaped (and_r o2))) ?_).inModel X.prog X.w
          have : X.A.in1.units = X.A.units + 1 := rfl
          have : min (toP ds[i]).depth (toP es[i]).depth ≤ (toP ds[i]).depth := Nat.min_le_left _ _
          omega
        · refine wpAny_pure ⟨_, rfl, ?_, ?_⟩
          · exact fun x => nomatch x
          · refine ⟨.bl _, H, I, ?_, hQ _ _ (.val rv_bl)⟩
            show Value.bool _ = Value.bool _
            rw [lz]
            simp
      · rw [if_neg hh] at ef; cases ef
    | _ => unfold eqDct at ef; cases ef
  | _ => unfold eqDct at ef; cases ef
end
end PL
set_option Elab.async false
set_option linter.all false
set_option maxRecDepth 100000
set_option maxHeartbeats 4000000
namespace PL
open PySem PySem.Spec PyProof.Rows L2

theorem tuple_mul_one (l : Addr) (items : Array Value) (n : Nat) (dd : Option Addr) (sl : Array (Option Value)) (u : Tok) :
    Meets (Builtin.«tuple.__mul__» ⟨[.ref l, .int 1 u], []⟩) (fun _ R s => s.heap.get? l = some { cls := .type "tuple", dict := dd, data := .seq items n, slots := sl } ∧ R (.ok (.ret (Value.ref l))) s) :=
  .of_wp fun prog w A R s h => by
    obtain ⟨hp, g, d, tk, os⟩ := s
    obtain ⟨hl, h⟩ := h
    have f1 := AutoSeq1.idx_int
    have f2 := AutoSeq1.sub_tuple_tuple
    wp_walk using wpAny_loadPart' hl
    exact ⟨_, rfl, h⟩
def rRepT1 (K : PySem.W.Frag) : R2 := fun x y H Q => ∃ l xs, x = .ref l ∧ y = .int 1 ∧ SqT K H l xs ∧ Q (.ref l) H
section
variable {X : Cx}
theorem op_repT1 : OpR X (binaryOp .Mult) (rRepT1 X.K) := by
  intro pins s σ H x y v u Q I rx ry h
  obtain ⟨l, xs, rfl, rfl, hT, q⟩ := h
  cases rx
  obtain ⟨t, rfl⟩ := ry
  obtain ⟨its, r, ⟨⟨cls, dd, data, sl⟩, ho, hc, n, hd⟩, hs⟩ := I.tuple hT
  simp only at hc hd
  subst hc hd
  exact wpAny_binaryOp_repeat_ref (T := "tuple") (U := "int") (by decide) ⟨_, ho, rfl⟩ (fun s' => typeIs_int s' 1 t) noFill_tuple_mul F.fills_int_mul F.slot_int_rmul repeat_tuple F.slot_int_index.lookup
    (call_meets F.slot_int_rmul (typeIs_int s 1 t) F.entry_int_rmul (F.args_int_rmul_2 _ _) (int_rmul_tuple 1 t l its.toArray n dd sl)
      ⟨ho, rfl, ⟨_, ho, rfl⟩, call_meets F.slot_tuple_mul ⟨_, ho, rfl⟩ F.entry_tuple_mul (F.args_tuple_mul_2 _ _) (tuple_mul_one l its.toArray n dd sl t) ⟨ho, .ref l, H, I, rfl, q⟩⟩)
end
def tupMulD : D → D → Option O
  | .tup ds, .int k => if k = 1 then some (.val (.tup ds)) else if (decide (2 ≤ k) && decide (k ≤ 1000) && !ds.isEmpty && decide (ds.length ≤ 1000)) = true then some (.val (.tup (List.replicate k.toNat ds).flatten)) else none
  | _, _ => none
def rTupMul (K : PySem.W.Frag) : R2 := fun x y H Q => rRepT1 K x y H Q ∨ rRepT K x y H Q
theorem op_tupMul {X : Cx} : OpR X (binaryOp .Mult) (rTupMul X.K) := op_repT1.or op_repT
theorem RepVs.rep {G : GC} {Z : Hp} {ds : List D} {vs : List V} (h : RepVs G Z ds vs) : ∀ k : Nat, RepVs G Z (List.replicate k ds).flatten (List.replicate k vs).flatten
  | 0 => .nil
  | k + 1 => by
    rw [List.replicate_succ, List.replicate_succ, List.flatten_cons, List.flatten_cons]
    exact h.append (h.rep k)
theorem f_tupMul {G : GC} : Op2 G tupMulD (rTupMul G.K) := fun Z H d e v w o Q hd he ef sz hQ => by
  cases d with
  | tup ds =>
    cases e with
    | int k =>
      unfold tupMulD at ef
      dsimp only at ef
      obtain ⟨a, vs, rfl, q1, q2, q3⟩ := rb_tup sz hd
      have ew := rb_int he
      subst ew
      by_cases h1 : k = 1
      · subst h1
        rw [if_pos rfl] at ef
        cases ef
        exact .inl ⟨a, vs, rfl, rfl, q2, hQ _ _ (.val hd)⟩
      · rw [if_neg h1] at ef
        by_cases h2 : (decide (2 ≤ k) && decide (k ≤ 1000) && !ds.isEmpty && decide (ds.length ≤ 1000)) = true
        · rw [if_pos h2] at ef
          cases ef
          refine .inr ⟨a, k, vs, rfl, rfl, q2, fun z => ?_, of_decide_eq_true (and_l (and_l (and_l h2))), of_decide_eq_true (and_r (and_l (and_l h2))), by rw [← q3.length]; exact of_decide_eq_true (and_r h2), fun p np => hQ _ _ (.tup np (q3.rep _))⟩
          subst z
          have l := q3.length
          have : ds = [] := List.eq_nil_of_length_eq_zero l
          subst this
          have := and_r (and_l h2)
          simp at this
        · rw [if_neg h2] at ef; cases ef
    | _ => unfold tupMulD at ef; cases ef
  | _ => unfold tupMulD at ef; cases ef
def mulX : D → D → Option O := orD mulD tupMulD
theorem op_mulXX {X : Cx} : OpR X (binaryOp .Mult) (fun x y H Q => rI CMulX (fun i j => .int (i * j)) x y H Q ∨ rTupMul X.K x y H Q) := op_mulX.or op_tupMul
theorem f_mulX {G : GC} : Op2 G mulX (fun x y H Q => rI CMulX (fun i j => .int (i * j)) x y H Q ∨ rTupMul G.K x y H Q) := f_mul.or f_tupMul
/-! ### the operators as the text writes them -/
def ixX : D → D → Option O := orD ixD getD
def inX (neg : Bool) : D → D → Option O := orD (inL neg) (orD (inT neg) (inDct neg))
def eqX : D → D → Option O := orD eqD eqDct
section
variable {G : GC} {X : Cx}
theorem ix_X (hK : X.K = G.K) (hw : X.w = G.w) (hu : X.A.units + 64 < cLine) : IxR X (fun x y H Q => rIx G.K x y H Q ∨ rDat G getD x y H Q) := by
  have h : IxR X (rIx G.K) := by rw [← hK]; exact ix_seq
  exact h.or (ix_dict hK hw hu)
theorem f_ixX : Op2 G ixX (fun x y H Q => rIx G.K x y H Q ∨ rDat G getD x y H Q) := f_ix.or f_dat
theorem op_inX (hK : X.K = G.K) (hw : X.w = G.w) (hu : X.A.units + 128 < cLine) : OpR X (compareOp .In) (fun x y H Q => rInD G.K x y H Q ∨ (rInT G.K x y H Q ∨ rDat G (inDct false) x y H Q)) := by
  have h1 : OpR X (compareOp .In) (rInD G.K) := by rw [← hK]; exact op_inD (by omega)
  have h2 : OpR X (compareOp .In) (rInT G.K) := by rw [← hK]; exact op_inT (by omega)
  exact h1.or (h2.or (op_inDct hK hw (by omega)))
theorem f_inX : Op2 G (inX false) (fun x y H Q => rInD G.K x y H Q ∨ (rInT G.K x y H Q ∨ rDat G (inDct false) x y H Q)) := f_inL.or (f_inT.or f_dat)
theorem op_ninX (hK : X.K = G.K) (hw : X.w = G.w) (hu : X.A.units + 128 < cLine) : OpR X (compareOp .NotIn) (fun x y H Q => rNotInD G.K x y H Q ∨ (rNotInT G.K x y H Q ∨ rDat G (inDct true) x y H Q)) := by
  have h1 : OpR X (compareOp .NotIn) (rNotInD G.K) := by rw [← hK]; exact op_notInD (by omega)
  have h2 : OpR X (compareOp .NotIn) (rNotInT G.K) := by rw [← hK]; exact op_notInT (by omega)
  exact h1.or (h2.or (op_ninDct hK hw (by omega)))
theorem f_ninX : Op2 G (inX true) (fun x y H Q => rNotInD G.K x y H Q ∨ (rNotInT G.K x y H Q ∨ rDat G (inDct true) x y H Q)) := f_ninL.or (f_ninT.or f_dat)
theorem op_eqX (hK : X.K = G.K) (hw : X.w = G.w) (hu : X.A.units + 128 < cLine) : OpR X (compareOp .Eq) (fun x y H Q => rEqD G.K x y H Q ∨ rDat G eqDct x y H Q) := by
  have h1 : OpR X (compareOp .Eq) (rEqD G.K) := by rw [← hK]; exact op_eqD (by omega)
  exact h1.or (op_eqDct hK hw hu)
theorem f_eqX : Op2 G eqX (fun x y H Q => rEqD G.K x y H Q ∨ rDat G eqDct x y H Q) := f_eq.or f_dat
end
end PL
set_option Elab.async false
set_option linter.all false
set_option maxRecDepth 100000
set_option maxHeartbeats 1000000
namespace PL
open PySem PySem.Spec PyProof.Rows L2

/-! ### short words for the printed derivations -/
structure CE (G : GC) (mg : Str → Option Value) (base : Heap) (k : Nat) (X : Cx) : Prop where
  bx : BX G mg base X k
  calm : X.calm = true
  nd : X.N.Nodup
  ok : ClsOk G
  len : ∀ c, (G.lay c).length < 1000
structure CS (G : GC) (mg : Str → Option Value) (base : Heap) (k : Nat) (X : Cx) : Prop extends CE G mg base k X where
  po : PassesOwn (model X.prog X.w) X.A X.env X.xe
theorem room128 {k : Nat} {A : Around} (r : Room k A) : A.units + 128 < cLine := by
  have := r.un
  omega
section
variable {G : GC} {mg : Str → Option Value} {base : Heap} {k : Nat} {X : Cx}
theorem CE.hu (c : CE G mg base k X) : X.A.units + 128 < cLine := room128 c.bx.room
theorem CE.hu64 (c : CE G mg base k X) : X.A.units + 64 < cLine := by have := c.hu; omega
theorem CE.blk (c : CE G mg base k X) (s : Shared) (H : Hp) (scope : Scope) (ce : PySem.Env) (fp : List Addr) : CE G mg base k (X.blk s H scope ce fp) := ⟨⟨c.bx.p, c.bx.w, c.bx.K, c.bx.mg, c.bx.base, c.bx.room⟩, c.calm, c.nd, c.ok, c.len⟩
theorem CE.inB (c : CE G mg base k X) {scope : Scope} {Φ : Cx → Prop} (f : ∀ (s : Shared) (H : Hp) (C : Addr) (cl : List (Str × Addr)) (fp : List Addr), CE G mg base k (X.blk s H scope (compEnvC scope cl C X.env) fp) → Φ (X.blk s H scope (compEnvC scope cl C X.env) fp)) : Blk X scope Φ := fun s H C cl fp => f s H C cl fp (c.blk s H scope _ fp)
variable (c : CE G mg base k X)
include c
theorem CE.add : OpR X (binaryOp .Add) (rAdd G.K) := by have h : OpR X (binaryOp .Add) (rAdd X.K) := op_addAll; rw [c.bx.K] at h; exact h
theorem CE.mul : OpR X (binaryOp .Mult) (fun x y H Q => rI CMulX (fun i j => .int (i * j)) x y H Q ∨ rTupMul G.K x y H Q) := by have h := op_mulXX (X := X); rw [c.bx.K] at h; exact h
theorem CE.ix : IxR X (fun x y H Q => rIx G.K x y H Q ∨ rDat G getD x y H Q) := ix_X c.bx.K c.bx.w c.hu64
theorem CE.isin : OpR X (compareOp .In) (fun x y H Q => rInD G.K x y H Q ∨ (rInT G.K x y H Q ∨ rDat G (inDct false) x y H Q)) := op_inX c.bx.K c.bx.w c.hu
theorem CE.nin : OpR X (compareOp .NotIn) (fun x y H Q => rNotInD G.K x y H Q ∨ (rNotInT G.K x y H Q ∨ rDat G (inDct true) x y H Q)) := op_ninX c.bx.K c.bx.w c.hu
theorem CE.eq : OpR X (compareOp .Eq) (fun x y H Q => rEqD G.K x y H Q ∨ rDat G eqDct x y H Q) := op_eqX c.bx.K c.bx.w c.hu
theorem CE.ne : OpR X (compareOp .NotEq) (rNeD G.K) := by have h : OpR X (compareOp .NotEq) (rNeD X.K) := op_neD (by have := c.hu; omega); rw [c.bx.K] at h; exact h
theorem CE.tru {a : Expr} {ma : OM} {na pa : Bool} (ha : SimO G X a ma na pa) (he : ∀ whole, isTrue a X.env whole = (do let v ← whole; standAt a.pos; holding [v] (truthy v)) := by intro _; rfl) : SimT G X a (mTr truD ma) na := sim_tru c.bx.K ha he
section
variable {a b : Expr} {ma mb : OM} {na nb pa pb : Bool} {p pos : Pos}
theorem CE.len1 (hm : mg "len" = none) (ha : SimO G X a ma na pa) (hg : Gl X "len") (he : starEach [a] X.env = (false, eval a X.env) :: starEach [] X.env := by rfl) (hpl : (backTo pos (starEach [] X.env)).any (·.1) = false := by rfl) : SimE G X (.Call (.Name "len" p) [a] [] pos) (mOp1 lenD ma) na :=
  sim_callB1 (rd := rLen1 G.K) call_len (fun v H Q ⟨n, h, q⟩ => ⟨v, n, rfl, (by rw [c.bx.K]; exact h), q⟩) f_len ha hg (by rw [c.bx.mg]; exact hm) PySem.boot_len (by decide) (by decide) he hpl
theorem CE.int1 (hm : mg "int" = none) (ha : SimO G X a ma na pa) (hg : Gl X "int") (he : starEach [a] X.env = (false, eval a X.env) :: starEach [] X.env := by rfl) (hpl : (backTo pos (starEach [] X.env)).any (·.1) = false := by rfl) : SimE G X (.Call (.Name "int" p) [a] [] pos) (mOp1 intF ma) na :=
  sim_callT1 (rd := rInt1) call_int1 (fun v H Q h => by
    rcases h with ⟨i, rfl, q⟩ | ⟨i, rfl, q⟩
    · exact .inl ⟨i, rfl, q⟩
    · exact .inr ⟨i, rfl, q⟩) f_intF ha hg (by rw [c.bx.mg]; exact hm) (by decide +kernel) (by decide) (by decide) he hpl
theorem CE.tup1 (hm : mg "tuple" = none) (ha : SimO G X a ma na pa) (hg : Gl X "tuple") (he : starEach [a] X.env = (false, eval a X.env) :: starEach [] X.env := by rfl) (hpl : (backTo pos (starEach [] X.env)).any (·.1) = false := by rfl) : SimE G X (.Call (.Name "tuple" p) [a] [] pos) (mOp1 tupF ma) na :=
  sim_callT1 (rd := rTup1 G.K) call_tuple_of (fun v H Q ⟨p, ys, e, h⟩ => ⟨p, ys, by rw [e], (by rw [c.bx.K]; exact h)⟩) f_tupF ha hg (by rw [c.bx.mg]; exact hm) (by decide +kernel) (by decide) (by decide) he hpl
theorem CE.lst1 (hm : mg "list" = none) (ha : SimO G X a ma na pa) (hg : Gl X "list") (he : starEach [a] X.env = (false, eval a X.env) :: starEach [] X.env := by rfl) (hpl : (backTo pos (starEach [] X.env)).any (·.1) = false := by rfl) : SimE G X (.Call (.Name "list" p) [a] [] pos) (mOp1 lstF ma) na :=
  sim_callT1 (rd := rLst1 G.K) call_list_of (fun v H Q ⟨p, ys, e, h, q⟩ => ⟨p, ys, by rw [e], (by rw [c.bx.K]; exact h), q⟩) f_lstF ha hg (by rw [c.bx.mg]; exact hm) (by decide +kernel) (by decide) (by decide) he hpl
theorem CE.dct1 (hm : mg "dict" = none) (ha : SimO G X a ma na pa) (hg : Gl X "dict") (he : starEach [a] X.env = (false, eval a X.env) :: starEach [] X.env := by rfl) (hpl : (backTo pos (starEach [] X.env)).any (·.1) = false := by rfl) : SimE G X (.Call (.Name "dict" p) [a] [] pos) (mOp1 (dctF G.w) ma) na :=
  sim_callT1 (rd := rDat1 G (dctF G.w)) (call_dctD c.bx.K c.bx.w c.hu64) (fun v H Q h => ⟨v, rfl, h⟩) f_dat1 ha hg (by rw [c.bx.mg]; exact hm) (by decide +kernel) (by decide) (by decide) he hpl
theorem CE.all1 (hm : mg "all" = none) (ha : SimO G X a ma na pa) (hg : Gl X "all") (he : starEach [a] X.env = (false, eval a X.env) :: starEach [] X.env := by rfl) (hpl : (backTo pos (starEach [] X.env)).any (·.1) = false := by rfl) : SimE G X (.Call (.Name "all" p) [a] [] pos) (mOp1 allF ma) na :=
  sim_callB1 (rd := rAll1 G.K) (cr_all c.calm) (fun v H Q ⟨x, bs, e, h, q⟩ => ⟨x, bs, by rw [e], (by rw [c.bx.K]; exact h), q⟩) f_all ha hg (by rw [c.bx.mg]; exact hm) (by decide +kernel) (by decide) (by decide) he hpl
theorem CE.any1 (hm : mg "any" = none) (ha : SimO G X a ma na pa) (hg : Gl X "any") (he : starEach [a] X.env = (false, eval a X.env) :: starEach [] X.env := by rfl) (hpl : (backTo pos (starEach [] X.env)).any (·.1) = false := by rfl) : SimE G X (.Call (.Name "any" p) [a] [] pos) (mOp1 anyF ma) na :=
  sim_callB1 (rd := rAny1 G.K) (cr_any c.calm) (fun v H Q ⟨x, bs, e, h, q⟩ => ⟨x, bs, by rw [e], (by rw [c.bx.K]; exact h), q⟩) f_any ha hg (by rw [c.bx.mg]; exact hm) (by decide +kernel) (by decide) (by decide) he hpl
theorem CE.max2 (hm : mg "max" = none) (ha : SimO G X a ma na pa) (hb : SimO G X b mb nb pb) (hg : Gl X "max") (hp : pa = true → nb = true := by decide)
    (he : starEach [a, b] X.env = (false, eval a X.env) :: starEach [b] X.env := by rfl) (he2 : starEach [b] X.env = (false, eval b X.env) :: starEach [] X.env := by rfl) (hpl : (backTo pos (starEach [b] X.env)).any (·.1) = false := by rfl) : SimE G X (.Call (.Name "max" p) [a, b] [] pos) (mOp2 maxF ma mb) (na && nb) :=
  sim_callB2 (rd := rMax2) (call_max2 c.calm) (fun v w H Q ⟨i, j, e1, e2, q⟩ => ⟨i, j, by rw [e1, e2], q⟩) f_max ha hb hg (by rw [c.bx.mg]; exact hm) (by decide +kernel) (by decide) (by decide) he he2 hpl hp
theorem CE.isi {T : Str} {Ts : String} {p2 : Pos} (hm : mg "isinstance" = none) (hm2 : mg T = none) (ha : SimO G X a ma na pa) (hg : Gl X "isinstance") (hg2 : Gl X T) (hv2 : bootBuiltins T = some (.type Ts)) (hn2 : T ≠ "__name__" := by decide) (hd2 : (T == ("__debug__" : Str)) = false := by decide)
    (he : starEach [a, .Name T p2] X.env = (false, eval a X.env) :: starEach [.Name T p2] X.env := by rfl) (he2 : starEach [Expr.Name T p2] X.env = (false, eval (.Name T p2) X.env) :: starEach [] X.env := by rfl)
    (hpl : (backTo pos (starEach [Expr.Name T p2] X.env)).any (·.1) = false := by rfl) : SimE G X (.Call (.Name "isinstance" p) [a, .Name T p2] [] pos) (mOp1 (isiD Ts) ma) na :=
  e_isi c.bx.K ha hg (by rw [c.bx.mg]; exact hm) (by decide +kernel) hg2 (by rw [c.bx.mg]; exact hm2) hv2 hn2 hd2 he he2 hpl
end
end
end PL
set_option Elab.async false
set_option linter.all false
set_option maxRecDepth 100000
set_option maxHeartbeats 1000000
namespace PL
open PySem PySem.Spec PyProof.Rows L2

section
variable {G : GC} {X : Cx} {x : Str} {pos : Pos}
theorem vs (i : Nat) (hN : X.N[i]? = some x := by rfl) (hv : Vis X.env.scope x := by first | exact Or.inl rfl | exact Or.inr (Or.inl rfl) | exact Or.inr (Or.inr rfl)) (hd : (x == ("__debug__" : Str)) = false := by decide) (hcd : (x == ("__classdict__" : Str)) = false := by decide) : SimE G X (.Name x pos) (mSlot i) true := sim_slot hN hv hd hcd
theorem vt (i : Nat) (hN : X.N[i]? = some x := by rfl) (hv : Vis X.env.scope x := by first | exact Or.inl rfl | exact Or.inr (Or.inl rfl) | exact Or.inr (Or.inr rfl)) (hd : (x == ("__debug__" : Str)) = false := by decide) (hcd : (x == ("__classdict__" : Str)) = false := by decide) : SimE G X (.Name x pos) (mTake i) true := sim_take hN hv hd hcd
theorem pn (i : Nat) (hN : X.N[i]? = some x := by rfl) (hv : Vis X.env.scope x := by first | exact Or.inl rfl | exact Or.inr (Or.inl rfl) | exact Or.inr (Or.inr rfl)) (hd : (x == ("__debug__" : Str)) = false := by decide) (hcd : (x == ("__classdict__" : Str)) = false := by decide) : PthE G X (.Name x pos) i [] := pth_name hN hv hd hcd
theorem vio (j : Nat) {es : List Expr} {js : List (Option Nat)} {ms : Env → R Env} {nm1 : Bool} (hs : SimX G X es js ms nm1) (hN : X.N[j]? = some x := by rfl) (hv : Vis X.env.scope x := by first | exact Or.inl rfl | exact Or.inr (Or.inl rfl) | exact Or.inr (Or.inr rfl))
    (ha : starEach (Expr.Name x pos :: es) X.env = (false, eval (Expr.Name x pos) X.env) :: starEach es X.env := by rfl) (hd : (x == ("__debug__" : Str)) = false := by decide) (hcd : (x == ("__classdict__" : Str)) = false := by decide) : SimX G X (Expr.Name x pos :: es) (some j :: js) (xIo j ms) nm1 := x_io hs hN hv ha hd hcd
theorem gn {K : KR} (i : Nat) (hK : ∀ s x, K s (s.set i x)) (hN : X.N.Nodup) (hi : X.N[i]? = some x := by rfl) (hx : Loc X.env.scope x := by first | exact Or.inl rfl | exact Or.inr rfl) (hf : X.fn x = true ∨ X.env.scope.names.lookup x = some .local := by first | exact .inl rfl | exact .inr rfl) : SimG G X K (.Name x pos) (aName i) := g_name hN hi hx hK hf
theorem kk {M : List Nat} {i : Nat} (h : M.contains i = false := by rfl) : ∀ (s : L2.St) x, Keep M s (s.set i x) := fun _ _ => Keep.set h
theorem kw {own : List Nat} {i : Nat} (h : own.contains i = true := by rfl) : ∀ (s : L2.St) x, KWipe own s (s.set i x) := fun _ _ => wipe_set h
theorem aCons_len {a : AM} {b : List D → Env → Option Env} {n : Nat} (h : ∀ ds r r', b ds r = some r' → ds.length = n) : ∀ ds r r', aCons a b ds r = some r' → ds.length = n + 1 := fun ds r r' e => by
  cases ds with
  | nil => cases e
  | cons d ds =>
    unfold aCons at e
    dsimp only at e
    cases e1 : a d r with
    | none => rw [e1] at e; cases e
    | some r1 =>
      rw [e1] at e
      rw [List.length_cons, h ds r1 r' e]
theorem aNil_len : ∀ ds r r', aNil ds r = some r' → ds.length = 0 := fun ds r r' e => by
  cases ds with
  | nil => rfl
  | cons d ds => cases e
end
/-- the context of a def's body -/
theorem cs_of {G : GC} {mg : Str → Option Value} {base : Heap} {k : Nat} {N : List Str} {sc : Scope} {fa : Addr} {cdv : Value} {A : Around} {outer : List PySem.Env} {s : Shared} {H : Hp} {E : XK} {qs : Str} (r : Room k (A.deeper (envOfC qs sc s.heap.objs.size fa cdv))) (nd : N.Nodup) (ok : ClsOk G) (len : ∀ c, (G.lay c).length < 1000) :
    CS G mg base k (cxOf (L2.CX G.P G.w) G.P G.w G.K mg base N qs sc fa cdv A outer s H E) := ⟨⟨⟨rfl, rfl, rfl, rfl, rfl, r⟩, rfl, nd, ok, len⟩, passes_of rfl⟩
/-- what a body's exceptions come to -/
theorem ex_of {P : Program} {w : World} {K : PySem.W.Frag} {mg : Str → Option Value} {base : Heap} {N : List Str} {qs : Str} {sc : Scope} {fa : Addr} {cdv : Value} {A : Around} {outer : List PySem.Env} {s : Shared} {H : Hp} {E : XK} :
    ∀ cls d s' H', E cls d H' → eX (cxOf (L2.CX P w) P w K mg base N qs sc fa cdv A outer s H E) cls d s' H' := fun cls d s' H' h => eX_of (takes_of (E := E) rfl rfl rfl rfl) h
/-- a def keeps its interpretation's promise -/
theorem fn_ok {G : GC} {mg : Str → Option Value} {base : Heap} {k : Nat} {N ps : List Str} {x qs : Str} {st : Stmt} {fa : Addr} {fd : FuncData} (f : Fn) (m : SM) (F : Fun G.K x qs st fa fd) (S : FnScope N ps (defScope st)) (hN : N.length = f.n) (hp : ps.length = f.p) (hM : ∀ i ∈ f.M, i < f.p)
    (hs : ∀ cdv A outer s H E, Room k (A.deeper (envOfC qs (defScope st) s.heap.objs.size fa cdv)) → SimSs G (cxOf (L2.CX G.P G.w) G.P G.w G.K mg base N qs (defScope st) fa cdv A outer s H E) f.M (defBody st) m) :
    FnOk G.P G.w G.K mg base (L2.CX G.P G.w) (k + 1) fa fd ps (spI G (runB f m) f.p) :=
  F.okX S (fun vs H Q E h => h.1.trans hp.symm) fun cdv A outer s H vs Q E hr h => ⟨_, pwSs, body_ok hN hM (hs cdv A outer s H E hr) ex_of h⟩
theorem runB_len {f : Fn} {m : SM} {os : List O} (h : runB f m os ≠ .stuck) : os.length = f.p := by
  unfold runB at h
  by_cases e : os.length = f.p
  · exact e
  · rw [if_neg e] at h; exact absurd rfl h
/-- nothing is promised -/
theorem fn_none {G : GC} {mg : Str → Option Value} {base : Heap} {k n : Nat} {ps : List Str} {fa : Addr} {fd : FuncData} (hp : ps.length = n) (f : FM) (h : ∀ os, f os = .stuck) : FnOk G.P G.w G.K mg base (L2.CX G.P G.w) k fa fd ps (spI G f n) :=
  ⟨fun vs H Q E h => h.1.trans hp.symm, fun A outer s H args us vs Q E _ _ _ _ ⟨_, _, _, os, _, _, _, _, ns⟩ => absurd (h os) ns⟩
end PL
set_option Elab.async false
set_option linter.all false
set_option maxRecDepth 100000
set_option maxHeartbeats 1000000
namespace PL
open PySem PySem.Spec PyProof.Rows L2

/-! ### the defs, level by level -/
def FnF (K : PySem.W.Frag) (mg : Str → Option Value) (x q : Str) (st : Stmt) (ps : List Str) : Prop :=
  ∃ fa fd, Fun K x q st fa fd ∧ mg x = some (.ref fa) ∧ Binds K fd ps []
def InF (K : PySem.W.Frag) (mg : Str → Option Value) (C : Addr) (x q : Str) (st : Stmt) (ps : List Str) : Prop :=
  ∃ fa fd, Fun K "__init__" q st fa fd ∧ mg x = some (.ref C) ∧ Mk K C fa ∧ Binds K fd ps []
section
variable {G : GC} {mg : Str → Option Value} {base : Heap} {k n i c : Nat} {x q : Str} {st : Stmt} {ps N : List Str} {T : Nat → Fn}
theorem callI_zero (os : List O) : callI T 0 i os = .stuck := rfl
theorem call_zero (F : FnF G.K mg x q st ps) (hp : ps.length = n) : CallOk G mg base 1 x (callI T 0 i) n := by
  obtain ⟨fa, fd, F, hm, hb⟩ := F
  exact ⟨fa, fd, ps, fn_none hp _ callI_zero, hm, F.kp, hb, fun os h => absurd (callI_zero os) h⟩
theorem run_fun {fa : Addr} {fd : FuncData} (F : Fun G.K x q st fa fd) (S : FnScope N ps (defScope st)) (f : Fn) (hf : T i = f) (hN : N.length = f.n) (hp : ps.length = f.p) (hM : (f.M.all fun j => decide (j < f.p)) = true)
    (hs : ∀ cdv A outer s H E, Room (k + 1) (A.deeper (envOfC q (defScope st) s.heap.objs.size fa cdv)) → SimSs G (cxOf (L2.CX G.P G.w) G.P G.w G.K mg base N q (defScope st) fa cdv A outer s H E) f.M (defBody st) (f.m (callI T k) (callI T (k - 1)))) :
    FnOk G.P G.w G.K mg base (L2.CX G.P G.w) (k + 2) fa fd ps (spI G (callI T (k + 1) i) f.p) := by
  have e : callI T (k + 1) i = runB f (f.m (callI T k) (callI T (k - 1))) := by
    funext os
    rw [callI_succ, hf]
  rw [e]
  exact fn_ok f _ F S hN hp (fun j m => of_decide_eq_true (List.all_eq_true.mp hM j m)) hs
theorem len_fun (f : Fn) (hf : T i = f) (os : List O) (h : callI T (k + 1) i os ≠ .stuck) : os.length = f.p := by
  rw [callI_succ, hf] at h
  exact runB_len h
theorem call_succ (F : FnF G.K mg x q st ps) (S : FnScope N ps (defScope st)) (f : Fn) (hf : T i = f) (hN : N.length = f.n) (hp : ps.length = f.p) (hM : (f.M.all fun j => decide (j < f.p)) = true)
    (hs : ∀ fa cdv A outer s H E, Room (k + 1) (A.deeper (envOfC q (defScope st) s.heap.objs.size fa cdv)) → SimSs G (cxOf (L2.CX G.P G.w) G.P G.w G.K mg base N q (defScope st) fa cdv A outer s H E) f.M (defBody st) (f.m (callI T k) (callI T (k - 1)))) :
    CallOk G mg base (k + 2) x (callI T (k + 1) i) f.p := by
  obtain ⟨fa, fd, F, hm, hb⟩ := F
  exact ⟨fa, fd, ps, run_fun F S f hf hN hp hM (hs fa), hm, F.kp, hb, len_fun f hf⟩
theorem make_zero {lv : Nat} (F : InF G.K mg (G.ca c) x q st ps) (hp : ps.length = n) : MakeOk G mg base lv x c (callI T 0 i) n := by
  obtain ⟨fa, fd, F, hm, M, hb⟩ := F
  exact ⟨fa, fd, ps, fn_none hp _ callI_zero, hm, M, hb, fun os h => absurd (callI_zero os) h⟩
theorem make_succ (F : InF G.K mg (G.ca c) x q st ps) (S : FnScope N ps (defScope st)) (f : Fn) (hf : T i = f) (hN : N.length = f.n) (hp : ps.length = f.p) (hM : (f.M.all fun j => decide (j < f.p)) = true)
    (hs : ∀ fa cdv A outer s H E, Room (k + 1) (A.deeper (envOfC q (defScope st) s.heap.objs.size fa cdv)) → SimSs G (cxOf (L2.CX G.P G.w) G.P G.w G.K mg base N q (defScope st) fa cdv A outer s H E) f.M (defBody st) (f.m (callI T k) (callI T (k - 1)))) :
    MakeOk G mg base (k + 2) x c (callI T (k + 1) i) f.p := by
  obtain ⟨fa, fd, F, hm, M, hb⟩ := F
  exact ⟨fa, fd, ps, run_fun F S f hf hN hp hM (hs fa), hm, M, hb, len_fun f hf⟩
end
section
variable {K : PySem.W.Frag} {h : Heap} {mg : Str → Option Value} {f C : Addr} {x q : Str} {st : Stmt} {ps : List Str} {oc : Value} {od an : Option Addr} {osl : Array (Option Value)} {kV doc pm cdv ct : Value}
theorem fnF_mk (X : K.In h) (G : h.Ns mainGlobals mg) (b : ∀ (kV doc pm : Value) (an : Option Addr) (cdv ct : Value) (us : List Value), us.length = ps.length → bindArgs (PySem.W.fnOf x q (defArgs st) (defBody st) (defScope st) .none kV doc pm an cdv ct) ⟨us, []⟩ = pure (ps.zip us))
    (a : PySem.W.nsIn K mainGlobals x = some (some (.ref f))) (l : K.lookup f = some ⟨oc, od, .func (PySem.W.fnOf x q (defArgs st) (defBody st) (defScope st) .none kV doc pm an cdv ct), osl⟩) (c : PySem.W.codeIn K cdv q = true) (k : PySem.W.keepIn K (.ref f) = true) : FnF K mg x q st ps := by
  have F := fun_mk (st := st) l c k
  exact ⟨f, _, F, PySem.W.mg_of X G a, F.binds b⟩
theorem inF_mk (X : K.In h) (G : h.Ns mainGlobals mg) {xc : Str} (b : ∀ (kV doc pm : Value) (an : Option Addr) (cdv ct : Value) (us : List Value), us.length = ps.length → bindArgs (PySem.W.fnOf "__init__" q (defArgs st) (defBody st) (defScope st) .none kV doc pm an cdv ct) ⟨us, []⟩ = pure (ps.zip us))
    (aC : PySem.W.nsIn K mainGlobals xc = some (some (.ref C))) (mk : PySem.W.makesIn K C = true) (kc : PySem.W.keepIn K (.ref C) = true)
    (a : PySem.W.findIn K (.ref C) "__init__" = some (some (.ref f))) (i : PySem.W.isFn K (.ref f) = true) (l : K.lookup f = some ⟨oc, od, .func (PySem.W.fnOf "__init__" q (defArgs st) (defBody st) (defScope st) .none kV doc pm an cdv ct), osl⟩) (c : PySem.W.codeIn K cdv q = true) (k : PySem.W.keepIn K (.ref f) = true) : InF K mg C xc q st ps := by
  have F := fun_mk (st := st) l c k
  exact ⟨f, _, F, PySem.W.mg_of X G aC, ⟨mk, a, i, kc⟩, F.binds b⟩
end
def InL (f : Nat) : List Nat → Prop
  | [] => False
  | x :: xs => f = x ∨ InL f xs
theorem mem_of {f : Nat} : ∀ {l : List Nat}, f ∈ l → InL f l
  | [], m => nomatch m
  | x :: xs, m => (List.mem_cons.mp m).imp id mem_of
def caL (C : Addr) (l : List Addr) : Nat → Addr := fun c => l.getD c C
/-! ### constants that the top has written -/
def GV (K : PySem.W.Frag) (d : D) (u : Value) : Prop := ∀ (G : GC), G.K = K → ∀ Z, ∃ v, RepV G Z d v ∧ RelV v u
def GVs (K : PySem.W.Frag) : List D → List Value → Prop
  | [], us => us = []
  | d :: ds, us => ∃ u w, us = u :: w ∧ GV K d u ∧ GVs K ds w
section
variable {K : PySem.W.Frag}
theorem gv_int {i : Int} {t : Tok} : GV K (.int i) (.int i t) := fun G e Z => ⟨.int i, (by unfold RepV; rfl), ⟨t, rfl⟩⟩
theorem gv_str {x : Str} {t : Tok} : GV K (.str x) (.str x t) := fun G e Z => ⟨.str x, (by unfold RepV; rfl), ⟨t, rfl⟩⟩
theorem gv_bl {b : Bool} : GV K (.bl b) (.bool b) := fun G e Z => ⟨.bl b, (by unfold RepV; rfl), rfl⟩
theorem gv_non : GV K .non .none := fun G e Z => ⟨.non, (by unfold RepV; rfl), rfl⟩
theorem gvs_nil : GVs K [] [] := rfl
theorem gvs_cons {d : D} {ds : List D} {u : Value} {us : List Value} (h : GV K d u) (hs : GVs K ds us) : GVs K (d :: ds) (u :: us) := ⟨u, us, rfl, h, hs⟩
theorem gvs_of : ∀ {ds : List D} {us : List Value}, GVs K ds us → ∀ (G : GC), G.K = K → ∀ Z, ∃ vs, RepVs G Z ds vs ∧ Vals vs us
  | [], us, h, G, e, Z => ⟨[], (by unfold RepVs; rfl), (by unfold GVs at h; subst h; exact .nil)⟩
  | d :: ds, us, h, G, e, Z => by
    obtain ⟨u, w, rfl, h1, h2⟩ := h
    obtain ⟨v, a1, a2⟩ := h1 G e Z
    obtain ⟨vs, b1, b2⟩ := gvs_of h2 G e Z
    exact ⟨v :: vs, (by unfold RepVs; exact ⟨v, vs, rfl, a1, b1⟩), .cons a2 b2⟩
theorem gv_tup {a : Addr} {od : Option Addr} {its : List Value} {n : Nat} {sl : Array (Option Value)} {ds : List D} (l : K.lookup a = some ⟨.type "tuple", od, .seq its.toArray n, sl⟩) (hl : decide (its.length ≤ 1000) = true) (hs : GVs K ds its) : GV K (.tup ds) (.ref a) := fun G e Z => by
  obtain ⟨vs, h1, h2⟩ := gvs_of hs G e Z
  refine ⟨.ref a, ?_, rfl⟩
  unfold RepV
  refine ⟨a, vs, rfl, .inr ⟨_, its.toArray, n, (by rw [e]; exact l), rfl, rfl, ?_, (by simpa using h2)⟩, h1⟩
  have := of_decide_eq_true hl
  have e2 : its.toArray.size = its.length := List.size_toArray
  rw [e2, sizeLine_eq]
  omega
end
theorem gl_mk {K : PySem.W.Frag} {h : Heap} {mg : Str → Option Value} {x : Str} (X : K.In h) (G : h.Ns mainGlobals mg) {d : D} {u : Value} {GG : GC} (hK : GG.K = K) (a : PySem.W.nsIn K mainGlobals x = some (some u)) (g : GV K d u) : ∃ u, mg x = some u ∧ ∀ Z, ∃ v, RepV GG Z d v ∧ RelV v u :=
  ⟨u, PySem.W.mg_of X G a, g GG hK⟩
/-! ### the list that is handed in -/
theorem rep_ints {G : GC} {Z : Hp} : ∀ {ns : List Int}, RepVs G Z (ns.map .int) (ns.map .int)
  | [] => by unfold RepVs; rfl
  | n :: ns => by
    rw [List.map_cons, List.map_cons]
    unfold RepVs
    exact ⟨_, _, rfl, (by unfold RepV; rfl), rep_ints⟩
/-- the law's promise: True comes out -/
def spLaw (K : PySem.W.Frag) : Sp := fun vs H Q _ => ∃ (a : Addr) (ns : List Int), vs = [.ref a] ∧ SqL K H a (ns.map V.int) ∧ ns.length ≤ 63 ∧ (∀ z ∈ ns, Builtin.Int.intBits z ≤ 1048576) ∧ ∀ H', Q (.bl true) H'
/-- from the list that is handed in to the law's answer -/
theorem law_sp {G : GC} {f : FM} (hf : ∀ ns : List Int, ns.length ≤ 63 → (∀ z ∈ ns, Builtin.Int.intBits z ≤ 1048576) → ∃ outs, f [.val (.lst (ns.map .int))] = .ok (.val (.bl true)) outs) (vs : List V) (H : Hp) (Q : VK) (E : XK) (h : spLaw G.K vs H Q E) : spI G f 1 vs H Q E := by
  obtain ⟨a, ns, rfl, hS, hl, hbt, hQ⟩ := h
  obtain ⟨outs, hf⟩ := hf ns hl hbt
  have r1 : RepV G H (.lst (ns.map .int)) (.ref a) := by
    unfold RepV
    exact ⟨a, _, rfl, hS, rep_ints⟩
  refine ⟨rfl, H, [], [.val (.lst (ns.map .int))], .vals (ds := [.lst (ns.map .int)]) (by unfold RepVs; exact ⟨_, _, rfl, r1, (by unfold RepVs; rfl)⟩), ⟨.refl _, List.nodup_nil, fun _ m => nomatch m⟩, fun o outs' e v H' q => ?_, fun x outs' e => ?_, ?_⟩
  · rw [hf] at e; cases e
    obtain ⟨Z', E', F', d0, _⟩ := q
    unfold RepO RepV at d0
    rw [d0.1]
    exact hQ H'
  · rw [hf] at e; cases e
  · rw [hf]; exact fun z => nomatch z
theorem FnOk.weak {P : Program} {w : World} {K : PySem.W.Frag} {mg : Str → Option Value} {base : Heap} {CX : CXT} {k : Nat} {fa : Addr} {fd : FuncData} {ps : List Str} {sp sp2 : Sp} (F : FnOk P w K mg base CX k fa fd ps sp) (h : ∀ vs H Q E, sp2 vs H Q E → sp vs H Q E) : FnOk P w K mg base CX k fa fd ps sp2 :=
  ⟨fun vs H Q E z => F.1 vs H Q E (h vs H Q E z), fun A outer s H args us vs Q E a b c d z => F.2 A outer s H args us vs Q E a b c d (h vs H Q E z)⟩
theorem cx_no {P : Program} {w : World} {H : Hp} {s : Shared} {e : Value} {s' : Shared} (h : L2.CX P w [] H s (fun _ _ _ => False) e s') : False := by
  obtain ⟨_, _, _, _, _, _, _, _, _, _, _, _, h⟩ := h
  exact h
end PL
set_option Elab.async false
set_option linter.all false
set_option maxRecDepth 100000
set_option maxHeartbeats 1000000
/-! Small facts for the plain part. -/
namespace PL
open PySem PySem.Spec PyProof.Rows L2

theorem lt_big {n : Int} (h0 : 0 < n) (h : n < 1000000) : n.natAbs.log2 < 9000 := by
  have h1 : n.natAbs < 2 ^ 20 := by omega
  have h2 : n.natAbs ≠ 0 := by omega
  have := (Nat.log2_lt h2).mpr h1
  omega
theorem ixN_ok {n : Nat} {i : Int} (h0 : 0 ≤ i) (h : i < n) : L2.ixN n i = some i.toNat := by
  unfold L2.ixN
  rw [if_pos h0, if_pos h]
theorem atI_ok {α : Type} {l : List α} {i : Int} (h0 : 0 ≤ i) (h : i < l.length) : ∃ x, L2.atI l i = some x ∧ x ∈ l := by
  unfold L2.atI
  rw [ixN_ok h0 h]
  have h2 : i.toNat < l.length := by omega
  exact ⟨l[i.toNat], by simp [h2], List.getElem_mem h2⟩
theorem atI_nat {α : Type} {l : List α} {i : Nat} (h : i < l.length) : L2.atI l (i : Int) = l[i]? := by
  unfold L2.atI
  rw [ixN_ok (by omega) (by omega)]
  rfl
theorem at0 {α : Type} {x : α} {l : List α} : L2.atI (x :: l) 0 = some x := by
  unfold L2.atI
  rw [ixN_ok (by omega) (by simp)]; rfl
theorem at1 {α : Type} {x y : α} {l : List α} : L2.atI (x :: y :: l) 1 = some y := by
  unfold L2.atI
  rw [ixN_ok (by omega) (by simp; omega)]; rfl
theorem at2 {α : Type} {x y z : α} {l : List α} : L2.atI (x :: y :: z :: l) 2 = some z := by
  unfold L2.atI
  rw [ixN_ok (by omega) (by simp; omega)]; rfl
theorem at3 {α : Type} {x y z u : α} {l : List α} : L2.atI (x :: y :: z :: u :: l) 3 = some u := by
  unfold L2.atI
  rw [ixN_ok (by omega) (by simp; omega)]; rfl
theorem ixN_30 : L2.ixN 3 0 = some 0 := rfl
theorem ixN_32 : L2.ixN 3 2 = some 2 := rfl
/-! ### equality -/
theorem ok_int {i : Int} : okD (.int i) = true := by unfold okD; simp only [seqD, toP]; rfl
theorem ok_bl {i : Bool} : okD (.bl i) = true := by unfold okD; simp only [seqD, toP]; rfl
theorem ok_non : okD .non = true := by unfold okD; simp only [seqD, toP]; rfl
theorem eqX_int {i j : Int} : eqX (.int i) (.int j) = some (.val (.bl (decide (i = j)))) := by
  unfold eqX orD eqD
  rw [ok_int, ok_int]
  simp only [Bool.and_self, if_true, toP, PyData.eqv]
  rfl
theorem eqX_bl {i j : Bool} : eqX (.bl i) (.bl j) = some (.val (.bl (decide (i = j)))) := by
  unfold eqX orD eqD
  rw [ok_bl, ok_bl]
  simp only [Bool.and_self, if_true, toP, PyData.eqv]
  rfl
theorem neD_int {i j : Int} : neD (.int i) (.int j) = some (.val (.bl (!decide (i = j)))) := by
  unfold neD
  rw [ok_int, ok_int]
  simp only [Bool.and_self, if_true, toP, PyData.eqv]
  rfl
theorem eqX_str {i j : Str} (h : okD (.str i) = true) (h2 : okD (.str j) = true) : eqX (.str i) (.str j) = some (.val (.bl (i == j))) := by
  unfold eqX orD eqD
  rw [h, h2]
  simp only [Bool.and_self, if_true, toP, PyData.eqv]
end PL
namespace PL
open PySem PySem.Spec PyProof.Rows L2
/-! ### loops -/
theorem loop_nx {a : AM} {b : SM} (P : List D → Env → Prop) (step : ∀ d ds r, P (d :: ds) r → ∃ r1 r2, a d r = some r1 ∧ b r1 = .nx r2 ∧ P ds r2) : ∀ ds r, P ds r → ∃ r', loopF a b ds r = .nx r' ∧ P [] r'
  | [], r, h => ⟨r, rfl, h⟩
  | d :: ds, r, h => by
    obtain ⟨r1, r2, e1, e2, h2⟩ := step d ds r h
    obtain ⟨r', e3, h3⟩ := loop_nx P step ds r2 h2
    refine ⟨r', ?_, h3⟩
    unfold loopF
    rw [e1]
    dsimp only
    rw [e2]
    exact e3
/-- a loop that may return -/
theorem loop_ret {a : AM} {b : SM} (P : List D → Env → Prop) (R : O → Env → Prop) (step : ∀ d ds r, P (d :: ds) r → ∃ r1, a d r = some r1 ∧ ((∃ r2, b r1 = .nx r2 ∧ P ds r2) ∨ ∃ o r2, b r1 = .ret o r2 ∧ R o r2)) : ∀ ds r, P ds r → (∃ r', loopF a b ds r = .nx r' ∧ P [] r') ∨ ∃ o r', loopF a b ds r = .ret o r' ∧ R o r'
  | [], r, h => .inl ⟨r, rfl, h⟩
  | d :: ds, r, h => by
    obtain ⟨r1, e1, h2⟩ := step d ds r h
    unfold loopF
    rw [e1]
    dsimp only
    rcases h2 with ⟨r2, e2, h2⟩ | ⟨o, r2, e2, h2⟩
    · rw [e2]
      exact loop_ret P R step ds r2 h2
    · rw [e2]
      exact .inr ⟨o, r2, rfl, h2⟩
theorem loop_nil {a : AM} {b : SM} {r : Env} : loopF a b [] r = .nx r := rfl
theorem loop_cons {a : AM} {b : SM} {d : D} {ds : List D} {r r1 : Env} (h : a d r = some r1) : loopF a b (d :: ds) r = (match b r1 with
      | .nx r2 => loopF a b ds r2
      | .ct r2 => loopF a b ds r2
      | .brk r2 => .nx r2
      | o => o) := by
  simp only [loopF, h]
  all_goals (cases b r1 <;> rfl)
/-! ### lists of ints -/
def intsO (l : List Int) : O := .lst (l.map fun i => .val (.int i))
def intsD (l : List Int) : D := .lst (l.map .int)
theorem frzs_vals : ∀ ds : List D, frzs (ds.map .val) = ds
  | [] => by rw [List.map_nil, frzs]
  | d :: ds => by rw [List.map_cons, frzs, frz, frzs_vals ds]
theorem frzs_ints (l : List Int) : frzs (l.map fun i => .val (.int i)) = l.map .int := by
  have e : (l.map fun i => O.val (.int i)) = (l.map D.int).map O.val := by rw [List.map_map]; rfl
  rw [e, frzs_vals]
theorem frz_ints (l : List Int) : frz (intsO l) = intsD l := by
  unfold intsO intsD
  rw [frz, frzs_ints]
theorem rng_mem {n : Nat} {d : D} (h : d ∈ rngD n) : ∃ j : Nat, d = .int j ∧ j < n := by
  unfold rngD at h
  obtain ⟨j, h1, rfl⟩ := List.mem_map.mp h
  exact ⟨j, rfl, List.mem_range.mp h1⟩
theorem rng_len (n : Nat) : (rngD n).length = n := by
  unfold rngD
  rw [List.length_map, List.length_range]
theorem lenOk_lt {n : Nat} (h : n < 16777217) : lenOk n = true := decide_eq_true (by omega)
/-! ### wide products -/
theorem log_lt {z : Int} {a : Nat} (h : z.natAbs < 2 ^ a) : z.natAbs.log2 ≤ a := by
  by_cases e : z.natAbs = 0
  · rw [e]; exact Nat.zero_le _
  · exact Nat.le_of_lt ((Nat.log2_lt e).mpr h)
theorem mulC_bits {i j : Int} {a b : Nat} (hi : i.natAbs < 2 ^ a) (hj : j.natAbs < 2 ^ b) (h : a + b < 134000000) : mulC i j = true := by
  unfold mulC
  have h1 := log_lt hi
  have h2 := log_lt hj
  exact decide_eq_true (by omega)
theorem bits_lt {z : Int} {n : Nat} (h : Builtin.Int.intBits z ≤ n) : z.natAbs < 2 ^ n := by
  unfold Builtin.Int.intBits at h
  by_cases e : z.natAbs = 0
  · rw [e]; exact Nat.two_pow_pos n
  · have h2 : z.natAbs.log2 < n := by
      have h3 : (z == 0) = false := by
        rw [beq_eq_false_iff_ne]
        omega
      rw [h3] at h
      simp only [Bool.false_eq_true, if_false] at h
      omega
    exact (Nat.log2_lt e).mp h2
theorem mulX_int {i j : Int} (h : mulC i j = true) : mulX (.int i) (.int j) = some (.val (.int (i * j))) := by
  simp only [mulX, orD, mulD, intD, h, if_true]
theorem kit_ii : L2.kitB "int" "int" = some true := by decide +kernel
theorem kit_it : L2.kitB "tuple" "int" = some false := by decide +kernel
theorem kit_bb : L2.kitB "bool" "bool" = some true := by decide +kernel
theorem isi_i {i : Int} : isiD "int" (.int i) = some (.val (.bl true)) := by
  simp only [isiD, tyD, kit_ii, Option.map]
theorem isi_t {ds : List D} : isiD "int" (.tup ds) = some (.val (.bl false)) := by
  simp only [isiD, tyD, kit_it, Option.map]
theorem isi_b {b : Bool} : isiD "bool" (.bl b) = some (.val (.bl true)) := by
  simp only [isiD, tyD, kit_bb, Option.map]
/-! ### comprehensions -/
theorem lc_map {own : List Nat} {a : AM} {m : EM} (g : D → O) {r : Env} : ∀ {ds : List D}, (∀ d ∈ ds, ∃ r1 r3, a d r = some r1 ∧ m r1 = .ok (g d) r3 ∧ wipeE r3 own = r) → loopC own a mYes m ds r = .ok (ds.map g) r
  | [], _ => rfl
  | d :: ds, h => by
    obtain ⟨r1, r3, e1, e2, e3⟩ := h d (List.mem_cons_self ..)
    have ih := lc_map (own := own) (a := a) (m := m) g (r := r) (ds := ds) fun d m => h d (List.mem_cons_of_mem _ m)
    simp only [loopC, e1, mYes, e2, e3, ih, List.map_cons]
theorem lc_inv {own : List Nat} {a : AM} {m : EM} (P : Env → Prop) (Q : O → Prop) : ∀ {ds : List D} {r : Env}, (∀ d ∈ ds, ∀ r, P r → ∃ r1 o r3, a d r = some r1 ∧ m r1 = .ok o r3 ∧ P (wipeE r3 own) ∧ Q o) → P r → ∃ os r', loopC own a mYes m ds r = .ok os r' ∧ P r' ∧ os.length = ds.length ∧ ∀ o ∈ os, Q o
  | [], r, _, hp => ⟨[], r, rfl, hp, rfl, fun _ m => nomatch m⟩
  | d :: ds, r, h, hp => by
    obtain ⟨r1, o, r3, e1, e2, e3, e4⟩ := h d (List.mem_cons_self ..) r hp
    obtain ⟨os, r', e5, e6, e7, e8⟩ := lc_inv (own := own) (a := a) (m := m) P Q (ds := ds) (fun d m => h d (List.mem_cons_of_mem _ m)) e3
    refine ⟨o :: os, r', ?_, e6, by rw [List.length_cons, List.length_cons, e7], fun q mq => ?_⟩
    · simp only [loopC, e1, mYes, e2, e5]
    · rcases List.mem_cons.mp mq with rfl | mq
      · exact e4
      · exact e8 q mq
theorem blsD_map {α : Type} (g : α → Bool) : ∀ l : List α, blsD (l.map fun x => .bl (g x)) = some (l.map g)
  | [] => rfl
  | x :: l => by
    rw [List.map_cons, blsD, blsD_map g l]; rfl
theorem rng0 : rngD 0 = [] := rfl
theorem rng1 : rngD 1 = [.int 0] := rfl
def outF (M : List Nat) (p : Nat) : Out → Rf
  | .nx r => .ok (.val .non) (maskE M 0 p r)
  | .ret o r => .ok o (maskE M 0 p r)
  | .exc x r => .exc x (maskE M 0 p r)
  | _ => .stuck
theorem run_eq {n p : Nat} {M : List Nat} {f m : (Nat → FM) → (Nat → FM) → SM} {cf cg : Nat → FM} {os : List O} (env : Env) (h1 : os.length = p) (h2 : os.map some ++ List.replicate (n - p) none = env) : runB ⟨n, p, M, f⟩ (m cf cg) os = outF M p (m cf cg env) := by
  unfold runB
  rw [if_pos h1, h2]
  unfold outF
  cases m cf cg env <;> rfl
theorem ixX_t {ds : List D} {i : Int} : ixX (.tup ds) (.int i) = (L2.atI ds i).map .val := by
  unfold ixX orD ixD
  dsimp only
  cases L2.atI ds i <;> rfl
theorem ixX_l {ds : List D} {i : Int} : ixX (.lst ds) (.int i) = (L2.atI ds i).map .val := by
  unfold ixX orD ixD
  dsimp only
  cases L2.atI ds i <;> rfl
end PL
set_option Elab.async false
set_option linter.all false
set_option maxRecDepth 100000
set_option maxHeartbeats 4000000
namespace K63
open PySem PySem.Spec PyProof.Rows L2 PL
def FID : Nat → List Nat := fun c => match c with | 0 => [0, 1] | _ => []
def FNM : Nat → Str := fun f => match f with | 0 => "size" | 1 => "tables" | _ => "?"
abbrev GG (P : Program) (w : World) (K : PySem.W.Frag) (ca : Nat → Addr) : GC := ⟨P, w, K, ca, FID, FNM⟩
def g_TRUTH : D := (.tup [(.tup [(.int 0), (.int 0), (.int 0)]), (.tup [])])
def g_JOINTS : D := (.tup [(.str "and"), (.str "or"), (.str "implies"), (.str "iff")])
/-! the defs as terms -/
def m0 (w : World) (cf cg : Nat → FM) : SM :=
  (mRet (mOp1 (isiD "int") (oV (mSlot 0))))
def b1_0 (w : World) (cf cg : Nat → FM) : SM :=
  (mSet 3 (mOp2 addD (oV (mOp2 mulX (oP FID 3 []) (oP FID 1 [0]))) (oV (mCallF (cf 1) (mCons (mSlot 4) (mCons (mSlot 1) (mCons (mSlot 2) mNil)))))))
def m1 (w : World) (cf cg : Nat → FM) : SM :=
  (mSeq (mIfS (mTr truD (oV (mCallF (cf 0) (mCons (mSlot 0) mNil)))) (mRet (mOp2 ixX (oP FID 2 []) (oP FID 0 []))) mSkip)
  (mSeq (mIfS (mTst (mOp2 eqX (oP FID 0 []) (oV (mCon g_TRUTH)))) (mRet (mCon (.int 1))) mSkip)
  (mSeq (mSet 3 (mCon (.int 0)))
  (mSeq (mFor (mIt (mOp2 ixX (oP FID 0 []) (oV (mCon (.int 1))))) (aName 4) (b1_0 w cf cg))
  (mRet (mOp2 ixX (oV (mOp2 ixX (oP FID 1 [1]) (oV (mTup (mCons (mOp2 ixX (oP FID 0 []) (oV (mCon (.int 0)))) (mCons (mOp1 lenD (oV (mOp2 ixX (oP FID 0 []) (oV (mCon (.int 1)))))) mNil)))))) (oP FID 3 [])))))))
def m2 (w : World) (cf cg : Nat → FM) : SM :=
  (mSeq (mIfS (mTst (mOp2 eqX (oP FID 0 []) (oV (mCon (.str "and"))))) (mRet (mAndV (mSlot 1) (mSlot 2))) mSkip)
  (mSeq (mIfS (mTst (mOp2 eqX (oP FID 0 []) (oV (mCon (.str "or"))))) (mRet (mOrV (mSlot 1) (mSlot 2))) mSkip)
  (mSeq (mIfS (mTst (mOp2 eqX (oP FID 0 []) (oV (mCon (.str "implies"))))) (mRet (mOrV (mSlot 2) (mNotV (mSlot 1)))) mSkip)
  (mRet (mOp2 eqX (oP FID 1 []) (oP FID 2 []))))))
def b3_0 (w : World) (cf cg : Nat → FM) : SM :=
  (mSeq (mSet 7 (mOp1 (dctF w) (oP FID 2 [])))
  (mSeq (mPut FID 7 [] (oV (mOp2 ixX (oP FID 0 []) (oV (mCon (.int 1))))) (mSlot 6))
  (mIfS (mTst (mOp2 eqX (oV (mCallF (cf 3) (mCons (mOp2 ixX (oP FID 0 []) (oV (mCon (.int 2)))) (mCons (mSlot 1) (mCons (mSlot 7) mNil))))) (oV (mOp2 eqX (oP FID 3 []) (oV (mCon (.str "some"))))))) (mRet (mOp2 eqX (oP FID 3 []) (oV (mCon (.str "some"))))) mSkip)))
def m3 (w : World) (cf cg : Nat → FM) : SM :=
  (mSeq (mSet 3 (mOp2 ixX (oP FID 0 []) (oV (mCon (.int 0)))))
  (mSeq (mIfS (mTst (mOp2 eqX (oP FID 3 []) (oV (mCon (.str "atom"))))) (mRet (mOp2 eqX (oV (mCallF (cf 1) (mCons (mOp2 ixX (oP FID 0 []) (oV (mCon (.int 1)))) (mCons (mSlot 1) (mCons (mSlot 2) mNil))))) (oV (mCon (.int 1))))) mSkip)
  (mSeq (mIfS (mTst (mOp2 eqX (oP FID 3 []) (oV (mCon (.str "equal"))))) (mRet (mOp2 eqX (oV (mCallF (cf 1) (mCons (mOp2 ixX (oP FID 0 []) (oV (mCon (.int 1)))) (mCons (mSlot 1) (mCons (mSlot 2) mNil))))) (oV (mCallF (cf 1) (mCons (mOp2 ixX (oP FID 0 []) (oV (mCon (.int 2)))) (mCons (mSlot 1) (mCons (mSlot 2) mNil))))))) mSkip)
  (mSeq (mIfS (mTst (mOp2 eqX (oP FID 3 []) (oV (mCon (.str "not"))))) (mRet (mNotV (mCallF (cf 3) (mCons (mOp2 ixX (oP FID 0 []) (oV (mCon (.int 1)))) (mCons (mSlot 1) (mCons (mSlot 2) mNil)))))) mSkip)
  (mSeq (mIfS (mTst (mOp2 (inX false) (oP FID 3 []) (oV (mCon g_JOINTS)))) (mSeq (mSet 4 (mCallF (cf 3) (mCons (mOp2 ixX (oP FID 0 []) (oV (mCon (.int 1)))) (mCons (mSlot 1) (mCons (mSlot 2) mNil)))))
  (mSeq (mSet 5 (mCallF (cf 3) (mCons (mOp2 ixX (oP FID 0 []) (oV (mCon (.int 2)))) (mCons (mSlot 1) (mCons (mSlot 2) mNil)))))
  (mRet (mCallF (cf 2) (mCons (mSlot 3) (mCons (mSlot 4) (mCons (mSlot 5) mNil))))))) mSkip)
  (mSeq (mFor (mRng (oP FID 1 [0])) (aName 6) (b3_0 w cf cg))
  (mRet (mOp2 eqX (oP FID 3 []) (oV (mCon (.str "all")))))))))))
def m4 (w : World) (cf cg : Nat → FM) : SM :=
  (mRet (mCallF (cf 3) (mCons (mSlot 0) (mCons (mSlot 1) (mCons mDnew mNil)))))
def b5_0 (w : World) (cf cg : Nat → FM) : SM :=
  (mDrop (mCall (cf 5) [none, some 1] (xIn (mSlot 3) (xIo 1 xNil))))
def m5 (w : World) (cf cg : Nat → FM) : SM :=
  (mSeq (mIfS (mTr truD (oV (mCallF (cf 0) (mCons (mSlot 0) mNil)))) mRetN mSkip)
  (mSeq (mSet 2 (mTup (mCons (mOp2 ixX (oP FID 0 []) (oV (mCon (.int 0)))) (mCons (mOp1 lenD (oV (mOp2 ixX (oP FID 0 []) (oV (mCon (.int 1)))))) mNil))))
  (mSeq (mIfS (mAnd (mTst (mOp2 neD (oP FID 0 []) (oV (mCon g_TRUTH)))) (mTst (mOp2 (inX true) (oP FID 2 []) (oP FID 1 [])))) (mDrop (mApp FID 1 [] (mSlot 2))) mSkip)
  (mFor (mIt (mOp2 ixX (oP FID 0 []) (oV (mCon (.int 1))))) (aName 3) (b5_0 w cf cg)))))
def b6_0 (w : World) (cf cg : Nat → FM) : SM :=
  (mDrop (mCall (cf 5) [none, some 1] (xIn (mSlot 3) (xIo 1 xNil))))
def m6 (w : World) (cf cg : Nat → FM) : SM :=
  (mSeq (mSet 2 (mOp2 ixX (oP FID 0 []) (oV (mCon (.int 0)))))
  (mIfS (mOr (mTst (mOp2 eqX (oP FID 2 []) (oV (mCon (.str "atom"))))) (mTst (mOp2 eqX (oP FID 2 []) (oV (mCon (.str "equal")))))) (mFor (mIt (mSl (oP FID 0 []) (pSome (oV (mCon (.int 1)))) pNone)) (aName 3) (b6_0 w cf cg)) (mIfS (mTst (mOp2 (inX false) (oP FID 2 []) (oV (mCon g_JOINTS)))) (mSeq (mDrop (mCall (cf 6) [none, some 1] (xIn (mOp2 ixX (oP FID 0 []) (oV (mCon (.int 1)))) (xIo 1 xNil))))
  (mDrop (mCall (cf 6) [none, some 1] (xIn (mOp2 ixX (oP FID 0 []) (oV (mCon (.int 2)))) (xIo 1 xNil))))) (mDrop (mCall (cf 6) [none, some 1] (xIn (mOp2 ixX (oP FID 0 []) (oV (mOp2 subD (oV (mOp1 lenD (oP FID 0 []))) (oV (mCon (.int 1)))))) (xIo 1 xNil)))))))
def b7_0 (w : World) (cf cg : Nat → FM) : SM :=
  (mDrop (mCall (cf 6) [none, some 1] (xIn (mSlot 2) (xIo 1 xNil))))
def m7 (w : World) (cf cg : Nat → FM) : SM :=
  (mSeq (mSet 1 (mLst mNil))
  (mSeq (mFor (mIt (mSlot 0)) (aName 2) (b7_0 w cf cg))
  (mRet (mTake 1))))
def m8 (w : World) (cf cg : Nat → FM) : SM :=
  (mSeq (mSetF FID 0 [] 0 (mSlot 1))
  (mSetF FID 0 [] 1 (mDcD FID [3] 2 [] (aName 3) mYes (oV (mSlot 3)) (mOp2 ixX (oP FID 2 []) (oP FID 3 [])))))
def m9 (w : World) (cf cg : Nat → FM) : SM :=
  (mRet (mOp2 (inX false) (oV (mOp2 ixX (oP FID 0 []) (oV (mCon (.int 0))))) (oV (mTup (mCons (mCon (.int 2)) (mCons (mCon (.int 3)) mNil))))))
def b10_0 (w : World) (cf cg : Nat → FM) : SM :=
  (mSet 2 (mOp2 mulX (oP FID 2 []) (oP FID 0 [])))
def m10 (w : World) (cf cg : Nat → FM) : SM :=
  (mSeq (mSet 2 (mCon (.int 1)))
  (mSeq (mFor (mRng (oP FID 1 [])) (aName 3) (b10_0 w cf cg))
  (mRet (mTake 2))))
def m11 (w : World) (cf cg : Nat → FM) : SM :=
  (mSeq (mIfS (mTr truD (oV (mCallF (cf 9) (mCons (mSlot 0) mNil)))) (mRet (mTake 1)) mSkip)
  (mRet (mCon (.int 2))))
def e12_0 (w : World) (cf cg : Nat → FM) : EM :=
  (mChain leD ltD (oV (mCon (.int 0))) (oV (mSlot 4)) (oV (mCallF (cf 11) (mCons (mSlot 0) (mCons (mSlot 3) mNil)))))
def m12 (w : World) (cf cg : Nat → FM) : SM :=
  (mSeq (mIfS (mTst (mOp2 neD (oV (mOp1 lenD (oP FID 2 []))) (oV (mCallF (cf 10) (mCons (mSlot 3) (mCons (mSlot 1) mNil)))))) (mRet (mCon (.bl false))) mSkip)
  (mRet (mOp1 allF (oV (mLc [4] (mIt (mSlot 2)) (aName 4) mYes (e12_0 w cf cg))))))
def e13_0 (w : World) (cf cg : Nat → FM) : EM :=
  (mCallF (cf 4) (mCons (mSlot 7) (mCons (mSlot 5) mNil)))
def b13_1 (w : World) (cf cg : Nat → FM) : SM :=
  (mIfS (mTst (mOp2 (inX true) (oV (mTup (mCons (mSlot 2) (mCons (mSlot 3) mNil)))) (oP FID 4 []))) (mPut FID 4 [] (oV (mTup (mCons (mSlot 2) (mCons (mSlot 3) mNil)))) (mOp2 mulX (oV (mTup (mCons (mCon (.int 0)) mNil))) (oV (mCallF (cf 10) (mCons (mRd FID 0 [0]) (mCons (mSlot 3) mNil)))))) mSkip)
def b13_2 (w : World) (cf cg : Nat → FM) : SM :=
  (mIfS (mNot (mTr truD (oV (mCallF (cf 12) (mCons (mSlot 2) (mCons (mSlot 3) (mCons (mOp2 ixX (oP FID 0 [1]) (oV (mTup (mCons (mSlot 2) (mCons (mSlot 3) mNil))))) (mCons (mRd FID 0 [0]) mNil)))))))) (mRet (mCon (.bl false))) mSkip)
def m13 (w : World) (cf cg : Nat → FM) : SM :=
  (mSeq (mIfS (mTst (mOp2 ltD (oP FID 0 [0]) (oV (mCon (.int 1))))) (mRet (mCon (.bl false))) mSkip)
  (mSeq (mForD FID 0 [1] (aTup (aCons (aName 2) (aCons (aName 3) aNil))) (b13_2 w cf cg))
  (mSeq (mSet 4 (mDcD FID [6] 0 [1] (aName 6) mYes (oV (mSlot 6)) (mOp2 ixX (oP FID 0 [1]) (oP FID 6 []))))
  (mSeq (mFor (mIt (mCallF (cf 7) (mCons (mSlot 1) mNil))) (aTup (aCons (aName 2) (aCons (aName 3) aNil))) (b13_1 w cf cg))
  (mSeq (mSet 5 (mMake (cg 8) 0 (mCons (mRd FID 0 [0]) (mCons (mSlot 4) mNil))))
  (mRet (mOp1 allF (oV (mLc [7] (mIt (mSlot 1)) (aName 7) mYes (e13_0 w cf cg))))))))))
def b14_0 (w : World) (cf cg : Nat → FM) : SM :=
  (mSeq (mSet 4 (mCon (.int 0)))
  (mSeq (mIfS (mTst (mOp2 gtD (oV (mOp1 lenD (oP FID 0 []))) (oV (mCon (.int 0))))) (mSet 4 (mOp1 intF (oV (mOp2 ixX (oP FID 0 []) (oV (mOp2 modD (oV (mOp1 intF (oP FID 3 []))) (oV (mOp1 lenD (oP FID 0 []))))))))) mSkip)
  (mSeq (mIfS (mTst (mOp2 ltD (oP FID 4 []) (oV (mCon (.int 0))))) (mSet 4 (mOp2 subD (oV (mCon (.int 1))) (oV (mOp2 mulX (oV (mCon (.int 2))) (oP FID 4 []))))) mSkip)
  (mSeq (mIfS (mOr (mTst (mOp2 geD (oP FID 3 []) (oV (mOp1 lenD (oP FID 0 []))))) (mTst (mOp2 ltD (oP FID 4 []) (oV (mCon (.int 1000000000)))))) (mSeq (mSet 4 (mOp2 modD (oV (mOp1 intF (oV (mOp2 mulX (oV (mOp2 addD (oV (mOp2 addD (oP FID 4 []) (oV (mOp2 mulX (oV (mCon (.int 977))) (oP FID 3 []))))) (oV (mCon (.int 5))))) (oV (mCon (.int 69621))))))) (oV (mCon (.int 2147483647)))))
  (mSet 4 (mOp2 modD (oV (mOp1 intF (oV (mOp2 mulX (oV (mOp2 addD (oV (mOp2 addD (oP FID 4 []) (oV (mOp2 mulX (oV (mCon (.int 31))) (oP FID 3 []))))) (oV (mCon (.int 11))))) (oV (mCon (.int 1099511628211))))))) (oV (mCon (.int 18446744073709551557)))))) mSkip)
  (mDrop (mApp FID 2 [] (mSlot 4)))))))
def m14 (w : World) (cf cg : Nat → FM) : SM :=
  (mSeq (mSet 2 (mLst mNil))
  (mSeq (mFor (mRng (oP FID 1 [])) (aName 3) (b14_0 w cf cg))
  (mRet (mTake 2))))
def m15 (w : World) (cf cg : Nat → FM) : SM :=
  (mSeq (mIfS (mTst (mOp2 ltD (oV (mOp2 ixX (oP FID 0 []) (oV (mCon (.int 0))))) (oP FID 1 []))) (mSeq (mPut FID 0 [] (oV (mCon (.int 2))) (mOp2 addD (oV (mOp2 ixX (oP FID 0 []) (oV (mCon (.int 2))))) (oV (mCon (.int 1)))))
  (mPut FID 0 [] (oV (mCon (.int 0))) (mOp2 addD (oV (mOp2 ixX (oP FID 0 []) (oV (mCon (.int 0))))) (oV (mOp2 ixX (oV (mOp2 ixX (oP FID 0 []) (oV (mCon (.int 1))))) (oV (mOp2 modD (oV (mOp1 intF (oV (mOp2 ixX (oP FID 0 []) (oV (mCon (.int 2))))))) (oV (mOp1 lenD (oV (mOp2 ixX (oP FID 0 []) (oV (mCon (.int 1)))))))))))))) mSkip)
  (mSeq (mSet 2 (mOp2 modD (oV (mOp1 intF (oV (mOp2 ixX (oP FID 0 []) (oV (mCon (.int 0))))))) (oP FID 1 [])))
  (mSeq (mPut FID 0 [] (oV (mCon (.int 0))) (mOp2 divD (oV (mOp2 ixX (oP FID 0 []) (oV (mCon (.int 0))))) (oP FID 1 [])))
  (mRet (mTake 2)))))
def m16 (w : World) (cf cg : Nat → FM) : SM :=
  (mSeq (mSet 1 (mCallF (cf 14) (mCons (mSlot 0) (mCons (mCon (.int 64)) mNil))))
  (mRet (mLst (mCons (mOp2 ixX (oP FID 1 []) (oV (mCon (.int 0)))) (mCons (mSlot 1) (mCons (mCon (.int 0)) mNil))))))
def m17 (w : World) (cf cg : Nat → FM) : SM :=
  (mSeq (mSet 3 (mCall (cf 15) [some 0, none] (xIo 0 (xIn (mCon (.int 4)) xNil))))
  (mSeq (mIfS (mAnd (mTst (mOp2 ltD (oP FID 3 []) (oV (mCon (.int 2))))) (mTst (mOp2 gtD (oP FID 2 []) (oV (mCon (.int 0)))))) (mRet (mCall (cf 15) [some 0, none] (xIo 0 (xIn (mSlot 2) xNil)))) mSkip)
  (mSeq (mIfS (mAnd (mTst (mOp2 eqX (oP FID 3 []) (oV (mCon (.int 3))))) (mTst (mOp2 gtD (oP FID 1 []) (oV (mCon (.int 0)))))) (mRet (mTup (mCons (mTup (mCons (mCon (.int 2)) (mCons (mCon (.int 2)) (mCons (mCon (.int 0)) mNil)))) (mCons (mTup (mCons (mCall (cf 17) [some 0, none, none] (xIo 0 (xIn (mOp2 subD (oP FID 1 []) (oV (mCon (.int 1)))) (xIn (mSlot 2) xNil)))) mNil)) mNil)))) mSkip)
  (mRet (mTup (mCons (mTup (mCons (mCon (.int 2)) (mCons (mCall (cf 15) [some 0, none] (xIo 0 (xIn (mCon (.int 2)) xNil))) (mCons (mCon (.int 0)) mNil)))) (mCons (mTup mNil) mNil)))))))
def m18 (w : World) (cf cg : Nat → FM) : SM :=
  (mSeq (mSet 3 (mCall (cf 15) [some 0, none] (xIo 0 (xIn (mCon (.int 9)) xNil))))
  (mSeq (mIfS (mOr (mTst (mOp2 eqX (oP FID 1 []) (oV (mCon (.int 0))))) (mTst (mOp2 ltD (oP FID 3 []) (oV (mCon (.int 3)))))) (mSeq (mSet 4 (mCall (cf 15) [some 0, none] (xIo 0 (xIn (mCon (.int 4)) xNil))))
  (mSeq (mIfS (mTst (mOp2 eqX (oP FID 4 []) (oV (mCon (.int 0))))) (mRet (mTup (mCons (mCon (.str "atom")) (mCons (mTup (mCons (mTup (mCons (mCon (.int 1)) (mCons (mCon (.int 4)) (mCons (mCon (.int 0)) mNil)))) (mCons (mTup mNil) mNil))) mNil)))) mSkip)
  (mSeq (mIfS (mTst (mOp2 eqX (oP FID 4 []) (oV (mCon (.int 1))))) (mRet (mTup (mCons (mCon (.str "equal")) (mCons (mCall (cf 17) [some 0, none, none] (xIo 0 (xIn (mCon (.int 1)) (xIn (mSlot 2) xNil)))) (mCons (mCall (cf 17) [some 0, none, none] (xIo 0 (xIn (mCon (.int 1)) (xIn (mSlot 2) xNil)))) mNil))))) mSkip)
  (mRet (mTup (mCons (mCon (.str "atom")) (mCons (mTup (mCons (mTup (mCons (mCon (.int 1)) (mCons (mCon (.int 5)) (mCons (mCon (.int 0)) mNil)))) (mCons (mTup (mCons (mCall (cf 17) [some 0, none, none] (xIo 0 (xIn (mCon (.int 1)) (xIn (mSlot 2) xNil)))) mNil)) mNil))) mNil))))))) mSkip)
  (mSeq (mIfS (mTst (mOp2 eqX (oP FID 3 []) (oV (mCon (.int 3))))) (mRet (mTup (mCons (mCon (.str "not")) (mCons (mCall (cf 18) [some 0, none, none] (xIo 0 (xIn (mOp2 subD (oP FID 1 []) (oV (mCon (.int 1)))) (xIn (mSlot 2) xNil)))) mNil)))) mSkip)
  (mSeq (mIfS (mTst (mOp2 ltD (oP FID 3 []) (oV (mCon (.int 6))))) (mRet (mTup (mCons (mOp2 ixX (oV (mTup (mCons (mCon (.str "all")) (mCons (mCon (.str "some")) mNil)))) (oV (mCall (cf 15) [some 0, none] (xIo 0 (xIn (mCon (.int 2)) xNil))))) (mCons (mSlot 2) (mCons (mCall (cf 18) [some 0, none, none] (xIo 0 (xIn (mOp2 subD (oP FID 1 []) (oV (mCon (.int 1)))) (xIn (mOp2 addD (oP FID 2 []) (oV (mCon (.int 1)))) xNil)))) mNil))))) mSkip)
  (mSeq (mSet 5 (mOp2 ixX (oV (mTup (mCons (mCon (.str "and")) (mCons (mCon (.str "or")) (mCons (mCon (.str "implies")) (mCons (mCon (.str "iff")) mNil)))))) (oV (mCall (cf 15) [some 0, none] (xIo 0 (xIn (mCon (.int 4)) xNil))))))
  (mRet (mTup (mCons (mSlot 5) (mCons (mCall (cf 18) [some 0, none, none] (xIo 0 (xIn (mOp2 subD (oP FID 1 []) (oV (mCon (.int 1)))) (xIn (mSlot 2) xNil)))) (mCons (mCall (cf 18) [some 0, none, none] (xIo 0 (xIn (mOp2 subD (oP FID 1 []) (oV (mCon (.int 1)))) (xIn (mSlot 2) xNil)))) mNil))))))))))
def b19_0 (w : World) (cf cg : Nat → FM) : SM :=
  (mSet 4 (mOp2 addD (oV (mOp2 mulX (oP FID 4 []) (oP FID 2 []))) (oV (mCallF (cf 19) (mCons (mSlot 5) (mCons (mSlot 1) (mCons (mSlot 2) (mCons (mSlot 3) mNil))))))))
def m19 (w : World) (cf cg : Nat → FM) : SM :=
  (mSeq (mIfS (mTr truD (oV (mOp1 (isiD "int") (oV (mSlot 0))))) (mRet (mOp2 ixX (oP FID 1 []) (oP FID 0 []))) mSkip)
  (mSeq (mSet 4 (mCon (.int 0)))
  (mSeq (mFor (mIt (mOp2 ixX (oP FID 0 []) (oV (mCon (.int 1))))) (aName 5) (b19_0 w cf cg))
  (mRet (mOp2 ixX (oV (mOp2 ixX (oP FID 3 []) (oV (mTup (mCons (mOp2 ixX (oP FID 0 []) (oV (mCon (.int 0)))) (mCons (mOp1 lenD (oV (mOp2 ixX (oP FID 0 []) (oV (mCon (.int 1)))))) mNil)))))) (oP FID 4 []))))))
def b20_0 (w : World) (cf cg : Nat → FM) : SM :=
  (mSeq (mSet 6 (mOp1 (dctF w) (oP FID 1 [])))
  (mSeq (mPut FID 6 [] (oV (mOp2 ixX (oP FID 0 []) (oV (mCon (.int 1))))) (mSlot 5))
  (mIfS (mTst (mOp2 eqX (oV (mCallF (cf 20) (mCons (mOp2 ixX (oP FID 0 []) (oV (mCon (.int 2)))) (mCons (mSlot 6) (mCons (mSlot 2) (mCons (mSlot 3) mNil)))))) (oV (mOp2 eqX (oP FID 4 []) (oV (mCon (.str "some"))))))) (mRet (mOp2 eqX (oP FID 4 []) (oV (mCon (.str "some"))))) mSkip)))
def m20 (w : World) (cf cg : Nat → FM) : SM :=
  (mSeq (mSet 4 (mOp2 ixX (oP FID 0 []) (oV (mCon (.int 0)))))
  (mSeq (mIfS (mTst (mOp2 eqX (oP FID 4 []) (oV (mCon (.str "atom"))))) (mRet (mOp2 eqX (oV (mCallF (cf 19) (mCons (mOp2 ixX (oP FID 0 []) (oV (mCon (.int 1)))) (mCons (mSlot 1) (mCons (mSlot 2) (mCons (mSlot 3) mNil)))))) (oV (mCon (.int 1))))) mSkip)
  (mSeq (mIfS (mTst (mOp2 eqX (oP FID 4 []) (oV (mCon (.str "equal"))))) (mRet (mOp2 eqX (oV (mCallF (cf 19) (mCons (mOp2 ixX (oP FID 0 []) (oV (mCon (.int 1)))) (mCons (mSlot 1) (mCons (mSlot 2) (mCons (mSlot 3) mNil)))))) (oV (mCallF (cf 19) (mCons (mOp2 ixX (oP FID 0 []) (oV (mCon (.int 2)))) (mCons (mSlot 1) (mCons (mSlot 2) (mCons (mSlot 3) mNil)))))))) mSkip)
  (mSeq (mIfS (mTst (mOp2 eqX (oP FID 4 []) (oV (mCon (.str "not"))))) (mRet (mNotV (mCallF (cf 20) (mCons (mOp2 ixX (oP FID 0 []) (oV (mCon (.int 1)))) (mCons (mSlot 1) (mCons (mSlot 2) (mCons (mSlot 3) mNil))))))) mSkip)
  (mSeq (mIfS (mOr (mTst (mOp2 eqX (oP FID 4 []) (oV (mCon (.str "all"))))) (mTst (mOp2 eqX (oP FID 4 []) (oV (mCon (.str "some")))))) (mSeq (mFor (mRng (oP FID 2 [])) (aName 5) (b20_0 w cf cg))
  (mRet (mOp2 eqX (oP FID 4 []) (oV (mCon (.str "all")))))) mSkip)
  (mSeq (mSet 7 (mCallF (cf 20) (mCons (mOp2 ixX (oP FID 0 []) (oV (mCon (.int 1)))) (mCons (mSlot 1) (mCons (mSlot 2) (mCons (mSlot 3) mNil))))))
  (mSeq (mSet 8 (mCallF (cf 20) (mCons (mOp2 ixX (oP FID 0 []) (oV (mCon (.int 2)))) (mCons (mSlot 1) (mCons (mSlot 2) (mCons (mSlot 3) mNil))))))
  (mSeq (mIfS (mTst (mOp2 eqX (oP FID 4 []) (oV (mCon (.str "and"))))) (mRet (mAndV (mSlot 7) (mSlot 8))) mSkip)
  (mSeq (mIfS (mTst (mOp2 eqX (oP FID 4 []) (oV (mCon (.str "or"))))) (mRet (mOrV (mSlot 7) (mSlot 8))) mSkip)
  (mSeq (mIfS (mTst (mOp2 eqX (oP FID 4 []) (oV (mCon (.str "implies"))))) (mRet (mOrV (mNotV (mSlot 7)) (mSlot 8))) mSkip)
  (mRet (mOp2 eqX (oP FID 7 []) (oP FID 8 [])))))))))))))
def b21_0 (w : World) (cf cg : Nat → FM) : SM :=
  (mDrop (mCall (cf 21) [none, some 1] (xIn (mSlot 3) (xIo 1 xNil))))
def m21 (w : World) (cf cg : Nat → FM) : SM :=
  (mSeq (mIfS (mTr truD (oV (mOp1 (isiD "int") (oV (mSlot 0))))) mRetN mSkip)
  (mSeq (mSet 2 (mTup (mCons (mOp2 ixX (oP FID 0 []) (oV (mCon (.int 0)))) (mCons (mOp1 lenD (oV (mOp2 ixX (oP FID 0 []) (oV (mCon (.int 1)))))) mNil))))
  (mSeq (mIfS (mTst (mOp2 (inX true) (oP FID 2 []) (oP FID 1 []))) (mDrop (mApp FID 1 [] (mSlot 2))) mSkip)
  (mFor (mIt (mOp2 ixX (oP FID 0 []) (oV (mCon (.int 1))))) (aName 3) (b21_0 w cf cg)))))
def b22_0 (w : World) (cf cg : Nat → FM) : SM :=
  (mDrop (mCall (cf 22) [none, some 1] (xIn (mSlot 2) (xIo 1 xNil))))
def m22 (w : World) (cf cg : Nat → FM) : SM :=
  (mIfS (mTst (mOp2 eqX (oV (mOp2 ixX (oP FID 0 []) (oV (mCon (.int 0))))) (oV (mCon (.str "atom"))))) (mDrop (mCall (cf 21) [none, some 1] (xIn (mOp2 ixX (oP FID 0 []) (oV (mCon (.int 1)))) (xIo 1 xNil)))) (mIfS (mTst (mOp2 eqX (oV (mOp2 ixX (oP FID 0 []) (oV (mCon (.int 0))))) (oV (mCon (.str "equal"))))) (mSeq (mDrop (mCall (cf 21) [none, some 1] (xIn (mOp2 ixX (oP FID 0 []) (oV (mCon (.int 1)))) (xIo 1 xNil))))
  (mDrop (mCall (cf 21) [none, some 1] (xIn (mOp2 ixX (oP FID 0 []) (oV (mCon (.int 2)))) (xIo 1 xNil))))) (mIfS (mOr (mTst (mOp2 eqX (oV (mOp2 ixX (oP FID 0 []) (oV (mCon (.int 0))))) (oV (mCon (.str "all"))))) (mTst (mOp2 eqX (oV (mOp2 ixX (oP FID 0 []) (oV (mCon (.int 0))))) (oV (mCon (.str "some")))))) (mDrop (mCall (cf 22) [none, some 1] (xIn (mOp2 ixX (oP FID 0 []) (oV (mCon (.int 2)))) (xIo 1 xNil)))) (mFor (mIt (mSl (oP FID 0 []) (pSome (oV (mCon (.int 1)))) pNone)) (aName 2) (b22_0 w cf cg)))))
def b23_0 (w : World) (cf cg : Nat → FM) : SM :=
  (mSet 2 (mOp2 mulX (oP FID 2 []) (oP FID 0 [])))
def m23 (w : World) (cf cg : Nat → FM) : SM :=
  (mSeq (mSet 2 (mCon (.int 1)))
  (mSeq (mFor (mRng (oP FID 1 [])) (aName 3) (b23_0 w cf cg))
  (mRet (mTake 2))))
def m24 (w : World) (cf cg : Nat → FM) : SM :=
  (mSeq (mIfS (mOr (mTst (mOp2 eqX (oV (mOp2 ixX (oP FID 0 []) (oV (mCon (.int 0))))) (oV (mCon (.int 2))))) (mTst (mOp2 eqX (oV (mOp2 ixX (oP FID 0 []) (oV (mCon (.int 0))))) (oV (mCon (.int 3)))))) (mRet (mTake 1)) mSkip)
  (mRet (mCon (.int 2))))
def e25_0 (w : World) (cf cg : Nat → FM) : EM :=
  (mCall (cf 15) [some 0, none] (xIo 0 (xIn (mOp2 maxF (oV (mCon (.int 1))) (oV (mCallF (cf 24) (mCons (mSlot 4) (mCons (mSlot 2) mNil))))) xNil)))
def b25_1 (w : World) (cf cg : Nat → FM) : SM :=
  (mIfS (mTst (mOp2 gtD (oV (mCall (cf 15) [some 0, none] (xIo 0 (xIn (mCon (.int 6)) xNil)))) (oV (mCon (.int 0))))) (mSeq (mSet 6 (mLc [7] (mRng (oV (mCallF (cf 23) (mCons (mSlot 2) (mCons (mSlot 5) mNil))))) (aName 7) mYes (e25_0 w cf cg)))
  (mSeq (mIfS (mTst (mOp2 eqX (oV (mCall (cf 15) [some 0, none] (xIo 0 (xIn (mCon (.int 12)) xNil)))) (oV (mCon (.int 0))))) (mDrop (mApp FID 6 [] (mCon (.int 0)))) mSkip)
  (mSeq (mIfS (mTst (mOp2 eqX (oV (mCall (cf 15) [some 0, none] (xIo 0 (xIn (mCon (.int 12)) xNil)))) (oV (mCon (.int 0))))) (mSet 6 (mSl (oP FID 6 []) (pSome (oV (mCon (.int 1)))) pNone)) mSkip)
  (mSeq (mIfS (mAnd (mTst (mOp2 gtD (oV (mOp1 lenD (oP FID 6 []))) (oV (mCon (.int 0))))) (mTst (mOp2 eqX (oV (mCall (cf 15) [some 0, none] (xIo 0 (xIn (mCon (.int 12)) xNil)))) (oV (mCon (.int 0)))))) (mPut FID 6 [] (oV (mCall (cf 15) [some 0, none] (xIo 0 (xIn (mOp1 lenD (oP FID 6 [])) xNil)))) (mCallF (cf 24) (mCons (mSlot 4) (mCons (mSlot 2) mNil)))) mSkip)
  (mPut FID 3 [] (oV (mTup (mCons (mSlot 4) (mCons (mSlot 5) mNil)))) (mOp1 tupF (oP FID 6 []))))))) mSkip)
def m25 (w : World) (cf cg : Nat → FM) : SM :=
  (mSeq (mSet 3 mDnew)
  (mSeq (mFor (mIt (mSlot 1)) (aTup (aCons (aName 4) (aCons (aName 5) aNil))) (b25_1 w cf cg))
  (mRet (mTake 3))))
def b26_0 (w : World) (cf cg : Nat → FM) : SM :=
  (mIfS (mOr (mTst (mOp2 ltD (oP FID 5 []) (oV (mCon (.int 0))))) (mTst (mOp2 geD (oP FID 5 []) (oV (mCallF (cf 24) (mCons (mSlot 2) (mCons (mSlot 1) mNil))))))) (mRet (mCon (.bl false))) mSkip)
def b26_1 (w : World) (cf cg : Nat → FM) : SM :=
  (mSeq (mSet 4 (mOp2 ixX (oP FID 0 []) (oV (mTup (mCons (mSlot 2) (mCons (mSlot 3) mNil))))))
  (mSeq (mIfS (mTst (mOp2 neD (oV (mOp1 lenD (oP FID 4 []))) (oV (mCallF (cf 23) (mCons (mSlot 1) (mCons (mSlot 3) mNil)))))) (mRet (mCon (.bl false))) mSkip)
  (mFor (mIt (mSlot 4)) (aName 5) (b26_0 w cf cg))))
def m26 (w : World) (cf cg : Nat → FM) : SM :=
  (mSeq (mForD FID 0 [] (aTup (aCons (aName 2) (aCons (aName 3) aNil))) (b26_1 w cf cg))
  (mRet (mCon (.bl true))))
def b27_0 (w : World) (cf cg : Nat → FM) : SM :=
  (mIfS (mNot (mTr truD (oV (mCallF (cf 20) (mCons (mSlot 7) (mCons mDnew (mCons (mSlot 2) (mCons (mSlot 4) mNil)))))))) (mRet (mCon (.bl false))) mSkip)
def e27_1 (w : World) (cf cg : Nat → FM) : EM :=
  (mCon (.int 0))
def b27_2 (w : World) (cf cg : Nat → FM) : SM :=
  (mIfS (mTst (mOp2 (inX true) (oV (mTup (mCons (mSlot 5) (mCons (mSlot 6) mNil)))) (oP FID 4 []))) (mPut FID 4 [] (oV (mTup (mCons (mSlot 5) (mCons (mSlot 6) mNil)))) (mOp1 tupF (oV (mLc [8] (mRng (oV (mCallF (cf 23) (mCons (mSlot 2) (mCons (mSlot 6) mNil))))) (aName 8) mYes (e27_1 w cf cg))))) mSkip)
def m27 (w : World) (cf cg : Nat → FM) : SM :=
  (mSeq (mIfS (mOr (mTst (mOp2 ltD (oP FID 2 []) (oV (mCon (.int 1))))) (mNot (mTr truD (oV (mCallF (cf 26) (mCons (mSlot 3) (mCons (mSlot 2) mNil))))))) (mRet (mCon (.bl false))) mSkip)
  (mSeq (mSet 4 (mOp1 (dctF w) (oP FID 3 [])))
  (mSeq (mFor (mIt (mSlot 1)) (aTup (aCons (aName 5) (aCons (aName 6) aNil))) (b27_2 w cf cg))
  (mSeq (mFor (mIt (mSlot 0)) (aName 7) (b27_0 w cf cg))
  (mRet (mCon (.bl true)))))))
def b28_0 (w : World) (cf cg : Nat → FM) : SM :=
  (mDrop (mCall (cf 22) [none, some 3] (xIn (mSlot 4) (xIo 3 xNil))))
def e28_1 (w : World) (cf cg : Nat → FM) : EM :=
  (mCall (cf 18) [some 1, none, none] (xIo 1 (xIn (mCon (.int 3)) (xIn (mCon (.int 0)) xNil))))
def m28 (w : World) (cf cg : Nat → FM) : SM :=
  (mSeq (mSet 1 (mCallF (cf 16) (mCons (mSlot 0) mNil)))
  (mSeq (mSet 2 (mLc [10] (mRng (oV (mOp2 addD (oV (mCon (.int 1))) (oV (mCall (cf 15) [some 1, none] (xIo 1 (xIn (mCon (.int 3)) xNil))))))) (aName 10) mYes (e28_1 w cf cg)))
  (mSeq (mSet 3 (mLst mNil))
  (mSeq (mFor (mIt (mSlot 2)) (aName 4) (b28_0 w cf cg))
  (mSeq (mSet 5 (mOp2 addD (oV (mCon (.int 1))) (oV (mCall (cf 15) [some 1, none] (xIo 1 (xIn (mCon (.int 3)) xNil))))))
  (mSeq (mIfS (mTst (mOp2 eqX (oV (mCall (cf 15) [some 1, none] (xIo 1 (xIn (mCon (.int 12)) xNil)))) (oV (mCon (.int 0))))) (mSet 5 (mCon (.int 0))) mSkip)
  (mSeq (mSet 6 (mCall (cf 25) [some 1, none, none] (xIo 1 (xIn (mSlot 3) (xIn (mSlot 5) xNil)))))
  (mSeq (mIfS (mTst (mOp2 eqX (oV (mCall (cf 15) [some 1, none] (xIo 1 (xIn (mCon (.int 4)) xNil)))) (oV (mCon (.int 0))))) (mPut FID 6 [] (oV (mTup (mCons (mTup (mCons (mCon (.int 1)) (mCons (mCon (.int 9)) (mCons (mCon (.int 0)) mNil)))) (mCons (mCon (.int 0)) mNil)))) (mTup (mCons (mCall (cf 15) [some 1, none] (xIo 1 (xIn (mCon (.int 3)) xNil))) mNil))) mSkip)
  (mSeq (mSet 7 (mOp1 (dctF w) (oP FID 6 [])))
  (mSeq (mSet 8 (mCallF (cf 13) (mCons (mMake (cg 8) 0 (mCons (mSlot 5) (mCons (mSlot 6) mNil))) (mCons (mOp1 lstF (oP FID 2 [])) mNil))))
  (mSeq (mSet 9 (mCallF (cf 27) (mCons (mSlot 2) (mCons (mSlot 3) (mCons (mSlot 5) (mCons (mSlot 7) mNil))))))
  (mRet (mAndV (mOp1 (isiD "bool") (oV (mSlot 8))) (mAndV (mOp2 eqX (oP FID 8 []) (oP FID 9 [])) (mOp2 eqX (oP FID 6 []) (oP FID 7 []))))))))))))))))
def T (w : World) : Nat → Fn := fun f => match f with
  | 0 => ⟨1, 1, [], m0 w⟩
  | 1 => ⟨5, 3, [], m1 w⟩
  | 2 => ⟨3, 3, [], m2 w⟩
  | 3 => ⟨8, 3, [], m3 w⟩
  | 4 => ⟨2, 2, [], m4 w⟩
  | 5 => ⟨4, 2, [1], m5 w⟩
  | 6 => ⟨4, 2, [1], m6 w⟩
  | 7 => ⟨3, 1, [], m7 w⟩
  | 8 => ⟨4, 3, [0], m8 w⟩
  | 9 => ⟨1, 1, [], m9 w⟩
  | 10 => ⟨4, 2, [], m10 w⟩
  | 11 => ⟨2, 2, [], m11 w⟩
  | 12 => ⟨5, 4, [], m12 w⟩
  | 13 => ⟨8, 2, [], m13 w⟩
  | 14 => ⟨5, 2, [], m14 w⟩
  | 15 => ⟨3, 2, [0], m15 w⟩
  | 16 => ⟨2, 1, [], m16 w⟩
  | 17 => ⟨4, 3, [0], m17 w⟩
  | 18 => ⟨6, 3, [0], m18 w⟩
  | 19 => ⟨6, 4, [], m19 w⟩
  | 20 => ⟨9, 4, [], m20 w⟩
  | 21 => ⟨4, 2, [1], m21 w⟩
  | 22 => ⟨3, 2, [1], m22 w⟩
  | 23 => ⟨4, 2, [], m23 w⟩
  | 24 => ⟨2, 2, [], m24 w⟩
  | 25 => ⟨8, 3, [0], m25 w⟩
  | 26 => ⟨6, 2, [], m26 w⟩
  | 27 => ⟨9, 4, [], m27 w⟩
  | 28 => ⟨11, 1, [], m28 w⟩
  | _ => ⟨0, 0, [], fun _ _ => mSkip⟩
end K63
set_option Elab.async false
set_option linter.all false
set_option maxRecDepth 100000
set_option maxHeartbeats 4000000
namespace K63
open PySem PySem.Spec PyProof.Rows L2 PL
/-! what the top has written -/
abbrev top (i : Nat) : Stmt := PySem.Challenge.pw_lastproof_k63_judged_worlds.main.body.getD i (.Pass ⟨0, 0, 0, 0⟩)
abbrev s0 : Stmt := top 2
abbrev s1 : Stmt := top 5
abbrev s2 : Stmt := top 6
abbrev s3 : Stmt := top 7
abbrev s4 : Stmt := top 8
abbrev s5 : Stmt := top 9
abbrev s6 : Stmt := top 10
abbrev s7 : Stmt := top 11
abbrev s8 : Stmt := inClass (top 13) 0
abbrev s9 : Stmt := top 15
abbrev s10 : Stmt := top 16
abbrev s11 : Stmt := top 17
abbrev s12 : Stmt := top 18
abbrev s13 : Stmt := top 19
abbrev s14 : Stmt := top 21
abbrev s15 : Stmt := top 22
abbrev s16 : Stmt := top 23
abbrev s17 : Stmt := top 24
abbrev s18 : Stmt := top 25
abbrev s19 : Stmt := top 26
abbrev s20 : Stmt := top 27
abbrev s21 : Stmt := top 28
abbrev s22 : Stmt := top 29
abbrev s23 : Stmt := top 30
abbrev s24 : Stmt := top 31
abbrev s25 : Stmt := top 32
abbrev s26 : Stmt := top 33
abbrev s27 : Stmt := top 34
abbrev s28 : Stmt := top 35
structure Tp (G : GC) (mg : Str → Option Value) : Prop where
  b_all : mg "all" = none
  b_bool : mg "bool" = none
  b_dict : mg "dict" = none
  b_int : mg "int" = none
  b_isinstance : mg "isinstance" = none
  b_len : mg "len" = none
  b_list : mg "list" = none
  b_max : mg "max" = none
  b_range : mg "range" = none
  b_tuple : mg "tuple" = none
  g_TRUTH : ∃ u, mg "TRUTH" = some u ∧ ∀ Z, ∃ v, RepV G Z g_TRUTH v ∧ RelV v u
  g_JOINTS : ∃ u, mg "JOINTS" = some u ∧ ∀ Z, ∃ v, RepV G Z g_JOINTS v ∧ RelV v u
structure Cs (G : GC) (mg : Str → Option Value) (base : Heap) (k : Nat) : Prop where
  c0 : CallOk G mg base (k + 1) "is_variable" (callI (T G.w) k 0) 1
  c1 : CallOk G mg base (k + 1) "value" (callI (T G.w) k 1) 3
  c2 : CallOk G mg base (k + 1) "joined_holds" (callI (T G.w) k 2) 3
  c3 : CallOk G mg base (k + 1) "holds_with" (callI (T G.w) k 3) 3
  c4 : CallOk G mg base (k + 1) "holds" (callI (T G.w) k 4) 2
  c5 : CallOk G mg base (k + 1) "collect_uses" (callI (T G.w) k 5) 2
  c6 : CallOk G mg base (k + 1) "collect_formula_uses" (callI (T G.w) k 6) 2
  c7 : CallOk G mg base (k + 1) "uses_of" (callI (T G.w) k 7) 1
  c9 : CallOk G mg base (k + 1) "is_value_of_individual" (callI (T G.w) k 9) 1
  c10 : CallOk G mg base (k + 1) "rows" (callI (T G.w) k 10) 2
  c11 : CallOk G mg base (k + 1) "limit" (callI (T G.w) k 11) 2
  c12 : CallOk G mg base (k + 1) "is_table" (callI (T G.w) k 12) 4
  c13 : CallOk G mg base (k + 1) "accepts_world" (callI (T G.w) k 13) 2
  c14 : CallOk G mg base (k + 1) "_law_rows" (callI (T G.w) k 14) 2
  c15 : CallOk G mg base (k + 1) "_law_digit" (callI (T G.w) k 15) 2
  c16 : CallOk G mg base (k + 1) "_law_state" (callI (T G.w) k 16) 1
  c17 : CallOk G mg base (k + 1) "_law_tree_term" (callI (T G.w) k 17) 3
  c18 : CallOk G mg base (k + 1) "_law_tree" (callI (T G.w) k 18) 3
  c19 : CallOk G mg base (k + 1) "_law_value" (callI (T G.w) k 19) 4
  c20 : CallOk G mg base (k + 1) "_law_true" (callI (T G.w) k 20) 4
  c21 : CallOk G mg base (k + 1) "_law_uses_of_term" (callI (T G.w) k 21) 2
  c22 : CallOk G mg base (k + 1) "_law_uses_of" (callI (T G.w) k 22) 2
  c23 : CallOk G mg base (k + 1) "_law_count" (callI (T G.w) k 23) 2
  c24 : CallOk G mg base (k + 1) "_law_limit" (callI (T G.w) k 24) 2
  c25 : CallOk G mg base (k + 1) "_law_tables" (callI (T G.w) k 25) 3
  c26 : CallOk G mg base (k + 1) "_law_fits" (callI (T G.w) k 26) 2
  c27 : CallOk G mg base (k + 1) "_law_accepted" (callI (T G.w) k 27) 4
  c28 : CallOk G mg base (k + 1) "law" (callI (T G.w) k 28) 1
  i0 : MakeOk G mg base (k + 1) "World" 0 (callI (T G.w) k 8) 3
structure Ms (G : GC) (mg : Str → Option Value) (base : Heap) (k : Nat) : Prop where
  m0 : MakeOk G mg base k "World" 0 (callI (T G.w) (k - 1) 8) 3
/-! the derivations -/
section
variable {P : Program} {w : World} {K : PySem.W.Frag} {ca : Nat → Addr} {mg : Str → Option Value} {base : Heap} {k : Nat}
theorem sc0 : FnScope ["term"] ["term"] (defScope s0) := ⟨rfl, rfl, rfl, by decide +kernel, rfl, by decide +kernel, by decide +kernel⟩
theorem d0 {cdv : Value} {A : Around} {outer : List PySem.Env} {s : Shared} {H : Hp} {E : XK} {fa : Addr} (c : CS (GG P w K ca) mg base (k + 1) (cxOf (L2.CX P w) P w K mg base ["term"] "is_variable" (defScope s0) fa cdv A outer s H E)) (t : Tp (GG P w K ca) mg) (cs : Cs (GG P w K ca) mg base k) (ms : Ms (GG P w K ca) mg base k) :
    SimSs (GG P w K ca) (cxOf (L2.CX P w) P w K mg base ["term"] "is_variable" (defScope s0) fa cdv A outer s H E) [] (defBody s0) (m0 w (callI (T w) k) (callI (T w) (k - 1))) :=
  (ss_one (s_ret (c.toCE.isi t.b_isinstance t.b_int (sim_oV (vs 0)) rfl rfl (by decide +kernel))))
theorem sc1 : FnScope ["term", "world", "values", "index", "part"] ["term", "world", "values"] (defScope s1) := ⟨rfl, rfl, rfl, by decide +kernel, rfl, by decide +kernel, by decide +kernel⟩
theorem d1 {cdv : Value} {A : Around} {outer : List PySem.Env} {s : Shared} {H : Hp} {E : XK} {fa : Addr} (c : CS (GG P w K ca) mg base (k + 1) (cxOf (L2.CX P w) P w K mg base ["term", "world", "values", "index", "part"] "value" (defScope s1) fa cdv A outer s H E)) (t : Tp (GG P w K ca) mg) (cs : Cs (GG P w K ca) mg base k) (ms : Ms (GG P w K ca) mg base k) :
    SimSs (GG P w K ca) (cxOf (L2.CX P w) P w K mg base ["term", "world", "values", "index", "part"] "value" (defScope s1) fa cdv A outer s H E) [] (defBody s1) (m1 w (callI (T w) k) (callI (T w) (k - 1))) :=
  (ss_cons (s_if (c.toCE.tru (sim_oV (e_callF c.toCE.bx cs.c0 (sim_cons (vs 0) sim_nil) rfl stars_cons (fun z => nomatch z))))
    (ss_one (s_ret (sim_ix c.toCE.ix f_ixX (sim_oP c.toCE.ok (pn 2)) (sim_oP c.toCE.ok (pn 0)) (fun _ _ => rfl))))
    ss_nil)
    (ss_cons (s_if (sim_tcmp c.toCE.eq f_eqX (sim_oP c.toCE.ok (pn 0)) (sim_oV (let ⟨_, h1, h2⟩ := t.g_TRUTH; sim_glob rfl (by rw [c.toCE.bx.mg]; exact h1) h2)) (nomark _))
    (ss_one (s_ret sim_int))
    ss_nil)
    (ss_cons (s_set (i := 3) sim_int c.nd rfl (by first | exact Or.inl rfl | exact Or.inr rfl) rfl)
    (ss_cons (s_for c.po c.calm (i_val c.toCE.bx.K (sim_ix c.toCE.ix f_ixX (sim_oP c.toCE.ok (pn 0)) (sim_oV sim_int) (fun _ _ => rfl))) (gn 4 kk c.nd)
    (ss_one (s_set (i := 3) (sim_bin c.toCE.add f_add (sim_oV (sim_bin c.toCE.mul f_mulX (sim_oP c.toCE.ok (pn 3)) (sim_oP c.toCE.ok (pth_attr c.toCE.ok c.toCE.bx.K (pn 1) (f := 0) rfl rfl)))) (sim_oV (e_callF c.toCE.bx cs.c1 (sim_cons (vs 4) (sim_cons (vs 1) (sim_cons (vs 2) sim_nil))) rfl stars_cons (fun z => nomatch z)))) c.nd rfl (by first | exact Or.inl rfl | exact Or.inr rfl) rfl)))
    (ss_one (s_ret (sim_ix c.toCE.ix f_ixX (sim_oV (sim_ix c.toCE.ix f_ixX (sim_oP c.toCE.ok (pth_attr c.toCE.ok c.toCE.bx.K (pn 1) (f := 1) rfl rfl)) (sim_oV (sim_tup (sim_cons (sim_ix c.toCE.ix f_ixX (sim_oP c.toCE.ok (pn 0)) (sim_oV sim_int) (fun _ _ => rfl)) (sim_cons (c.toCE.len1 t.b_len (sim_oV (sim_ix c.toCE.ix f_ixX (sim_oP c.toCE.ok (pn 0)) (sim_oV sim_int) (fun _ _ => rfl))) rfl) sim_nil)))) (fun _ _ => rfl))) (sim_oP c.toCE.ok (pn 3)) (fun _ _ => rfl))))))))
theorem sc2 : FnScope ["tag", "left", "right"] ["tag", "left", "right"] (defScope s2) := ⟨rfl, rfl, rfl, by decide +kernel, rfl, by decide +kernel, by decide +kernel⟩
theorem d2 {cdv : Value} {A : Around} {outer : List PySem.Env} {s : Shared} {H : Hp} {E : XK} {fa : Addr} (c : CS (GG P w K ca) mg base (k + 1) (cxOf (L2.CX P w) P w K mg base ["tag", "left", "right"] "joined_holds" (defScope s2) fa cdv A outer s H E)) (t : Tp (GG P w K ca) mg) (cs : Cs (GG P w K ca) mg base k) (ms : Ms (GG P w K ca) mg base k) :
    SimSs (GG P w K ca) (cxOf (L2.CX P w) P w K mg base ["tag", "left", "right"] "joined_holds" (defScope s2) fa cdv A outer s H E) [] (defBody s2) (m2 w (callI (T w) k) (callI (T w) (k - 1))) :=
  (ss_cons (s_if (sim_tcmp c.toCE.eq f_eqX (sim_oP c.toCE.ok (pn 0)) (sim_oV sim_str) (nomark _))
    (ss_one (s_ret (sim_andV (vs 1) (sim_one (vs 2)))))
    ss_nil)
    (ss_cons (s_if (sim_tcmp c.toCE.eq f_eqX (sim_oP c.toCE.ok (pn 0)) (sim_oV sim_str) (nomark _))
    (ss_one (s_ret (sim_orV (vs 1) (sim_one (vs 2)))))
    ss_nil)
    (ss_cons (s_if (sim_tcmp c.toCE.eq f_eqX (sim_oP c.toCE.ok (pn 0)) (sim_oV sim_str) (nomark _))
    (ss_one (s_ret (sim_orV (vs 2) (sim_one (sim_notV (vs 1))))))
    ss_nil)
    (ss_one (s_ret (sim_cmp c.toCE.eq f_eqX (sim_oP c.toCE.ok (pn 1)) (sim_oP c.toCE.ok (pn 2)) (nomark _)))))))
theorem sc3 : FnScope ["formula", "world", "values", "tag", "left", "right", "individual", "inner"] ["formula", "world", "values"] (defScope s3) := ⟨rfl, rfl, rfl, by decide +kernel, rfl, by decide +kernel, by decide +kernel⟩
theorem d3 {cdv : Value} {A : Around} {outer : List PySem.Env} {s : Shared} {H : Hp} {E : XK} {fa : Addr} (c : CS (GG P w K ca) mg base (k + 1) (cxOf (L2.CX P w) P w K mg base ["formula", "world", "values", "tag", "left", "right", "individual", "inner"] "holds_with" (defScope s3) fa cdv A outer s H E)) (t : Tp (GG P w K ca) mg) (cs : Cs (GG P w K ca) mg base k) (ms : Ms (GG P w K ca) mg base k) :
    SimSs (GG P w K ca) (cxOf (L2.CX P w) P w K mg base ["formula", "world", "values", "tag", "left", "right", "individual", "inner"] "holds_with" (defScope s3) fa cdv A outer s H E) [] (defBody s3) (m3 w (callI (T w) k) (callI (T w) (k - 1))) :=
  (ss_cons (s_set (i := 3) (sim_ix c.toCE.ix f_ixX (sim_oP c.toCE.ok (pn 0)) (sim_oV sim_int) (fun _ _ => rfl)) c.nd rfl (by first | exact Or.inl rfl | exact Or.inr rfl) rfl)
    (ss_cons (s_if (sim_tcmp c.toCE.eq f_eqX (sim_oP c.toCE.ok (pn 3)) (sim_oV sim_str) (nomark _))
    (ss_one (s_ret (sim_cmp c.toCE.eq f_eqX (sim_oV (e_callF c.toCE.bx cs.c1 (sim_cons (sim_ix c.toCE.ix f_ixX (sim_oP c.toCE.ok (pn 0)) (sim_oV sim_int) (fun _ _ => rfl)) (sim_cons (vs 1) (sim_cons (vs 2) sim_nil))) rfl stars_cons (fun z => nomatch z))) (sim_oV sim_int) (nomark _))))
    ss_nil)
    (ss_cons (s_if (sim_tcmp c.toCE.eq f_eqX (sim_oP c.toCE.ok (pn 3)) (sim_oV sim_str) (nomark _))
    (ss_one (s_ret (sim_cmp c.toCE.eq f_eqX (sim_oV (e_callF c.toCE.bx cs.c1 (sim_cons (sim_ix c.toCE.ix f_ixX (sim_oP c.toCE.ok (pn 0)) (sim_oV sim_int) (fun _ _ => rfl)) (sim_cons (vs 1) (sim_cons (vs 2) sim_nil))) rfl stars_cons (fun z => nomatch z))) (sim_oV (e_callF c.toCE.bx cs.c1 (sim_cons (sim_ix c.toCE.ix f_ixX (sim_oP c.toCE.ok (pn 0)) (sim_oV sim_int) (fun _ _ => rfl)) (sim_cons (vs 1) (sim_cons (vs 2) sim_nil))) rfl stars_cons (fun z => nomatch z))) (nomark _))))
    ss_nil)
    (ss_cons (s_if (sim_tcmp c.toCE.eq f_eqX (sim_oP c.toCE.ok (pn 3)) (sim_oV sim_str) (nomark _))
    (ss_one (s_ret (sim_notV (e_callF c.toCE.bx cs.c3 (sim_cons (sim_ix c.toCE.ix f_ixX (sim_oP c.toCE.ok (pn 0)) (sim_oV sim_int) (fun _ _ => rfl)) (sim_cons (vs 1) (sim_cons (vs 2) sim_nil))) rfl stars_cons (fun z => nomatch z)))))
    ss_nil)
    (ss_cons (s_if (sim_tcmp c.toCE.isin f_inX (sim_oP c.toCE.ok (pn 3)) (sim_oV (let ⟨_, h1, h2⟩ := t.g_JOINTS; sim_glob rfl (by rw [c.toCE.bx.mg]; exact h1) h2)) rfl)
    (ss_cons (s_set (i := 4) (e_callF c.toCE.bx cs.c3 (sim_cons (sim_ix c.toCE.ix f_ixX (sim_oP c.toCE.ok (pn 0)) (sim_oV sim_int) (fun _ _ => rfl)) (sim_cons (vs 1) (sim_cons (vs 2) sim_nil))) rfl stars_cons (fun z => nomatch z)) c.nd rfl (by first | exact Or.inl rfl | exact Or.inr rfl) rfl)
    (ss_cons (s_set (i := 5) (e_callF c.toCE.bx cs.c3 (sim_cons (sim_ix c.toCE.ix f_ixX (sim_oP c.toCE.ok (pn 0)) (sim_oV sim_int) (fun _ _ => rfl)) (sim_cons (vs 1) (sim_cons (vs 2) sim_nil))) rfl stars_cons (fun z => nomatch z)) c.nd rfl (by first | exact Or.inl rfl | exact Or.inr rfl) rfl)
    (ss_one (s_ret (e_callF c.toCE.bx cs.c2 (sim_cons (vs 3) (sim_cons (vs 4) (sim_cons (vs 5) sim_nil))) rfl stars_cons (fun z => nomatch z))))))
    ss_nil)
    (ss_cons (s_for c.po c.calm (i_range (sim_oP c.toCE.ok (pth_attr c.toCE.ok c.toCE.bx.K (pn 1) (f := 0) rfl rfl)) rfl (by rw [c.toCE.bx.mg]; exact t.b_range)) (gn 6 kk c.nd)
    (ss_cons (s_set (i := 7) (c.toCE.dct1 t.b_dict (sim_oP c.toCE.ok (pn 2)) rfl) c.nd rfl (by first | exact Or.inl rfl | exact Or.inr rfl) rfl)
    (ss_cons (s_sub c.ok c.bx.K c.bx.w c.hu64 (vs 6) (pn 7) (sim_oV (sim_ix c.toCE.ix f_ixX (sim_oP c.toCE.ok (pn 0)) (sim_oV sim_int) (fun _ _ => rfl))))
    (ss_one (s_if (sim_tcmp c.toCE.eq f_eqX (sim_oV (e_callF c.toCE.bx cs.c3 (sim_cons (sim_ix c.toCE.ix f_ixX (sim_oP c.toCE.ok (pn 0)) (sim_oV sim_int) (fun _ _ => rfl)) (sim_cons (vs 1) (sim_cons (vs 7) sim_nil))) rfl stars_cons (fun z => nomatch z))) (sim_oV (sim_cmp c.toCE.eq f_eqX (sim_oP c.toCE.ok (pn 3)) (sim_oV sim_str) (nomark _))) (nomark _))
    (ss_one (s_ret (sim_cmp c.toCE.eq f_eqX (sim_oP c.toCE.ok (pn 3)) (sim_oV sim_str) (nomark _))))
    ss_nil)))))
    (ss_one (s_ret (sim_cmp c.toCE.eq f_eqX (sim_oP c.toCE.ok (pn 3)) (sim_oV sim_str) (nomark _))))))))))
theorem sc4 : FnScope ["formula", "world"] ["formula", "world"] (defScope s4) := ⟨rfl, rfl, rfl, by decide +kernel, rfl, by decide +kernel, by decide +kernel⟩
theorem d4 {cdv : Value} {A : Around} {outer : List PySem.Env} {s : Shared} {H : Hp} {E : XK} {fa : Addr} (c : CS (GG P w K ca) mg base (k + 1) (cxOf (L2.CX P w) P w K mg base ["formula", "world"] "holds" (defScope s4) fa cdv A outer s H E)) (t : Tp (GG P w K ca) mg) (cs : Cs (GG P w K ca) mg base k) (ms : Ms (GG P w K ca) mg base k) :
    SimSs (GG P w K ca) (cxOf (L2.CX P w) P w K mg base ["formula", "world"] "holds" (defScope s4) fa cdv A outer s H E) [] (defBody s4) (m4 w (callI (T w) k) (callI (T w) (k - 1))) :=
  (ss_one (s_ret (e_callF c.toCE.bx cs.c3 (sim_cons (vs 0) (sim_cons (vs 1) (sim_cons e_dnew sim_nil))) rfl stars_cons (fun z => nomatch z))))
theorem sc5 : FnScope ["term", "found", "use", "part"] ["term", "found"] (defScope s5) := ⟨rfl, rfl, rfl, by decide +kernel, rfl, by decide +kernel, by decide +kernel⟩
theorem d5 {cdv : Value} {A : Around} {outer : List PySem.Env} {s : Shared} {H : Hp} {E : XK} {fa : Addr} (c : CS (GG P w K ca) mg base (k + 1) (cxOf (L2.CX P w) P w K mg base ["term", "found", "use", "part"] "collect_uses" (defScope s5) fa cdv A outer s H E)) (t : Tp (GG P w K ca) mg) (cs : Cs (GG P w K ca) mg base k) (ms : Ms (GG P w K ca) mg base k) :
    SimSs (GG P w K ca) (cxOf (L2.CX P w) P w K mg base ["term", "found", "use", "part"] "collect_uses" (defScope s5) fa cdv A outer s H E) [1] (defBody s5) (m5 w (callI (T w) k) (callI (T w) (k - 1))) :=
  (ss_cons (s_if (c.toCE.tru (sim_oV (e_callF c.toCE.bx cs.c0 (sim_cons (vs 0) sim_nil) rfl stars_cons (fun z => nomatch z))))
    (ss_one s_retN)
    ss_nil)
    (ss_cons (s_set (i := 2) (sim_tup (sim_cons (sim_ix c.toCE.ix f_ixX (sim_oP c.toCE.ok (pn 0)) (sim_oV sim_int) (fun _ _ => rfl)) (sim_cons (c.toCE.len1 t.b_len (sim_oV (sim_ix c.toCE.ix f_ixX (sim_oP c.toCE.ok (pn 0)) (sim_oV sim_int) (fun _ _ => rfl))) rfl) sim_nil))) c.nd rfl (by first | exact Or.inl rfl | exact Or.inr rfl) rfl)
    (ss_cons (s_if (sim_w2t (sim_and (sim_tcmp c.toCE.ne f_ne (sim_oP c.toCE.ok (pn 0)) (sim_oV (let ⟨_, h1, h2⟩ := t.g_TRUTH; sim_glob rfl (by rw [c.toCE.bx.mg]; exact h1) h2)) (nomark _)) (sim_and1 (sim_tcmp c.toCE.nin f_ninX (sim_oP c.toCE.ok (pn 2)) (sim_oP c.toCE.ok (pn 1)) rfl))))
    (ss_one (s_expr (e_app c.toCE.ok c.toCE.bx.K (vs 2) (pn 1))))
    ss_nil)
    (ss_one (s_for c.po c.calm (i_val c.toCE.bx.K (sim_ix c.toCE.ix f_ixX (sim_oP c.toCE.ok (pn 0)) (sim_oV sim_int) (fun _ _ => rfl))) (gn 3 kk c.nd)
    (ss_one (s_expr (e_call c.toCE.bx cs.c5 (x_in (vs 3) (vio 1 x_nil)) rfl stars_cons (fun z => nomatch z)))))))))
theorem sc6 : FnScope ["formula", "found", "tag", "term"] ["formula", "found"] (defScope s6) := ⟨rfl, rfl, rfl, by decide +kernel, rfl, by decide +kernel, by decide +kernel⟩
theorem d6 {cdv : Value} {A : Around} {outer : List PySem.Env} {s : Shared} {H : Hp} {E : XK} {fa : Addr} (c : CS (GG P w K ca) mg base (k + 1) (cxOf (L2.CX P w) P w K mg base ["formula", "found", "tag", "term"] "collect_formula_uses" (defScope s6) fa cdv A outer s H E)) (t : Tp (GG P w K ca) mg) (cs : Cs (GG P w K ca) mg base k) (ms : Ms (GG P w K ca) mg base k) :
    SimSs (GG P w K ca) (cxOf (L2.CX P w) P w K mg base ["formula", "found", "tag", "term"] "collect_formula_uses" (defScope s6) fa cdv A outer s H E) [1] (defBody s6) (m6 w (callI (T w) k) (callI (T w) (k - 1))) :=
  (ss_cons (s_set (i := 2) (sim_ix c.toCE.ix f_ixX (sim_oP c.toCE.ok (pn 0)) (sim_oV sim_int) (fun _ _ => rfl)) c.nd rfl (by first | exact Or.inl rfl | exact Or.inr rfl) rfl)
    (ss_one (s_if (sim_w2t (sim_or (sim_tcmp c.toCE.eq f_eqX (sim_oP c.toCE.ok (pn 2)) (sim_oV sim_str) (nomark _)) (sim_or1 (sim_tcmp c.toCE.eq f_eqX (sim_oP c.toCE.ok (pn 2)) (sim_oV sim_str) (nomark _)))))
    (ss_one (s_for c.po c.calm (i_val c.toCE.bx.K (e_sl c.toCE.bx.K (sim_oP c.toCE.ok (pn 0)) (p_some (sim_oV sim_int)) p_none)) (gn 3 kk c.nd)
    (ss_one (s_expr (e_call c.toCE.bx cs.c5 (x_in (vs 3) (vio 1 x_nil)) rfl stars_cons (fun z => nomatch z))))))
    (ss_one (s_if (sim_tcmp c.toCE.isin f_inX (sim_oP c.toCE.ok (pn 2)) (sim_oV (let ⟨_, h1, h2⟩ := t.g_JOINTS; sim_glob rfl (by rw [c.toCE.bx.mg]; exact h1) h2)) rfl)
    (ss_cons (s_expr (e_call c.toCE.bx cs.c6 (x_in (sim_ix c.toCE.ix f_ixX (sim_oP c.toCE.ok (pn 0)) (sim_oV sim_int) (fun _ _ => rfl)) (vio 1 x_nil)) rfl stars_cons (fun z => nomatch z)))
    (ss_one (s_expr (e_call c.toCE.bx cs.c6 (x_in (sim_ix c.toCE.ix f_ixX (sim_oP c.toCE.ok (pn 0)) (sim_oV sim_int) (fun _ _ => rfl)) (vio 1 x_nil)) rfl stars_cons (fun z => nomatch z)))))
    (ss_one (s_expr (e_call c.toCE.bx cs.c6 (x_in (sim_ix c.toCE.ix f_ixX (sim_oP c.toCE.ok (pn 0)) (sim_oV (sim_bin op_sub f_int0 (sim_oV (c.toCE.len1 t.b_len (sim_oP c.toCE.ok (pn 0)) rfl)) (sim_oV sim_int))) (fun _ _ => rfl)) (vio 1 x_nil)) rfl stars_cons (fun z => nomatch z)))))))))
theorem sc7 : FnScope ["formulas", "found", "formula"] ["formulas"] (defScope s7) := ⟨rfl, rfl, rfl, by decide +kernel, rfl, by decide +kernel, by decide +kernel⟩
theorem d7 {cdv : Value} {A : Around} {outer : List PySem.Env} {s : Shared} {H : Hp} {E : XK} {fa : Addr} (c : CS (GG P w K ca) mg base (k + 1) (cxOf (L2.CX P w) P w K mg base ["formulas", "found", "formula"] "uses_of" (defScope s7) fa cdv A outer s H E)) (t : Tp (GG P w K ca) mg) (cs : Cs (GG P w K ca) mg base k) (ms : Ms (GG P w K ca) mg base k) :
    SimSs (GG P w K ca) (cxOf (L2.CX P w) P w K mg base ["formulas", "found", "formula"] "uses_of" (defScope s7) fa cdv A outer s H E) [] (defBody s7) (m7 w (callI (T w) k) (callI (T w) (k - 1))) :=
  (ss_cons (s_set (i := 1) (sim_lst sim_nil) c.nd rfl (by first | exact Or.inl rfl | exact Or.inr rfl) rfl)
    (ss_cons (s_for c.po c.calm (i_val c.toCE.bx.K (vs 0)) (gn 2 kk c.nd)
    (ss_one (s_expr (e_call c.toCE.bx cs.c6 (x_in (vs 2) (vio 1 x_nil)) rfl stars_cons (fun z => nomatch z)))))
    (ss_one (s_ret (vt 1)))))
theorem sc8 : FnScope ["self", "size", "tables", "key"] ["self", "size", "tables"] (defScope s8) := ⟨rfl, rfl, rfl, by decide +kernel, rfl, by decide +kernel, by decide +kernel⟩
theorem d8 {cdv : Value} {A : Around} {outer : List PySem.Env} {s : Shared} {H : Hp} {E : XK} {fa : Addr} (c : CS (GG P w K ca) mg base (k + 1) (cxOf (L2.CX P w) P w K mg base ["self", "size", "tables", "key"] "World.__init__" (defScope s8) fa cdv A outer s H E)) (t : Tp (GG P w K ca) mg) (cs : Cs (GG P w K ca) mg base k) (ms : Ms (GG P w K ca) mg base k) :
    SimSs (GG P w K ca) (cxOf (L2.CX P w) P w K mg base ["self", "size", "tables", "key"] "World.__init__" (defScope s8) fa cdv A outer s H E) [0] (defBody s8) (m8 w (callI (T w) k) (callI (T w) (k - 1))) :=
  (ss_cons (s_fld c.ok c.bx.K (f := 0) (vs 1) (pn 0) rfl c.len)
    (ss_one (s_fld c.ok c.bx.K (f := 1) (e_dcD (own := [("key", 3)]) c.toCE.ok c.toCE.bx.K c.toCE.bx.w c.toCE.hu64 c.toCE.calm c.nd (blkOk_by (show blkC ["self", "size", "tables", "key"] (defScope s8) _ [("key", 3)] = true by decide +kernel)) (pn 2) (c.toCE.inB fun s0 H0 C0 cl0 fp0 cb => (gn 3 kw cb.nd)) (c.toCE.inB fun s0 H0 C0 cl0 fp0 cb => ts_nil) (c.toCE.inB fun s0 H0 C0 cl0 fp0 cb => (sim_oV (vs 3))) (c.toCE.inB fun s0 H0 C0 cl0 fp0 cb => (sim_ix cb.ix f_ixX (sim_oP cb.ok (pn 2)) (sim_oP cb.ok (pn 3)) (fun _ _ => rfl)))) (pn 0) rfl c.len)))
theorem sc9 : FnScope ["symbol"] ["symbol"] (defScope s9) := ⟨rfl, rfl, rfl, by decide +kernel, rfl, by decide +kernel, by decide +kernel⟩
theorem d9 {cdv : Value} {A : Around} {outer : List PySem.Env} {s : Shared} {H : Hp} {E : XK} {fa : Addr} (c : CS (GG P w K ca) mg base (k + 1) (cxOf (L2.CX P w) P w K mg base ["symbol"] "is_value_of_individual" (defScope s9) fa cdv A outer s H E)) (t : Tp (GG P w K ca) mg) (cs : Cs (GG P w K ca) mg base k) (ms : Ms (GG P w K ca) mg base k) :
    SimSs (GG P w K ca) (cxOf (L2.CX P w) P w K mg base ["symbol"] "is_value_of_individual" (defScope s9) fa cdv A outer s H E) [] (defBody s9) (m9 w (callI (T w) k) (callI (T w) (k - 1))) :=
  (ss_one (s_ret (sim_cmp c.toCE.isin f_inX (sim_oV (sim_ix c.toCE.ix f_ixX (sim_oP c.toCE.ok (pn 0)) (sim_oV sim_int) (fun _ _ => rfl))) (sim_oV (sim_tup (sim_cons sim_int (sim_cons sim_int sim_nil)))) rfl)))
theorem sc10 : FnScope ["size", "arity", "count", "_"] ["size", "arity"] (defScope s10) := ⟨rfl, rfl, rfl, by decide +kernel, rfl, by decide +kernel, by decide +kernel⟩
theorem d10 {cdv : Value} {A : Around} {outer : List PySem.Env} {s : Shared} {H : Hp} {E : XK} {fa : Addr} (c : CS (GG P w K ca) mg base (k + 1) (cxOf (L2.CX P w) P w K mg base ["size", "arity", "count", "_"] "rows" (defScope s10) fa cdv A outer s H E)) (t : Tp (GG P w K ca) mg) (cs : Cs (GG P w K ca) mg base k) (ms : Ms (GG P w K ca) mg base k) :
    SimSs (GG P w K ca) (cxOf (L2.CX P w) P w K mg base ["size", "arity", "count", "_"] "rows" (defScope s10) fa cdv A outer s H E) [] (defBody s10) (m10 w (callI (T w) k) (callI (T w) (k - 1))) :=
  (ss_cons (s_set (i := 2) sim_int c.nd rfl (by first | exact Or.inl rfl | exact Or.inr rfl) rfl)
    (ss_cons (s_for c.po c.calm (i_range (sim_oP c.toCE.ok (pn 1)) rfl (by rw [c.toCE.bx.mg]; exact t.b_range)) (gn 3 kk c.nd)
    (ss_one (s_set (i := 2) (sim_bin c.toCE.mul f_mulX (sim_oP c.toCE.ok (pn 2)) (sim_oP c.toCE.ok (pn 0))) c.nd rfl (by first | exact Or.inl rfl | exact Or.inr rfl) rfl)))
    (ss_one (s_ret (vt 2)))))
theorem sc11 : FnScope ["symbol", "size"] ["symbol", "size"] (defScope s11) := ⟨rfl, rfl, rfl, by decide +kernel, rfl, by decide +kernel, by decide +kernel⟩
theorem d11 {cdv : Value} {A : Around} {outer : List PySem.Env} {s : Shared} {H : Hp} {E : XK} {fa : Addr} (c : CS (GG P w K ca) mg base (k + 1) (cxOf (L2.CX P w) P w K mg base ["symbol", "size"] "limit" (defScope s11) fa cdv A outer s H E)) (t : Tp (GG P w K ca) mg) (cs : Cs (GG P w K ca) mg base k) (ms : Ms (GG P w K ca) mg base k) :
    SimSs (GG P w K ca) (cxOf (L2.CX P w) P w K mg base ["symbol", "size"] "limit" (defScope s11) fa cdv A outer s H E) [] (defBody s11) (m11 w (callI (T w) k) (callI (T w) (k - 1))) :=
  (ss_cons (s_if (c.toCE.tru (sim_oV (e_callF c.toCE.bx cs.c9 (sim_cons (vs 0) sim_nil) rfl stars_cons (fun z => nomatch z))))
    (ss_one (s_ret (vt 1)))
    ss_nil)
    (ss_one (s_ret sim_int)))
theorem sc12 : FnScope ["symbol", "arity", "values", "size", "value"] ["symbol", "arity", "values", "size"] (defScope s12) := ⟨rfl, rfl, rfl, by decide +kernel, rfl, by decide +kernel, by decide +kernel⟩
theorem d12 {cdv : Value} {A : Around} {outer : List PySem.Env} {s : Shared} {H : Hp} {E : XK} {fa : Addr} (c : CS (GG P w K ca) mg base (k + 1) (cxOf (L2.CX P w) P w K mg base ["symbol", "arity", "values", "size", "value"] "is_table" (defScope s12) fa cdv A outer s H E)) (t : Tp (GG P w K ca) mg) (cs : Cs (GG P w K ca) mg base k) (ms : Ms (GG P w K ca) mg base k) :
    SimSs (GG P w K ca) (cxOf (L2.CX P w) P w K mg base ["symbol", "arity", "values", "size", "value"] "is_table" (defScope s12) fa cdv A outer s H E) [] (defBody s12) (m12 w (callI (T w) k) (callI (T w) (k - 1))) :=
  (ss_cons (s_if (sim_tcmp c.toCE.ne f_ne (sim_oV (c.toCE.len1 t.b_len (sim_oP c.toCE.ok (pn 2)) rfl)) (sim_oV (e_callF c.toCE.bx cs.c10 (sim_cons (vs 3) (sim_cons (vs 1) sim_nil)) rfl stars_cons (fun z => nomatch z))) (nomark _))
    (ss_one (s_ret sim_bl))
    ss_nil)
    (ss_one (s_ret (c.toCE.all1 t.b_all (sim_oV (e_lc (own := [("value", 4)]) c.toCE.calm c.nd (blkOk_by (show blkC ["symbol", "arity", "values", "size", "value"] (defScope s12) _ [("value", 4)] = true by decide +kernel)) (i_val c.toCE.bx.K (vs 2)) (c.toCE.inB fun s0 H0 C0 cl0 fp0 cb => (gn 4 kw cb.nd)) (c.toCE.inB fun s0 H0 C0 cl0 fp0 cb => ts_nil) (c.toCE.inB fun s0 H0 C0 cl0 fp0 cb => (e_chain op_le op_lt f_cmp.toB f_cmp (sim_oV sim_int) (sim_oV (vs 4)) (sim_oV (e_callF cb.bx cs.c11 (sim_cons (vs 0) (sim_cons (vs 3) sim_nil)) rfl stars_cons (fun z => nomatch z))))))) rfl))))
theorem sc13 : FnScope ["world", "formulas", "symbol", "arity", "full", "completed", "use", "formula"] ["world", "formulas"] (defScope s13) := ⟨rfl, rfl, rfl, by decide +kernel, rfl, by decide +kernel, by decide +kernel⟩
theorem d13 {cdv : Value} {A : Around} {outer : List PySem.Env} {s : Shared} {H : Hp} {E : XK} {fa : Addr} (c : CS (GG P w K ca) mg base (k + 1) (cxOf (L2.CX P w) P w K mg base ["world", "formulas", "symbol", "arity", "full", "completed", "use", "formula"] "accepts_world" (defScope s13) fa cdv A outer s H E)) (t : Tp (GG P w K ca) mg) (cs : Cs (GG P w K ca) mg base k) (ms : Ms (GG P w K ca) mg base k) :
    SimSs (GG P w K ca) (cxOf (L2.CX P w) P w K mg base ["world", "formulas", "symbol", "arity", "full", "completed", "use", "formula"] "accepts_world" (defScope s13) fa cdv A outer s H E) [] (defBody s13) (m13 w (callI (T w) k) (callI (T w) (k - 1))) :=
  (ss_cons (s_if (sim_tcmp op_lt f_cmp (sim_oP c.toCE.ok (pth_attr c.toCE.ok c.toCE.bx.K (pn 0) (f := 0) rfl rfl)) (sim_oV sim_int) (nomark _))
    (ss_one (s_ret sim_bl))
    ss_nil)
    (ss_cons (s_forD c.ok c.bx.w c.po c.calm (pth_attr c.ok c.bx.K (pn 0) (f := 1) rfl rfl) (g_tup c.toCE.bx.K c.toCE.calm (gs_cons krel_keep (gn 2 kk c.nd) (gs_cons krel_keep (gn 3 kk c.nd) (gs_nil krel_keep))) (aCons_len (aCons_len aNil_len)))
    (ss_one (s_if (sim_not (c.toCE.tru (sim_oV (e_callF c.toCE.bx cs.c12 (sim_cons (vs 2) (sim_cons (vs 3) (sim_cons (sim_ix c.toCE.ix f_ixX (sim_oP c.toCE.ok (pth_attr c.toCE.ok c.toCE.bx.K (pn 0) (f := 1) rfl rfl)) (sim_oV (sim_tup (sim_cons (vs 2) (sim_cons (vs 3) sim_nil)))) (fun _ _ => rfl)) (sim_cons (sim_rd c.toCE.ok (pth_attr c.toCE.ok c.toCE.bx.K (pn 0) (f := 0) rfl rfl)) sim_nil)))) rfl stars_cons (fun z => nomatch z)))))
    (ss_one (s_ret sim_bl))
    ss_nil)))
    (ss_cons (s_setDcD (own := [("use", 6)]) (j := 4) c.ok c.bx.K c.bx.w c.hu64 c.calm c.nd rfl rfl (sw_trueD rfl rfl rfl (by decide +kernel)) (blkOk_by (show blkC ["world", "formulas", "symbol", "arity", "full", "completed", "use", "formula"] (defScope s13) _ [("use", 6)] = true by decide +kernel)) (pth_attr c.ok c.bx.K (pn 0) (f := 1) rfl rfl) (c.toCE.inB fun s0 H0 C0 cl0 fp0 cb => (gn 6 kw cb.nd)) (c.toCE.inB fun s0 H0 C0 cl0 fp0 cb => ts_nil) (c.toCE.inB fun s0 H0 C0 cl0 fp0 cb => (sim_oV (vs 6))) (c.toCE.inB fun s0 H0 C0 cl0 fp0 cb => (sim_ix cb.ix f_ixX (sim_oP cb.ok (pth_attr cb.ok cb.bx.K (pn 0) (f := 1) rfl rfl)) (sim_oP cb.ok (pn 6)) (fun _ _ => rfl))) rfl)
    (ss_cons (s_for c.po c.calm (i_val c.toCE.bx.K (e_callF c.toCE.bx cs.c7 (sim_cons (vs 1) sim_nil) rfl stars_cons (fun z => nomatch z))) (g_tup c.toCE.bx.K c.toCE.calm (gs_cons krel_keep (gn 2 kk c.nd) (gs_cons krel_keep (gn 3 kk c.nd) (gs_nil krel_keep))) (aCons_len (aCons_len aNil_len)))
    (ss_one (s_if (sim_tcmp c.toCE.nin f_ninX (sim_oV (sim_tup (sim_cons (vs 2) (sim_cons (vs 3) sim_nil)))) (sim_oP c.toCE.ok (pn 4)) rfl)
    (ss_one (s_sub c.ok c.bx.K c.bx.w c.hu64 (sim_bin c.toCE.mul f_mulX (sim_oV (sim_tup (sim_cons sim_int sim_nil))) (sim_oV (e_callF c.toCE.bx cs.c10 (sim_cons (sim_rd c.toCE.ok (pth_attr c.toCE.ok c.toCE.bx.K (pn 0) (f := 0) rfl rfl)) (sim_cons (vs 3) sim_nil)) rfl stars_cons (fun z => nomatch z)))) (pn 4) (sim_oV (sim_tup (sim_cons (vs 2) (sim_cons (vs 3) sim_nil))))))
    ss_nil)))
    (ss_cons (s_set (i := 5) (e_make c.toCE.bx ms.m0 (sim_cons (sim_rd c.toCE.ok (pth_attr c.toCE.ok c.toCE.bx.K (pn 0) (f := 0) rfl rfl)) (sim_cons (vs 4) sim_nil)) rfl stars_cons (fun z => nomatch z)) c.nd rfl (by first | exact Or.inl rfl | exact Or.inr rfl) rfl)
    (ss_one (s_ret (c.toCE.all1 t.b_all (sim_oV (e_lc (own := [("formula", 7)]) c.toCE.calm c.nd (blkOk_by (show blkC ["world", "formulas", "symbol", "arity", "full", "completed", "use", "formula"] (defScope s13) _ [("formula", 7)] = true by decide +kernel)) (i_val c.toCE.bx.K (vs 1)) (c.toCE.inB fun s0 H0 C0 cl0 fp0 cb => (gn 7 kw cb.nd)) (c.toCE.inB fun s0 H0 C0 cl0 fp0 cb => ts_nil) (c.toCE.inB fun s0 H0 C0 cl0 fp0 cb => (e_callF cb.bx cs.c4 (sim_cons (vs 7) (sim_cons (vs 5) sim_nil)) rfl stars_cons (fun z => nomatch z))))) rfl))))))))
theorem sc14 : FnScope ["_law_script", "_law_count_here", "_law_rows_here", "_law_k", "_law_cell"] ["_law_script", "_law_count_here"] (defScope s14) := ⟨rfl, rfl, rfl, by decide +kernel, rfl, by decide +kernel, by decide +kernel⟩
theorem d14 {cdv : Value} {A : Around} {outer : List PySem.Env} {s : Shared} {H : Hp} {E : XK} {fa : Addr} (c : CS (GG P w K ca) mg base (k + 1) (cxOf (L2.CX P w) P w K mg base ["_law_script", "_law_count_here", "_law_rows_here", "_law_k", "_law_cell"] "_law_rows" (defScope s14) fa cdv A outer s H E)) (t : Tp (GG P w K ca) mg) (cs : Cs (GG P w K ca) mg base k) (ms : Ms (GG P w K ca) mg base k) :
    SimSs (GG P w K ca) (cxOf (L2.CX P w) P w K mg base ["_law_script", "_law_count_here", "_law_rows_here", "_law_k", "_law_cell"] "_law_rows" (defScope s14) fa cdv A outer s H E) [] (defBody s14) (m14 w (callI (T w) k) (callI (T w) (k - 1))) :=
  (ss_cons (s_set (i := 2) (sim_lst sim_nil) c.nd rfl (by first | exact Or.inl rfl | exact Or.inr rfl) rfl)
    (ss_cons (s_for c.po c.calm (i_range (sim_oP c.toCE.ok (pn 1)) rfl (by rw [c.toCE.bx.mg]; exact t.b_range)) (gn 3 kk c.nd)
    (ss_cons (s_set (i := 4) sim_int c.nd rfl (by first | exact Or.inl rfl | exact Or.inr rfl) rfl)
    (ss_cons (s_if (sim_tcmp op_gt f_cmp (sim_oV (c.toCE.len1 t.b_len (sim_oP c.toCE.ok (pn 0)) rfl)) (sim_oV sim_int) (nomark _))
    (ss_one (s_set (i := 4) (c.toCE.int1 t.b_int (sim_oV (sim_ix c.toCE.ix f_ixX (sim_oP c.toCE.ok (pn 0)) (sim_oV (sim_bin op_mod f_mod (sim_oV (c.toCE.int1 t.b_int (sim_oP c.toCE.ok (pn 3)) rfl)) (sim_oV (c.toCE.len1 t.b_len (sim_oP c.toCE.ok (pn 0)) rfl)))) (fun _ _ => rfl))) rfl) c.nd rfl (by first | exact Or.inl rfl | exact Or.inr rfl) rfl))
    ss_nil)
    (ss_cons (s_if (sim_tcmp op_lt f_cmp (sim_oP c.toCE.ok (pn 4)) (sim_oV sim_int) (nomark _))
    (ss_one (s_set (i := 4) (sim_bin op_sub f_int0 (sim_oV sim_int) (sim_oV (sim_bin c.toCE.mul f_mulX (sim_oV sim_int) (sim_oP c.toCE.ok (pn 4))))) c.nd rfl (by first | exact Or.inl rfl | exact Or.inr rfl) rfl))
    ss_nil)
    (ss_cons (s_if (sim_w2t (sim_or (sim_tcmp op_ge f_cmp (sim_oP c.toCE.ok (pn 3)) (sim_oV (c.toCE.len1 t.b_len (sim_oP c.toCE.ok (pn 0)) rfl)) (nomark _)) (sim_or1 (sim_tcmp op_lt f_cmp (sim_oP c.toCE.ok (pn 4)) (sim_oV sim_int) (nomark _)))))
    (ss_cons (s_set (i := 4) (sim_bin op_mod f_mod (sim_oV (c.toCE.int1 t.b_int (sim_oV (sim_bin c.toCE.mul f_mulX (sim_oV (sim_bin c.toCE.add f_add (sim_oV (sim_bin c.toCE.add f_add (sim_oP c.toCE.ok (pn 4)) (sim_oV (sim_bin c.toCE.mul f_mulX (sim_oV sim_int) (sim_oP c.toCE.ok (pn 3)))))) (sim_oV sim_int))) (sim_oV sim_int))) rfl)) (sim_oV sim_int)) c.nd rfl (by first | exact Or.inl rfl | exact Or.inr rfl) rfl)
    (ss_one (s_set (i := 4) (sim_bin op_mod f_mod (sim_oV (c.toCE.int1 t.b_int (sim_oV (sim_bin c.toCE.mul f_mulX (sim_oV (sim_bin c.toCE.add f_add (sim_oV (sim_bin c.toCE.add f_add (sim_oP c.toCE.ok (pn 4)) (sim_oV (sim_bin c.toCE.mul f_mulX (sim_oV sim_int) (sim_oP c.toCE.ok (pn 3)))))) (sim_oV sim_int))) (sim_oV sim_int))) rfl)) (sim_oV sim_int)) c.nd rfl (by first | exact Or.inl rfl | exact Or.inr rfl) rfl)))
    ss_nil)
    (ss_one (s_expr (e_app c.toCE.ok c.toCE.bx.K (vs 4) (pn 2)))))))))
    (ss_one (s_ret (vt 2)))))
theorem sc15 : FnScope ["_law_state_here", "_law_many", "_law_digit_here"] ["_law_state_here", "_law_many"] (defScope s15) := ⟨rfl, rfl, rfl, by decide +kernel, rfl, by decide +kernel, by decide +kernel⟩
theorem d15 {cdv : Value} {A : Around} {outer : List PySem.Env} {s : Shared} {H : Hp} {E : XK} {fa : Addr} (c : CS (GG P w K ca) mg base (k + 1) (cxOf (L2.CX P w) P w K mg base ["_law_state_here", "_law_many", "_law_digit_here"] "_law_digit" (defScope s15) fa cdv A outer s H E)) (t : Tp (GG P w K ca) mg) (cs : Cs (GG P w K ca) mg base k) (ms : Ms (GG P w K ca) mg base k) :
    SimSs (GG P w K ca) (cxOf (L2.CX P w) P w K mg base ["_law_state_here", "_law_many", "_law_digit_here"] "_law_digit" (defScope s15) fa cdv A outer s H E) [0] (defBody s15) (m15 w (callI (T w) k) (callI (T w) (k - 1))) :=
  (ss_cons (s_if (sim_tcmp op_lt f_cmp (sim_oV (sim_ix c.toCE.ix f_ixX (sim_oP c.toCE.ok (pn 0)) (sim_oV sim_int) (fun _ _ => rfl))) (sim_oP c.toCE.ok (pn 1)) (nomark _))
    (ss_cons (s_sub c.ok c.bx.K c.bx.w c.hu64 (sim_bin c.toCE.add f_add (sim_oV (sim_ix c.toCE.ix f_ixX (sim_oP c.toCE.ok (pn 0)) (sim_oV sim_int) (fun _ _ => rfl))) (sim_oV sim_int)) (pn 0) (sim_oV sim_int))
    (ss_one (s_sub c.ok c.bx.K c.bx.w c.hu64 (sim_bin c.toCE.add f_add (sim_oV (sim_ix c.toCE.ix f_ixX (sim_oP c.toCE.ok (pn 0)) (sim_oV sim_int) (fun _ _ => rfl))) (sim_oV (sim_ix c.toCE.ix f_ixX (sim_oV (sim_ix c.toCE.ix f_ixX (sim_oP c.toCE.ok (pn 0)) (sim_oV sim_int) (fun _ _ => rfl))) (sim_oV (sim_bin op_mod f_mod (sim_oV (c.toCE.int1 t.b_int (sim_oV (sim_ix c.toCE.ix f_ixX (sim_oP c.toCE.ok (pn 0)) (sim_oV sim_int) (fun _ _ => rfl))) rfl)) (sim_oV (c.toCE.len1 t.b_len (sim_oV (sim_ix c.toCE.ix f_ixX (sim_oP c.toCE.ok (pn 0)) (sim_oV sim_int) (fun _ _ => rfl))) rfl)))) (fun _ _ => rfl)))) (pn 0) (sim_oV sim_int))))
    ss_nil)
    (ss_cons (s_set (i := 2) (sim_bin op_mod f_mod (sim_oV (c.toCE.int1 t.b_int (sim_oV (sim_ix c.toCE.ix f_ixX (sim_oP c.toCE.ok (pn 0)) (sim_oV sim_int) (fun _ _ => rfl))) rfl)) (sim_oP c.toCE.ok (pn 1))) c.nd rfl (by first | exact Or.inl rfl | exact Or.inr rfl) rfl)
    (ss_cons (s_sub c.ok c.bx.K c.bx.w c.hu64 (sim_bin op_fdivW f_div (sim_oV (sim_ix c.toCE.ix f_ixX (sim_oP c.toCE.ok (pn 0)) (sim_oV sim_int) (fun _ _ => rfl))) (sim_oP c.toCE.ok (pn 1))) (pn 0) (sim_oV sim_int))
    (ss_one (s_ret (vt 2))))))
theorem sc16 : FnScope ["_law_script", "_law_rows_here"] ["_law_script"] (defScope s16) := ⟨rfl, rfl, rfl, by decide +kernel, rfl, by decide +kernel, by decide +kernel⟩
theorem d16 {cdv : Value} {A : Around} {outer : List PySem.Env} {s : Shared} {H : Hp} {E : XK} {fa : Addr} (c : CS (GG P w K ca) mg base (k + 1) (cxOf (L2.CX P w) P w K mg base ["_law_script", "_law_rows_here"] "_law_state" (defScope s16) fa cdv A outer s H E)) (t : Tp (GG P w K ca) mg) (cs : Cs (GG P w K ca) mg base k) (ms : Ms (GG P w K ca) mg base k) :
    SimSs (GG P w K ca) (cxOf (L2.CX P w) P w K mg base ["_law_script", "_law_rows_here"] "_law_state" (defScope s16) fa cdv A outer s H E) [] (defBody s16) (m16 w (callI (T w) k) (callI (T w) (k - 1))) :=
  (ss_cons (s_set (i := 1) (e_callF c.toCE.bx cs.c14 (sim_cons (vs 0) (sim_cons sim_int sim_nil)) rfl stars_cons (fun z => nomatch z)) c.nd rfl (by first | exact Or.inl rfl | exact Or.inr rfl) rfl)
    (ss_one (s_ret (sim_lst (sim_cons (sim_ix c.toCE.ix f_ixX (sim_oP c.toCE.ok (pn 1)) (sim_oV sim_int) (fun _ _ => rfl)) (sim_cons (vs 1) (sim_cons sim_int sim_nil)))))))
theorem sc17 : FnScope ["_law_state_here", "_law_depth", "_law_bound", "_law_kind"] ["_law_state_here", "_law_depth", "_law_bound"] (defScope s17) := ⟨rfl, rfl, rfl, by decide +kernel, rfl, by decide +kernel, by decide +kernel⟩
theorem d17 {cdv : Value} {A : Around} {outer : List PySem.Env} {s : Shared} {H : Hp} {E : XK} {fa : Addr} (c : CS (GG P w K ca) mg base (k + 1) (cxOf (L2.CX P w) P w K mg base ["_law_state_here", "_law_depth", "_law_bound", "_law_kind"] "_law_tree_term" (defScope s17) fa cdv A outer s H E)) (t : Tp (GG P w K ca) mg) (cs : Cs (GG P w K ca) mg base k) (ms : Ms (GG P w K ca) mg base k) :
    SimSs (GG P w K ca) (cxOf (L2.CX P w) P w K mg base ["_law_state_here", "_law_depth", "_law_bound", "_law_kind"] "_law_tree_term" (defScope s17) fa cdv A outer s H E) [0] (defBody s17) (m17 w (callI (T w) k) (callI (T w) (k - 1))) :=
  (ss_cons (s_set (i := 3) (e_call c.toCE.bx cs.c15 (vio 0 (x_in sim_int x_nil)) rfl stars_cons (fun z => nomatch z)) c.nd rfl (by first | exact Or.inl rfl | exact Or.inr rfl) rfl)
    (ss_cons (s_if (sim_w2t (sim_and (sim_tcmp op_lt f_cmp (sim_oP c.toCE.ok (pn 3)) (sim_oV sim_int) (nomark _)) (sim_and1 (sim_tcmp op_gt f_cmp (sim_oP c.toCE.ok (pn 2)) (sim_oV sim_int) (nomark _)))))
    (ss_one (s_ret (e_call c.toCE.bx cs.c15 (vio 0 (x_in (vs 2) x_nil)) rfl stars_cons (fun z => nomatch z))))
    ss_nil)
    (ss_cons (s_if (sim_w2t (sim_and (sim_tcmp c.toCE.eq f_eqX (sim_oP c.toCE.ok (pn 3)) (sim_oV sim_int) (nomark _)) (sim_and1 (sim_tcmp op_gt f_cmp (sim_oP c.toCE.ok (pn 1)) (sim_oV sim_int) (nomark _)))))
    (ss_one (s_ret (sim_tup (sim_cons (sim_tup (sim_cons sim_int (sim_cons sim_int (sim_cons sim_int sim_nil)))) (sim_cons (sim_tup (sim_cons (e_call c.toCE.bx cs.c17 (vio 0 (x_in (sim_bin op_sub f_int0 (sim_oP c.toCE.ok (pn 1)) (sim_oV sim_int)) (x_in (vs 2) x_nil))) rfl stars_cons (fun z => nomatch z)) sim_nil)) sim_nil)))))
    ss_nil)
    (ss_one (s_ret (sim_tup (sim_cons (sim_tup (sim_cons sim_int (sim_cons (e_call c.toCE.bx cs.c15 (vio 0 (x_in sim_int x_nil)) rfl stars_cons (fun z => nomatch z)) (sim_cons sim_int sim_nil)))) (sim_cons (sim_tup sim_nil) sim_nil))))))))
theorem sc18 : FnScope ["_law_state_here", "_law_depth", "_law_bound", "_law_kind", "_law_atom", "_law_word"] ["_law_state_here", "_law_depth", "_law_bound"] (defScope s18) := ⟨rfl, rfl, rfl, by decide +kernel, rfl, by decide +kernel, by decide +kernel⟩
theorem d18 {cdv : Value} {A : Around} {outer : List PySem.Env} {s : Shared} {H : Hp} {E : XK} {fa : Addr} (c : CS (GG P w K ca) mg base (k + 1) (cxOf (L2.CX P w) P w K mg base ["_law_state_here", "_law_depth", "_law_bound", "_law_kind", "_law_atom", "_law_word"] "_law_tree" (defScope s18) fa cdv A outer s H E)) (t : Tp (GG P w K ca) mg) (cs : Cs (GG P w K ca) mg base k) (ms : Ms (GG P w K ca) mg base k) :
    SimSs (GG P w K ca) (cxOf (L2.CX P w) P w K mg base ["_law_state_here", "_law_depth", "_law_bound", "_law_kind", "_law_atom", "_law_word"] "_law_tree" (defScope s18) fa cdv A outer s H E) [0] (defBody s18) (m18 w (callI (T w) k) (callI (T w) (k - 1))) :=
  (ss_cons (s_set (i := 3) (e_call c.toCE.bx cs.c15 (vio 0 (x_in sim_int x_nil)) rfl stars_cons (fun z => nomatch z)) c.nd rfl (by first | exact Or.inl rfl | exact Or.inr rfl) rfl)
    (ss_cons (s_if (sim_w2t (sim_or (sim_tcmp c.toCE.eq f_eqX (sim_oP c.toCE.ok (pn 1)) (sim_oV sim_int) (nomark _)) (sim_or1 (sim_tcmp op_lt f_cmp (sim_oP c.toCE.ok (pn 3)) (sim_oV sim_int) (nomark _)))))
    (ss_cons (s_set (i := 4) (e_call c.toCE.bx cs.c15 (vio 0 (x_in sim_int x_nil)) rfl stars_cons (fun z => nomatch z)) c.nd rfl (by first | exact Or.inl rfl | exact Or.inr rfl) rfl)
    (ss_cons (s_if (sim_tcmp c.toCE.eq f_eqX (sim_oP c.toCE.ok (pn 4)) (sim_oV sim_int) (nomark _))
    (ss_one (s_ret (sim_tup (sim_cons sim_str (sim_cons (sim_tup (sim_cons (sim_tup (sim_cons sim_int (sim_cons sim_int (sim_cons sim_int sim_nil)))) (sim_cons (sim_tup sim_nil) sim_nil))) sim_nil)))))
    ss_nil)
    (ss_cons (s_if (sim_tcmp c.toCE.eq f_eqX (sim_oP c.toCE.ok (pn 4)) (sim_oV sim_int) (nomark _))
    (ss_one (s_ret (sim_tup (sim_cons sim_str (sim_cons (e_call c.toCE.bx cs.c17 (vio 0 (x_in sim_int (x_in (vs 2) x_nil))) rfl stars_cons (fun z => nomatch z)) (sim_cons (e_call c.toCE.bx cs.c17 (vio 0 (x_in sim_int (x_in (vs 2) x_nil))) rfl stars_cons (fun z => nomatch z)) sim_nil))))))
    ss_nil)
    (ss_one (s_ret (sim_tup (sim_cons sim_str (sim_cons (sim_tup (sim_cons (sim_tup (sim_cons sim_int (sim_cons sim_int (sim_cons sim_int sim_nil)))) (sim_cons (sim_tup (sim_cons (e_call c.toCE.bx cs.c17 (vio 0 (x_in sim_int (x_in (vs 2) x_nil))) rfl stars_cons (fun z => nomatch z)) sim_nil)) sim_nil))) sim_nil))))))))
    ss_nil)
    (ss_cons (s_if (sim_tcmp c.toCE.eq f_eqX (sim_oP c.toCE.ok (pn 3)) (sim_oV sim_int) (nomark _))
    (ss_one (s_ret (sim_tup (sim_cons sim_str (sim_cons (e_call c.toCE.bx cs.c18 (vio 0 (x_in (sim_bin op_sub f_int0 (sim_oP c.toCE.ok (pn 1)) (sim_oV sim_int)) (x_in (vs 2) x_nil))) rfl stars_cons (fun z => nomatch z)) sim_nil)))))
    ss_nil)
    (ss_cons (s_if (sim_tcmp op_lt f_cmp (sim_oP c.toCE.ok (pn 3)) (sim_oV sim_int) (nomark _))
    (ss_one (s_ret (sim_tup (sim_cons (sim_ix c.toCE.ix f_ixX (sim_oV (sim_tup (sim_cons sim_str (sim_cons sim_str sim_nil)))) (sim_oV (e_call c.toCE.bx cs.c15 (vio 0 (x_in sim_int x_nil)) rfl stars_cons (fun z => nomatch z))) (fun _ _ => rfl)) (sim_cons (vs 2) (sim_cons (e_call c.toCE.bx cs.c18 (vio 0 (x_in (sim_bin op_sub f_int0 (sim_oP c.toCE.ok (pn 1)) (sim_oV sim_int)) (x_in (sim_bin c.toCE.add f_add (sim_oP c.toCE.ok (pn 2)) (sim_oV sim_int)) x_nil))) rfl stars_cons (fun z => nomatch z)) sim_nil))))))
    ss_nil)
    (ss_cons (s_set (i := 5) (sim_ix c.toCE.ix f_ixX (sim_oV (sim_tup (sim_cons sim_str (sim_cons sim_str (sim_cons sim_str (sim_cons sim_str sim_nil)))))) (sim_oV (e_call c.toCE.bx cs.c15 (vio 0 (x_in sim_int x_nil)) rfl stars_cons (fun z => nomatch z))) (fun _ _ => rfl)) c.nd rfl (by first | exact Or.inl rfl | exact Or.inr rfl) rfl)
    (ss_one (s_ret (sim_tup (sim_cons (vs 5) (sim_cons (e_call c.toCE.bx cs.c18 (vio 0 (x_in (sim_bin op_sub f_int0 (sim_oP c.toCE.ok (pn 1)) (sim_oV sim_int)) (x_in (vs 2) x_nil))) rfl stars_cons (fun z => nomatch z)) (sim_cons (e_call c.toCE.bx cs.c18 (vio 0 (x_in (sim_bin op_sub f_int0 (sim_oP c.toCE.ok (pn 1)) (sim_oV sim_int)) (x_in (vs 2) x_nil))) rfl stars_cons (fun z => nomatch z)) sim_nil)))))))))))
theorem sc19 : FnScope ["_law_term", "_law_row", "_law_size", "_law_tables_here", "_law_index", "_law_argument"] ["_law_term", "_law_row", "_law_size", "_law_tables_here"] (defScope s19) := ⟨rfl, rfl, rfl, by decide +kernel, rfl, by decide +kernel, by decide +kernel⟩
theorem d19 {cdv : Value} {A : Around} {outer : List PySem.Env} {s : Shared} {H : Hp} {E : XK} {fa : Addr} (c : CS (GG P w K ca) mg base (k + 1) (cxOf (L2.CX P w) P w K mg base ["_law_term", "_law_row", "_law_size", "_law_tables_here", "_law_index", "_law_argument"] "_law_value" (defScope s19) fa cdv A outer s H E)) (t : Tp (GG P w K ca) mg) (cs : Cs (GG P w K ca) mg base k) (ms : Ms (GG P w K ca) mg base k) :
    SimSs (GG P w K ca) (cxOf (L2.CX P w) P w K mg base ["_law_term", "_law_row", "_law_size", "_law_tables_here", "_law_index", "_law_argument"] "_law_value" (defScope s19) fa cdv A outer s H E) [] (defBody s19) (m19 w (callI (T w) k) (callI (T w) (k - 1))) :=
  (ss_cons (s_if (c.toCE.tru (sim_oV (c.toCE.isi t.b_isinstance t.b_int (sim_oV (vs 0)) rfl rfl (by decide +kernel))))
    (ss_one (s_ret (sim_ix c.toCE.ix f_ixX (sim_oP c.toCE.ok (pn 1)) (sim_oP c.toCE.ok (pn 0)) (fun _ _ => rfl))))
    ss_nil)
    (ss_cons (s_set (i := 4) sim_int c.nd rfl (by first | exact Or.inl rfl | exact Or.inr rfl) rfl)
    (ss_cons (s_for c.po c.calm (i_val c.toCE.bx.K (sim_ix c.toCE.ix f_ixX (sim_oP c.toCE.ok (pn 0)) (sim_oV sim_int) (fun _ _ => rfl))) (gn 5 kk c.nd)
    (ss_one (s_set (i := 4) (sim_bin c.toCE.add f_add (sim_oV (sim_bin c.toCE.mul f_mulX (sim_oP c.toCE.ok (pn 4)) (sim_oP c.toCE.ok (pn 2)))) (sim_oV (e_callF c.toCE.bx cs.c19 (sim_cons (vs 5) (sim_cons (vs 1) (sim_cons (vs 2) (sim_cons (vs 3) sim_nil)))) rfl stars_cons (fun z => nomatch z)))) c.nd rfl (by first | exact Or.inl rfl | exact Or.inr rfl) rfl)))
    (ss_one (s_ret (sim_ix c.toCE.ix f_ixX (sim_oV (sim_ix c.toCE.ix f_ixX (sim_oP c.toCE.ok (pn 3)) (sim_oV (sim_tup (sim_cons (sim_ix c.toCE.ix f_ixX (sim_oP c.toCE.ok (pn 0)) (sim_oV sim_int) (fun _ _ => rfl)) (sim_cons (c.toCE.len1 t.b_len (sim_oV (sim_ix c.toCE.ix f_ixX (sim_oP c.toCE.ok (pn 0)) (sim_oV sim_int) (fun _ _ => rfl))) rfl) sim_nil)))) (fun _ _ => rfl))) (sim_oP c.toCE.ok (pn 4)) (fun _ _ => rfl)))))))
theorem sc20 : FnScope ["_law_tree_here", "_law_row", "_law_size", "_law_tables_here", "_law_word", "_law_individual", "_law_inner", "_law_one", "_law_two"] ["_law_tree_here", "_law_row", "_law_size", "_law_tables_here"] (defScope s20) := ⟨rfl, rfl, rfl, by decide +kernel, rfl, by decide +kernel, by decide +kernel⟩
theorem d20 {cdv : Value} {A : Around} {outer : List PySem.Env} {s : Shared} {H : Hp} {E : XK} {fa : Addr} (c : CS (GG P w K ca) mg base (k + 1) (cxOf (L2.CX P w) P w K mg base ["_law_tree_here", "_law_row", "_law_size", "_law_tables_here", "_law_word", "_law_individual", "_law_inner", "_law_one", "_law_two"] "_law_true" (defScope s20) fa cdv A outer s H E)) (t : Tp (GG P w K ca) mg) (cs : Cs (GG P w K ca) mg base k) (ms : Ms (GG P w K ca) mg base k) :
    SimSs (GG P w K ca) (cxOf (L2.CX P w) P w K mg base ["_law_tree_here", "_law_row", "_law_size", "_law_tables_here", "_law_word", "_law_individual", "_law_inner", "_law_one", "_law_two"] "_law_true" (defScope s20) fa cdv A outer s H E) [] (defBody s20) (m20 w (callI (T w) k) (callI (T w) (k - 1))) :=
  (ss_cons (s_set (i := 4) (sim_ix c.toCE.ix f_ixX (sim_oP c.toCE.ok (pn 0)) (sim_oV sim_int) (fun _ _ => rfl)) c.nd rfl (by first | exact Or.inl rfl | exact Or.inr rfl) rfl)
    (ss_cons (s_if (sim_tcmp c.toCE.eq f_eqX (sim_oP c.toCE.ok (pn 4)) (sim_oV sim_str) (nomark _))
    (ss_one (s_ret (sim_cmp c.toCE.eq f_eqX (sim_oV (e_callF c.toCE.bx cs.c19 (sim_cons (sim_ix c.toCE.ix f_ixX (sim_oP c.toCE.ok (pn 0)) (sim_oV sim_int) (fun _ _ => rfl)) (sim_cons (vs 1) (sim_cons (vs 2) (sim_cons (vs 3) sim_nil)))) rfl stars_cons (fun z => nomatch z))) (sim_oV sim_int) (nomark _))))
    ss_nil)
    (ss_cons (s_if (sim_tcmp c.toCE.eq f_eqX (sim_oP c.toCE.ok (pn 4)) (sim_oV sim_str) (nomark _))
    (ss_one (s_ret (sim_cmp c.toCE.eq f_eqX (sim_oV (e_callF c.toCE.bx cs.c19 (sim_cons (sim_ix c.toCE.ix f_ixX (sim_oP c.toCE.ok (pn 0)) (sim_oV sim_int) (fun _ _ => rfl)) (sim_cons (vs 1) (sim_cons (vs 2) (sim_cons (vs 3) sim_nil)))) rfl stars_cons (fun z => nomatch z))) (sim_oV (e_callF c.toCE.bx cs.c19 (sim_cons (sim_ix c.toCE.ix f_ixX (sim_oP c.toCE.ok (pn 0)) (sim_oV sim_int) (fun _ _ => rfl)) (sim_cons (vs 1) (sim_cons (vs 2) (sim_cons (vs 3) sim_nil)))) rfl stars_cons (fun z => nomatch z))) (nomark _))))
    ss_nil)
    (ss_cons (s_if (sim_tcmp c.toCE.eq f_eqX (sim_oP c.toCE.ok (pn 4)) (sim_oV sim_str) (nomark _))
    (ss_one (s_ret (sim_notV (e_callF c.toCE.bx cs.c20 (sim_cons (sim_ix c.toCE.ix f_ixX (sim_oP c.toCE.ok (pn 0)) (sim_oV sim_int) (fun _ _ => rfl)) (sim_cons (vs 1) (sim_cons (vs 2) (sim_cons (vs 3) sim_nil)))) rfl stars_cons (fun z => nomatch z)))))
    ss_nil)
    (ss_cons (s_if (sim_w2t (sim_or (sim_tcmp c.toCE.eq f_eqX (sim_oP c.toCE.ok (pn 4)) (sim_oV sim_str) (nomark _)) (sim_or1 (sim_tcmp c.toCE.eq f_eqX (sim_oP c.toCE.ok (pn 4)) (sim_oV sim_str) (nomark _)))))
    (ss_cons (s_for c.po c.calm (i_range (sim_oP c.toCE.ok (pn 2)) rfl (by rw [c.toCE.bx.mg]; exact t.b_range)) (gn 5 kk c.nd)
    (ss_cons (s_set (i := 6) (c.toCE.dct1 t.b_dict (sim_oP c.toCE.ok (pn 1)) rfl) c.nd rfl (by first | exact Or.inl rfl | exact Or.inr rfl) rfl)
    (ss_cons (s_sub c.ok c.bx.K c.bx.w c.hu64 (vs 5) (pn 6) (sim_oV (sim_ix c.toCE.ix f_ixX (sim_oP c.toCE.ok (pn 0)) (sim_oV sim_int) (fun _ _ => rfl))))
    (ss_one (s_if (sim_tcmp c.toCE.eq f_eqX (sim_oV (e_callF c.toCE.bx cs.c20 (sim_cons (sim_ix c.toCE.ix f_ixX (sim_oP c.toCE.ok (pn 0)) (sim_oV sim_int) (fun _ _ => rfl)) (sim_cons (vs 6) (sim_cons (vs 2) (sim_cons (vs 3) sim_nil)))) rfl stars_cons (fun z => nomatch z))) (sim_oV (sim_cmp c.toCE.eq f_eqX (sim_oP c.toCE.ok (pn 4)) (sim_oV sim_str) (nomark _))) (nomark _))
    (ss_one (s_ret (sim_cmp c.toCE.eq f_eqX (sim_oP c.toCE.ok (pn 4)) (sim_oV sim_str) (nomark _))))
    ss_nil)))))
    (ss_one (s_ret (sim_cmp c.toCE.eq f_eqX (sim_oP c.toCE.ok (pn 4)) (sim_oV sim_str) (nomark _)))))
    ss_nil)
    (ss_cons (s_set (i := 7) (e_callF c.toCE.bx cs.c20 (sim_cons (sim_ix c.toCE.ix f_ixX (sim_oP c.toCE.ok (pn 0)) (sim_oV sim_int) (fun _ _ => rfl)) (sim_cons (vs 1) (sim_cons (vs 2) (sim_cons (vs 3) sim_nil)))) rfl stars_cons (fun z => nomatch z)) c.nd rfl (by first | exact Or.inl rfl | exact Or.inr rfl) rfl)
    (ss_cons (s_set (i := 8) (e_callF c.toCE.bx cs.c20 (sim_cons (sim_ix c.toCE.ix f_ixX (sim_oP c.toCE.ok (pn 0)) (sim_oV sim_int) (fun _ _ => rfl)) (sim_cons (vs 1) (sim_cons (vs 2) (sim_cons (vs 3) sim_nil)))) rfl stars_cons (fun z => nomatch z)) c.nd rfl (by first | exact Or.inl rfl | exact Or.inr rfl) rfl)
    (ss_cons (s_if (sim_tcmp c.toCE.eq f_eqX (sim_oP c.toCE.ok (pn 4)) (sim_oV sim_str) (nomark _))
    (ss_one (s_ret (sim_andV (vs 7) (sim_one (vs 8)))))
    ss_nil)
    (ss_cons (s_if (sim_tcmp c.toCE.eq f_eqX (sim_oP c.toCE.ok (pn 4)) (sim_oV sim_str) (nomark _))
    (ss_one (s_ret (sim_orV (vs 7) (sim_one (vs 8)))))
    ss_nil)
    (ss_cons (s_if (sim_tcmp c.toCE.eq f_eqX (sim_oP c.toCE.ok (pn 4)) (sim_oV sim_str) (nomark _))
    (ss_one (s_ret (sim_orV (sim_notV (vs 7)) (sim_one (vs 8)))))
    ss_nil)
    (ss_one (s_ret (sim_cmp c.toCE.eq f_eqX (sim_oP c.toCE.ok (pn 7)) (sim_oP c.toCE.ok (pn 8)) (nomark _))))))))))))))
theorem sc21 : FnScope ["_law_term", "_law_found", "_law_use", "_law_argument"] ["_law_term", "_law_found"] (defScope s21) := ⟨rfl, rfl, rfl, by decide +kernel, rfl, by decide +kernel, by decide +kernel⟩
theorem d21 {cdv : Value} {A : Around} {outer : List PySem.Env} {s : Shared} {H : Hp} {E : XK} {fa : Addr} (c : CS (GG P w K ca) mg base (k + 1) (cxOf (L2.CX P w) P w K mg base ["_law_term", "_law_found", "_law_use", "_law_argument"] "_law_uses_of_term" (defScope s21) fa cdv A outer s H E)) (t : Tp (GG P w K ca) mg) (cs : Cs (GG P w K ca) mg base k) (ms : Ms (GG P w K ca) mg base k) :
    SimSs (GG P w K ca) (cxOf (L2.CX P w) P w K mg base ["_law_term", "_law_found", "_law_use", "_law_argument"] "_law_uses_of_term" (defScope s21) fa cdv A outer s H E) [1] (defBody s21) (m21 w (callI (T w) k) (callI (T w) (k - 1))) :=
  (ss_cons (s_if (c.toCE.tru (sim_oV (c.toCE.isi t.b_isinstance t.b_int (sim_oV (vs 0)) rfl rfl (by decide +kernel))))
    (ss_one s_retN)
    ss_nil)
    (ss_cons (s_set (i := 2) (sim_tup (sim_cons (sim_ix c.toCE.ix f_ixX (sim_oP c.toCE.ok (pn 0)) (sim_oV sim_int) (fun _ _ => rfl)) (sim_cons (c.toCE.len1 t.b_len (sim_oV (sim_ix c.toCE.ix f_ixX (sim_oP c.toCE.ok (pn 0)) (sim_oV sim_int) (fun _ _ => rfl))) rfl) sim_nil))) c.nd rfl (by first | exact Or.inl rfl | exact Or.inr rfl) rfl)
    (ss_cons (s_if (sim_tcmp c.toCE.nin f_ninX (sim_oP c.toCE.ok (pn 2)) (sim_oP c.toCE.ok (pn 1)) rfl)
    (ss_one (s_expr (e_app c.toCE.ok c.toCE.bx.K (vs 2) (pn 1))))
    ss_nil)
    (ss_one (s_for c.po c.calm (i_val c.toCE.bx.K (sim_ix c.toCE.ix f_ixX (sim_oP c.toCE.ok (pn 0)) (sim_oV sim_int) (fun _ _ => rfl))) (gn 3 kk c.nd)
    (ss_one (s_expr (e_call c.toCE.bx cs.c21 (x_in (vs 3) (vio 1 x_nil)) rfl stars_cons (fun z => nomatch z)))))))))
theorem sc22 : FnScope ["_law_tree_here", "_law_found", "_law_part"] ["_law_tree_here", "_law_found"] (defScope s22) := ⟨rfl, rfl, rfl, by decide +kernel, rfl, by decide +kernel, by decide +kernel⟩
theorem d22 {cdv : Value} {A : Around} {outer : List PySem.Env} {s : Shared} {H : Hp} {E : XK} {fa : Addr} (c : CS (GG P w K ca) mg base (k + 1) (cxOf (L2.CX P w) P w K mg base ["_law_tree_here", "_law_found", "_law_part"] "_law_uses_of" (defScope s22) fa cdv A outer s H E)) (t : Tp (GG P w K ca) mg) (cs : Cs (GG P w K ca) mg base k) (ms : Ms (GG P w K ca) mg base k) :
    SimSs (GG P w K ca) (cxOf (L2.CX P w) P w K mg base ["_law_tree_here", "_law_found", "_law_part"] "_law_uses_of" (defScope s22) fa cdv A outer s H E) [1] (defBody s22) (m22 w (callI (T w) k) (callI (T w) (k - 1))) :=
  (ss_one (s_if (sim_tcmp c.toCE.eq f_eqX (sim_oV (sim_ix c.toCE.ix f_ixX (sim_oP c.toCE.ok (pn 0)) (sim_oV sim_int) (fun _ _ => rfl))) (sim_oV sim_str) (nomark _))
    (ss_one (s_expr (e_call c.toCE.bx cs.c21 (x_in (sim_ix c.toCE.ix f_ixX (sim_oP c.toCE.ok (pn 0)) (sim_oV sim_int) (fun _ _ => rfl)) (vio 1 x_nil)) rfl stars_cons (fun z => nomatch z))))
    (ss_one (s_if (sim_tcmp c.toCE.eq f_eqX (sim_oV (sim_ix c.toCE.ix f_ixX (sim_oP c.toCE.ok (pn 0)) (sim_oV sim_int) (fun _ _ => rfl))) (sim_oV sim_str) (nomark _))
    (ss_cons (s_expr (e_call c.toCE.bx cs.c21 (x_in (sim_ix c.toCE.ix f_ixX (sim_oP c.toCE.ok (pn 0)) (sim_oV sim_int) (fun _ _ => rfl)) (vio 1 x_nil)) rfl stars_cons (fun z => nomatch z)))
    (ss_one (s_expr (e_call c.toCE.bx cs.c21 (x_in (sim_ix c.toCE.ix f_ixX (sim_oP c.toCE.ok (pn 0)) (sim_oV sim_int) (fun _ _ => rfl)) (vio 1 x_nil)) rfl stars_cons (fun z => nomatch z)))))
    (ss_one (s_if (sim_w2t (sim_or (sim_tcmp c.toCE.eq f_eqX (sim_oV (sim_ix c.toCE.ix f_ixX (sim_oP c.toCE.ok (pn 0)) (sim_oV sim_int) (fun _ _ => rfl))) (sim_oV sim_str) (nomark _)) (sim_or1 (sim_tcmp c.toCE.eq f_eqX (sim_oV (sim_ix c.toCE.ix f_ixX (sim_oP c.toCE.ok (pn 0)) (sim_oV sim_int) (fun _ _ => rfl))) (sim_oV sim_str) (nomark _)))))
    (ss_one (s_expr (e_call c.toCE.bx cs.c22 (x_in (sim_ix c.toCE.ix f_ixX (sim_oP c.toCE.ok (pn 0)) (sim_oV sim_int) (fun _ _ => rfl)) (vio 1 x_nil)) rfl stars_cons (fun z => nomatch z))))
    (ss_one (s_for c.po c.calm (i_val c.toCE.bx.K (e_sl c.toCE.bx.K (sim_oP c.toCE.ok (pn 0)) (p_some (sim_oV sim_int)) p_none)) (gn 2 kk c.nd)
    (ss_one (s_expr (e_call c.toCE.bx cs.c22 (x_in (vs 2) (vio 1 x_nil)) rfl stars_cons (fun z => nomatch z))))))))))))
theorem sc23 : FnScope ["_law_size", "_law_arity", "_law_count_here", "_law_k"] ["_law_size", "_law_arity"] (defScope s23) := ⟨rfl, rfl, rfl, by decide +kernel, rfl, by decide +kernel, by decide +kernel⟩
theorem d23 {cdv : Value} {A : Around} {outer : List PySem.Env} {s : Shared} {H : Hp} {E : XK} {fa : Addr} (c : CS (GG P w K ca) mg base (k + 1) (cxOf (L2.CX P w) P w K mg base ["_law_size", "_law_arity", "_law_count_here", "_law_k"] "_law_count" (defScope s23) fa cdv A outer s H E)) (t : Tp (GG P w K ca) mg) (cs : Cs (GG P w K ca) mg base k) (ms : Ms (GG P w K ca) mg base k) :
    SimSs (GG P w K ca) (cxOf (L2.CX P w) P w K mg base ["_law_size", "_law_arity", "_law_count_here", "_law_k"] "_law_count" (defScope s23) fa cdv A outer s H E) [] (defBody s23) (m23 w (callI (T w) k) (callI (T w) (k - 1))) :=
  (ss_cons (s_set (i := 2) sim_int c.nd rfl (by first | exact Or.inl rfl | exact Or.inr rfl) rfl)
    (ss_cons (s_for c.po c.calm (i_range (sim_oP c.toCE.ok (pn 1)) rfl (by rw [c.toCE.bx.mg]; exact t.b_range)) (gn 3 kk c.nd)
    (ss_one (s_set (i := 2) (sim_bin c.toCE.mul f_mulX (sim_oP c.toCE.ok (pn 2)) (sim_oP c.toCE.ok (pn 0))) c.nd rfl (by first | exact Or.inl rfl | exact Or.inr rfl) rfl)))
    (ss_one (s_ret (vt 2)))))
theorem sc24 : FnScope ["_law_symbol", "_law_size"] ["_law_symbol", "_law_size"] (defScope s24) := ⟨rfl, rfl, rfl, by decide +kernel, rfl, by decide +kernel, by decide +kernel⟩
theorem d24 {cdv : Value} {A : Around} {outer : List PySem.Env} {s : Shared} {H : Hp} {E : XK} {fa : Addr} (c : CS (GG P w K ca) mg base (k + 1) (cxOf (L2.CX P w) P w K mg base ["_law_symbol", "_law_size"] "_law_limit" (defScope s24) fa cdv A outer s H E)) (t : Tp (GG P w K ca) mg) (cs : Cs (GG P w K ca) mg base k) (ms : Ms (GG P w K ca) mg base k) :
    SimSs (GG P w K ca) (cxOf (L2.CX P w) P w K mg base ["_law_symbol", "_law_size"] "_law_limit" (defScope s24) fa cdv A outer s H E) [] (defBody s24) (m24 w (callI (T w) k) (callI (T w) (k - 1))) :=
  (ss_cons (s_if (sim_w2t (sim_or (sim_tcmp c.toCE.eq f_eqX (sim_oV (sim_ix c.toCE.ix f_ixX (sim_oP c.toCE.ok (pn 0)) (sim_oV sim_int) (fun _ _ => rfl))) (sim_oV sim_int) (nomark _)) (sim_or1 (sim_tcmp c.toCE.eq f_eqX (sim_oV (sim_ix c.toCE.ix f_ixX (sim_oP c.toCE.ok (pn 0)) (sim_oV sim_int) (fun _ _ => rfl))) (sim_oV sim_int) (nomark _)))))
    (ss_one (s_ret (vt 1)))
    ss_nil)
    (ss_one (s_ret sim_int)))
theorem sc25 : FnScope ["_law_state_here", "_law_uses", "_law_size", "_law_tables_here", "_law_symbol", "_law_arity", "_law_values", "_law_k"] ["_law_state_here", "_law_uses", "_law_size"] (defScope s25) := ⟨rfl, rfl, rfl, by decide +kernel, rfl, by decide +kernel, by decide +kernel⟩
theorem d25 {cdv : Value} {A : Around} {outer : List PySem.Env} {s : Shared} {H : Hp} {E : XK} {fa : Addr} (c : CS (GG P w K ca) mg base (k + 1) (cxOf (L2.CX P w) P w K mg base ["_law_state_here", "_law_uses", "_law_size", "_law_tables_here", "_law_symbol", "_law_arity", "_law_values", "_law_k"] "_law_tables" (defScope s25) fa cdv A outer s H E)) (t : Tp (GG P w K ca) mg) (cs : Cs (GG P w K ca) mg base k) (ms : Ms (GG P w K ca) mg base k) :
    SimSs (GG P w K ca) (cxOf (L2.CX P w) P w K mg base ["_law_state_here", "_law_uses", "_law_size", "_law_tables_here", "_law_symbol", "_law_arity", "_law_values", "_law_k"] "_law_tables" (defScope s25) fa cdv A outer s H E) [0] (defBody s25) (m25 w (callI (T w) k) (callI (T w) (k - 1))) :=
  (ss_cons (s_set (i := 3) e_dnew c.nd rfl (by first | exact Or.inl rfl | exact Or.inr rfl) rfl)
    (ss_cons (s_for c.po c.calm (i_val c.toCE.bx.K (vs 1)) (g_tup c.toCE.bx.K c.toCE.calm (gs_cons krel_keep (gn 4 kk c.nd) (gs_cons krel_keep (gn 5 kk c.nd) (gs_nil krel_keep))) (aCons_len (aCons_len aNil_len)))
    (ss_one (s_if (sim_tcmp op_gt f_cmp (sim_oV (e_call c.toCE.bx cs.c15 (vio 0 (x_in sim_int x_nil)) rfl stars_cons (fun z => nomatch z))) (sim_oV sim_int) (nomark _))
    (ss_cons (s_setLc (own := [("_law_k", 7)]) (i := 6) c.calm c.nd rfl rfl (sw_true rfl rfl rfl (by decide +kernel)) (blkOk_by (show blkC ["_law_state_here", "_law_uses", "_law_size", "_law_tables_here", "_law_symbol", "_law_arity", "_law_values", "_law_k"] (defScope s25) _ [("_law_k", 7)] = true by decide +kernel)) (i_range (sim_oV (e_callF c.toCE.bx cs.c23 (sim_cons (vs 2) (sim_cons (vs 5) sim_nil)) rfl stars_cons (fun z => nomatch z))) rfl (by rw [c.toCE.bx.mg]; exact t.b_range)) (c.toCE.inB fun s0 H0 C0 cl0 fp0 cb => (gn 7 kw cb.nd)) (c.toCE.inB fun s0 H0 C0 cl0 fp0 cb => ts_nil) (c.toCE.inB fun s0 H0 C0 cl0 fp0 cb => (e_call cb.bx cs.c15 (vio 0 (x_in (cb.max2 t.b_max (sim_oV sim_int) (sim_oV (e_callF cb.bx cs.c24 (sim_cons (vs 4) (sim_cons (vs 2) sim_nil)) rfl stars_cons (fun z => nomatch z))) rfl) x_nil)) rfl stars_cons (fun z => nomatch z))) rfl)
    (ss_cons (s_if (sim_tcmp c.toCE.eq f_eqX (sim_oV (e_call c.toCE.bx cs.c15 (vio 0 (x_in sim_int x_nil)) rfl stars_cons (fun z => nomatch z))) (sim_oV sim_int) (nomark _))
    (ss_one (s_expr (e_app c.toCE.ok c.toCE.bx.K sim_int (pn 6))))
    ss_nil)
    (ss_cons (s_if (sim_tcmp c.toCE.eq f_eqX (sim_oV (e_call c.toCE.bx cs.c15 (vio 0 (x_in sim_int x_nil)) rfl stars_cons (fun z => nomatch z))) (sim_oV sim_int) (nomark _))
    (ss_one (s_set (i := 6) (e_sl c.toCE.bx.K (sim_oP c.toCE.ok (pn 6)) (p_some (sim_oV sim_int)) p_none) c.nd rfl (by first | exact Or.inl rfl | exact Or.inr rfl) rfl))
    ss_nil)
    (ss_cons (s_if (sim_w2t (sim_and (sim_tcmp op_gt f_cmp (sim_oV (c.toCE.len1 t.b_len (sim_oP c.toCE.ok (pn 6)) rfl)) (sim_oV sim_int) (nomark _)) (sim_and1 (sim_tcmp c.toCE.eq f_eqX (sim_oV (e_call c.toCE.bx cs.c15 (vio 0 (x_in sim_int x_nil)) rfl stars_cons (fun z => nomatch z))) (sim_oV sim_int) (nomark _)))))
    (ss_one (s_sub c.ok c.bx.K c.bx.w c.hu64 (e_callF c.toCE.bx cs.c24 (sim_cons (vs 4) (sim_cons (vs 2) sim_nil)) rfl stars_cons (fun z => nomatch z)) (pn 6) (sim_oV (e_call c.toCE.bx cs.c15 (vio 0 (x_in (c.toCE.len1 t.b_len (sim_oP c.toCE.ok (pn 6)) rfl) x_nil)) rfl stars_cons (fun z => nomatch z)))))
    ss_nil)
    (ss_one (s_sub c.ok c.bx.K c.bx.w c.hu64 (c.toCE.tup1 t.b_tuple (sim_oP c.toCE.ok (pn 6)) rfl) (pn 3) (sim_oV (sim_tup (sim_cons (vs 4) (sim_cons (vs 5) sim_nil))))))))))
    ss_nil)))
    (ss_one (s_ret (vt 3)))))
theorem sc26 : FnScope ["_law_tables_here", "_law_size", "_law_symbol", "_law_arity", "_law_values", "_law_value_here"] ["_law_tables_here", "_law_size"] (defScope s26) := ⟨rfl, rfl, rfl, by decide +kernel, rfl, by decide +kernel, by decide +kernel⟩
theorem d26 {cdv : Value} {A : Around} {outer : List PySem.Env} {s : Shared} {H : Hp} {E : XK} {fa : Addr} (c : CS (GG P w K ca) mg base (k + 1) (cxOf (L2.CX P w) P w K mg base ["_law_tables_here", "_law_size", "_law_symbol", "_law_arity", "_law_values", "_law_value_here"] "_law_fits" (defScope s26) fa cdv A outer s H E)) (t : Tp (GG P w K ca) mg) (cs : Cs (GG P w K ca) mg base k) (ms : Ms (GG P w K ca) mg base k) :
    SimSs (GG P w K ca) (cxOf (L2.CX P w) P w K mg base ["_law_tables_here", "_law_size", "_law_symbol", "_law_arity", "_law_values", "_law_value_here"] "_law_fits" (defScope s26) fa cdv A outer s H E) [] (defBody s26) (m26 w (callI (T w) k) (callI (T w) (k - 1))) :=
  (ss_cons (s_forD c.ok c.bx.w c.po c.calm (pn 0) (g_tup c.toCE.bx.K c.toCE.calm (gs_cons krel_keep (gn 2 kk c.nd) (gs_cons krel_keep (gn 3 kk c.nd) (gs_nil krel_keep))) (aCons_len (aCons_len aNil_len)))
    (ss_cons (s_set (i := 4) (sim_ix c.toCE.ix f_ixX (sim_oP c.toCE.ok (pn 0)) (sim_oV (sim_tup (sim_cons (vs 2) (sim_cons (vs 3) sim_nil)))) (fun _ _ => rfl)) c.nd rfl (by first | exact Or.inl rfl | exact Or.inr rfl) rfl)
    (ss_cons (s_if (sim_tcmp c.toCE.ne f_ne (sim_oV (c.toCE.len1 t.b_len (sim_oP c.toCE.ok (pn 4)) rfl)) (sim_oV (e_callF c.toCE.bx cs.c23 (sim_cons (vs 1) (sim_cons (vs 3) sim_nil)) rfl stars_cons (fun z => nomatch z))) (nomark _))
    (ss_one (s_ret sim_bl))
    ss_nil)
    (ss_one (s_for c.po c.calm (i_val c.toCE.bx.K (vs 4)) (gn 5 kk c.nd)
    (ss_one (s_if (sim_w2t (sim_or (sim_tcmp op_lt f_cmp (sim_oP c.toCE.ok (pn 5)) (sim_oV sim_int) (nomark _)) (sim_or1 (sim_tcmp op_ge f_cmp (sim_oP c.toCE.ok (pn 5)) (sim_oV (e_callF c.toCE.bx cs.c24 (sim_cons (vs 2) (sim_cons (vs 1) sim_nil)) rfl stars_cons (fun z => nomatch z))) (nomark _)))))
    (ss_one (s_ret sim_bl))
    ss_nil)))))))
    (ss_one (s_ret sim_bl)))
theorem sc27 : FnScope ["_law_trees", "_law_uses", "_law_size", "_law_tables_here", "_law_full", "_law_symbol", "_law_arity", "_law_tree_here", "_law_k"] ["_law_trees", "_law_uses", "_law_size", "_law_tables_here"] (defScope s27) := ⟨rfl, rfl, rfl, by decide +kernel, rfl, by decide +kernel, by decide +kernel⟩
theorem d27 {cdv : Value} {A : Around} {outer : List PySem.Env} {s : Shared} {H : Hp} {E : XK} {fa : Addr} (c : CS (GG P w K ca) mg base (k + 1) (cxOf (L2.CX P w) P w K mg base ["_law_trees", "_law_uses", "_law_size", "_law_tables_here", "_law_full", "_law_symbol", "_law_arity", "_law_tree_here", "_law_k"] "_law_accepted" (defScope s27) fa cdv A outer s H E)) (t : Tp (GG P w K ca) mg) (cs : Cs (GG P w K ca) mg base k) (ms : Ms (GG P w K ca) mg base k) :
    SimSs (GG P w K ca) (cxOf (L2.CX P w) P w K mg base ["_law_trees", "_law_uses", "_law_size", "_law_tables_here", "_law_full", "_law_symbol", "_law_arity", "_law_tree_here", "_law_k"] "_law_accepted" (defScope s27) fa cdv A outer s H E) [] (defBody s27) (m27 w (callI (T w) k) (callI (T w) (k - 1))) :=
  (ss_cons (s_if (sim_w2t (sim_or (sim_tcmp op_lt f_cmp (sim_oP c.toCE.ok (pn 2)) (sim_oV sim_int) (nomark _)) (sim_or1 (sim_not (c.toCE.tru (sim_oV (e_callF c.toCE.bx cs.c26 (sim_cons (vs 3) (sim_cons (vs 2) sim_nil)) rfl stars_cons (fun z => nomatch z))))))))
    (ss_one (s_ret sim_bl))
    ss_nil)
    (ss_cons (s_set (i := 4) (c.toCE.dct1 t.b_dict (sim_oP c.toCE.ok (pn 3)) rfl) c.nd rfl (by first | exact Or.inl rfl | exact Or.inr rfl) rfl)
    (ss_cons (s_for c.po c.calm (i_val c.toCE.bx.K (vs 1)) (g_tup c.toCE.bx.K c.toCE.calm (gs_cons krel_keep (gn 5 kk c.nd) (gs_cons krel_keep (gn 6 kk c.nd) (gs_nil krel_keep))) (aCons_len (aCons_len aNil_len)))
    (ss_one (s_if (sim_tcmp c.toCE.nin f_ninX (sim_oV (sim_tup (sim_cons (vs 5) (sim_cons (vs 6) sim_nil)))) (sim_oP c.toCE.ok (pn 4)) rfl)
    (ss_one (s_sub c.ok c.bx.K c.bx.w c.hu64 (c.toCE.tup1 t.b_tuple (sim_oV (e_lc (own := [("_law_k", 8)]) c.toCE.calm c.nd (blkOk_by (show blkC ["_law_trees", "_law_uses", "_law_size", "_law_tables_here", "_law_full", "_law_symbol", "_law_arity", "_law_tree_here", "_law_k"] (defScope s27) _ [("_law_k", 8)] = true by decide +kernel)) (i_range (sim_oV (e_callF c.toCE.bx cs.c23 (sim_cons (vs 2) (sim_cons (vs 6) sim_nil)) rfl stars_cons (fun z => nomatch z))) rfl (by rw [c.toCE.bx.mg]; exact t.b_range)) (c.toCE.inB fun s0 H0 C0 cl0 fp0 cb => (gn 8 kw cb.nd)) (c.toCE.inB fun s0 H0 C0 cl0 fp0 cb => ts_nil) (c.toCE.inB fun s0 H0 C0 cl0 fp0 cb => sim_int))) rfl) (pn 4) (sim_oV (sim_tup (sim_cons (vs 5) (sim_cons (vs 6) sim_nil))))))
    ss_nil)))
    (ss_cons (s_for c.po c.calm (i_val c.toCE.bx.K (vs 0)) (gn 7 kk c.nd)
    (ss_one (s_if (sim_not (c.toCE.tru (sim_oV (e_callF c.toCE.bx cs.c20 (sim_cons (vs 7) (sim_cons e_dnew (sim_cons (vs 2) (sim_cons (vs 4) sim_nil)))) rfl stars_cons (fun z => nomatch z)))))
    (ss_one (s_ret sim_bl))
    ss_nil)))
    (ss_one (s_ret sim_bl))))))
theorem sc28 : FnScope ["_law_script", "_law_state_here", "_law_trees", "_law_uses", "_law_tree_here", "_law_size", "_law_tables_here", "_law_before", "_law_actual", "_law_due", "_law_k"] ["_law_script"] (defScope s28) := ⟨rfl, rfl, rfl, by decide +kernel, rfl, by decide +kernel, by decide +kernel⟩
theorem d28 {cdv : Value} {A : Around} {outer : List PySem.Env} {s : Shared} {H : Hp} {E : XK} {fa : Addr} (c : CS (GG P w K ca) mg base (k + 1) (cxOf (L2.CX P w) P w K mg base ["_law_script", "_law_state_here", "_law_trees", "_law_uses", "_law_tree_here", "_law_size", "_law_tables_here", "_law_before", "_law_actual", "_law_due", "_law_k"] "law" (defScope s28) fa cdv A outer s H E)) (t : Tp (GG P w K ca) mg) (cs : Cs (GG P w K ca) mg base k) (ms : Ms (GG P w K ca) mg base k) :
    SimSs (GG P w K ca) (cxOf (L2.CX P w) P w K mg base ["_law_script", "_law_state_here", "_law_trees", "_law_uses", "_law_tree_here", "_law_size", "_law_tables_here", "_law_before", "_law_actual", "_law_due", "_law_k"] "law" (defScope s28) fa cdv A outer s H E) [] (defBody s28) (m28 w (callI (T w) k) (callI (T w) (k - 1))) :=
  (ss_cons (s_set (i := 1) (e_callF c.toCE.bx cs.c16 (sim_cons (vs 0) sim_nil) rfl stars_cons (fun z => nomatch z)) c.nd rfl (by first | exact Or.inl rfl | exact Or.inr rfl) rfl)
    (ss_cons (s_setLc (own := [("_law_k", 10)]) (i := 2) c.calm c.nd rfl rfl (sw_true rfl rfl rfl (by decide +kernel)) (blkOk_by (show blkC ["_law_script", "_law_state_here", "_law_trees", "_law_uses", "_law_tree_here", "_law_size", "_law_tables_here", "_law_before", "_law_actual", "_law_due", "_law_k"] (defScope s28) _ [("_law_k", 10)] = true by decide +kernel)) (i_range (sim_oV (sim_bin c.toCE.add f_add (sim_oV sim_int) (sim_oV (e_call c.toCE.bx cs.c15 (vio 1 (x_in sim_int x_nil)) rfl stars_cons (fun z => nomatch z))))) rfl (by rw [c.toCE.bx.mg]; exact t.b_range)) (c.toCE.inB fun s0 H0 C0 cl0 fp0 cb => (gn 10 kw cb.nd)) (c.toCE.inB fun s0 H0 C0 cl0 fp0 cb => ts_nil) (c.toCE.inB fun s0 H0 C0 cl0 fp0 cb => (e_call cb.bx cs.c18 (vio 1 (x_in sim_int (x_in sim_int x_nil))) rfl stars_cons (fun z => nomatch z))) rfl)
    (ss_cons (s_set (i := 3) (sim_lst sim_nil) c.nd rfl (by first | exact Or.inl rfl | exact Or.inr rfl) rfl)
    (ss_cons (s_for c.po c.calm (i_val c.toCE.bx.K (vs 2)) (gn 4 kk c.nd)
    (ss_one (s_expr (e_call c.toCE.bx cs.c22 (x_in (vs 4) (vio 3 x_nil)) rfl stars_cons (fun z => nomatch z)))))
    (ss_cons (s_set (i := 5) (sim_bin c.toCE.add f_add (sim_oV sim_int) (sim_oV (e_call c.toCE.bx cs.c15 (vio 1 (x_in sim_int x_nil)) rfl stars_cons (fun z => nomatch z)))) c.nd rfl (by first | exact Or.inl rfl | exact Or.inr rfl) rfl)
    (ss_cons (s_if (sim_tcmp c.toCE.eq f_eqX (sim_oV (e_call c.toCE.bx cs.c15 (vio 1 (x_in sim_int x_nil)) rfl stars_cons (fun z => nomatch z))) (sim_oV sim_int) (nomark _))
    (ss_one (s_set (i := 5) sim_int c.nd rfl (by first | exact Or.inl rfl | exact Or.inr rfl) rfl))
    ss_nil)
    (ss_cons (s_set (i := 6) (e_call c.toCE.bx cs.c25 (vio 1 (x_in (vs 3) (x_in (vs 5) x_nil))) rfl stars_cons (fun z => nomatch z)) c.nd rfl (by first | exact Or.inl rfl | exact Or.inr rfl) rfl)
    (ss_cons (s_if (sim_tcmp c.toCE.eq f_eqX (sim_oV (e_call c.toCE.bx cs.c15 (vio 1 (x_in sim_int x_nil)) rfl stars_cons (fun z => nomatch z))) (sim_oV sim_int) (nomark _))
    (ss_one (s_sub c.ok c.bx.K c.bx.w c.hu64 (sim_tup (sim_cons (e_call c.toCE.bx cs.c15 (vio 1 (x_in sim_int x_nil)) rfl stars_cons (fun z => nomatch z)) sim_nil)) (pn 6) (sim_oV (sim_tup (sim_cons (sim_tup (sim_cons sim_int (sim_cons sim_int (sim_cons sim_int sim_nil)))) (sim_cons sim_int sim_nil))))))
    ss_nil)
    (ss_cons (s_set (i := 7) (c.toCE.dct1 t.b_dict (sim_oP c.toCE.ok (pn 6)) rfl) c.nd rfl (by first | exact Or.inl rfl | exact Or.inr rfl) rfl)
    (ss_cons (s_set (i := 8) (e_callF c.toCE.bx cs.c13 (sim_cons (e_make c.toCE.bx ms.m0 (sim_cons (vs 5) (sim_cons (vs 6) sim_nil)) rfl stars_cons (fun z => nomatch z)) (sim_cons (c.toCE.lst1 t.b_list (sim_oP c.toCE.ok (pn 2)) rfl) sim_nil)) rfl stars_cons (fun z => nomatch z)) c.nd rfl (by first | exact Or.inl rfl | exact Or.inr rfl) rfl)
    (ss_cons (s_set (i := 9) (e_callF c.toCE.bx cs.c27 (sim_cons (vs 2) (sim_cons (vs 3) (sim_cons (vs 5) (sim_cons (vs 7) sim_nil)))) rfl stars_cons (fun z => nomatch z)) c.nd rfl (by first | exact Or.inl rfl | exact Or.inr rfl) rfl)
    (ss_one (s_ret (sim_andV (c.toCE.isi t.b_isinstance t.b_bool (sim_oV (vs 8)) rfl rfl (by decide +kernel)) (sim_andV (sim_cmp c.toCE.eq f_eqX (sim_oP c.toCE.ok (pn 8)) (sim_oP c.toCE.ok (pn 9)) (nomark _)) (sim_one (sim_cmp c.toCE.eq f_eqX (sim_oP c.toCE.ok (pn 6)) (sim_oP c.toCE.ok (pn 7)) (nomark _))))))))))))))))))
end
end K63
set_option Elab.async false
set_option linter.all false
set_option maxRecDepth 100000
set_option maxHeartbeats 4000000
namespace K63
open PL
theorem callK (w : PySem.World) (k f : Nat) (os : List O) : callI (T w) (k + 1) f os = runB (T w f) ((T w f).m (callI (T w) k) (callI (T w) (k - 1))) os := callI_succ _ _ _ _
def St (a : Int) (rs : List Int) (c : Int) : O := .lst [.val (.int a), .val (.lst (rs.map .int)), .val (.int c)]
theorem dig (w : PySem.World) (k : Nat) {a c n : Int} {rs : List Int} (h0 : 0 < n) (hn : n < 1000000) (hr : 0 < rs.length) : ∃ d a' c', 0 ≤ d ∧ d < n ∧ callI (T w) (k + 1) 15 [St a rs c, .val (.int n)] = .ok (.val (.int d)) [some (St a' rs c'), none] := by
  have hl : (0 : Int) < rs.length := by omega
  obtain ⟨x, hx, hm⟩ := atI_ok (l := rs.map D.int) (i := (c + 1) % (rs.length : Int)) (Int.emod_nonneg _ (by omega)) (by rw [List.length_map]; exact Int.emod_lt_of_pos _ hl)
  obtain ⟨y, _, rfl⟩ := List.mem_map.mp hm
  have hd := lt_big h0 hn
  refine ⟨(if a < n then a + y else a) % n, (if a < n then a + y else a) / n, (if a < n then c + 1 else c), Int.emod_nonneg _ (by omega), Int.emod_lt_of_pos _ h0, ?_⟩
  rw [callK]
  by_cases h : a < n
  · simp [runB, mSeq, mIfS, mTst, mOp2, PL.m2, oV, oP, mCon, getP, setP, ownP, frzs, frz, ixX, orD, ixD, at0, at1, at2, at3, ixN_30, ixN_32, cmpD, mPut, putO, intD, addD, lenD, mOp1, intF, modC, divC, mSet, mRet, mTake, maskE, mSlot, mRd, mAnd, mOr, mNot, mTr, truD, mTup, mNil, mCons, mCallF, mCall, xNil, xIn, xIo, fillIn, backIn, mSkip, mDrop, mRetN, isi_i, isi_t, isi_b, lenOk, mLst, mApp, appO, mFor, mRng, aName, mIt, seqOf, eqX_int, eqX_bl, neD_int, T, St, m15, h, h0, hx, hd, hr]
  · simp [runB, mSeq, mIfS, mTst, mOp2, PL.m2, oV, oP, mCon, getP, setP, ownP, frzs, frz, ixX, orD, ixD, at0, at1, at2, at3, ixN_30, ixN_32, cmpD, mPut, putO, intD, addD, lenD, mOp1, intF, modC, divC, mSet, mRet, mTake, maskE, mSlot, mRd, mAnd, mOr, mNot, mTr, truD, mTup, mNil, mCons, mCallF, mCall, xNil, xIn, xIo, fillIn, backIn, mSkip, mDrop, mRetN, isi_i, isi_t, isi_b, lenOk, mLst, mApp, appO, mFor, mRng, aName, mIt, seqOf, eqX_int, eqX_bl, neD_int, T, St, m15, h, h0, hx, hd, hr]
theorem q_atom_atom : eqX (.str "atom") (.str "atom") = some (.val (.bl true)) := by rw [eqX_str (by decide +kernel) (by decide +kernel)]; congr 3
theorem q_atom_equal : eqX (.str "atom") (.str "equal") = some (.val (.bl false)) := by rw [eqX_str (by decide +kernel) (by decide +kernel)]; congr 3
theorem q_atom_not : eqX (.str "atom") (.str "not") = some (.val (.bl false)) := by rw [eqX_str (by decide +kernel) (by decide +kernel)]; congr 3
theorem q_atom_and : eqX (.str "atom") (.str "and") = some (.val (.bl false)) := by rw [eqX_str (by decide +kernel) (by decide +kernel)]; congr 3
theorem q_atom_or : eqX (.str "atom") (.str "or") = some (.val (.bl false)) := by rw [eqX_str (by decide +kernel) (by decide +kernel)]; congr 3
theorem q_atom_implies : eqX (.str "atom") (.str "implies") = some (.val (.bl false)) := by rw [eqX_str (by decide +kernel) (by decide +kernel)]; congr 3
theorem q_atom_iff : eqX (.str "atom") (.str "iff") = some (.val (.bl false)) := by rw [eqX_str (by decide +kernel) (by decide +kernel)]; congr 3
theorem q_atom_all : eqX (.str "atom") (.str "all") = some (.val (.bl false)) := by rw [eqX_str (by decide +kernel) (by decide +kernel)]; congr 3
theorem q_atom_some : eqX (.str "atom") (.str "some") = some (.val (.bl false)) := by rw [eqX_str (by decide +kernel) (by decide +kernel)]; congr 3
theorem q_equal_atom : eqX (.str "equal") (.str "atom") = some (.val (.bl false)) := by rw [eqX_str (by decide +kernel) (by decide +kernel)]; congr 3
theorem q_equal_equal : eqX (.str "equal") (.str "equal") = some (.val (.bl true)) := by rw [eqX_str (by decide +kernel) (by decide +kernel)]; congr 3
theorem q_equal_not : eqX (.str "equal") (.str "not") = some (.val (.bl false)) := by rw [eqX_str (by decide +kernel) (by decide +kernel)]; congr 3
theorem q_equal_and : eqX (.str "equal") (.str "and") = some (.val (.bl false)) := by rw [eqX_str (by decide +kernel) (by decide +kernel)]; congr 3
theorem q_equal_or : eqX (.str "equal") (.str "or") = some (.val (.bl false)) := by rw [eqX_str (by decide +kernel) (by decide +kernel)]; congr 3
theorem q_equal_implies : eqX (.str "equal") (.str "implies") = some (.val (.bl false)) := by rw [eqX_str (by decide +kernel) (by decide +kernel)]; congr 3
theorem q_equal_iff : eqX (.str "equal") (.str "iff") = some (.val (.bl false)) := by rw [eqX_str (by decide +kernel) (by decide +kernel)]; congr 3
theorem q_equal_all : eqX (.str "equal") (.str "all") = some (.val (.bl false)) := by rw [eqX_str (by decide +kernel) (by decide +kernel)]; congr 3
theorem q_equal_some : eqX (.str "equal") (.str "some") = some (.val (.bl false)) := by rw [eqX_str (by decide +kernel) (by decide +kernel)]; congr 3
theorem q_not_atom : eqX (.str "not") (.str "atom") = some (.val (.bl false)) := by rw [eqX_str (by decide +kernel) (by decide +kernel)]; congr 3
theorem q_not_equal : eqX (.str "not") (.str "equal") = some (.val (.bl false)) := by rw [eqX_str (by decide +kernel) (by decide +kernel)]; congr 3
theorem q_not_not : eqX (.str "not") (.str "not") = some (.val (.bl true)) := by rw [eqX_str (by decide +kernel) (by decide +kernel)]; congr 3
theorem q_not_and : eqX (.str "not") (.str "and") = some (.val (.bl false)) := by rw [eqX_str (by decide +kernel) (by decide +kernel)]; congr 3
theorem q_not_or : eqX (.str "not") (.str "or") = some (.val (.bl false)) := by rw [eqX_str (by decide +kernel) (by decide +kernel)]; congr 3
theorem q_not_implies : eqX (.str "not") (.str "implies") = some (.val (.bl false)) := by rw [eqX_str (by decide +kernel) (by decide +kernel)]; congr 3
theorem q_not_iff : eqX (.str "not") (.str "iff") = some (.val (.bl false)) := by rw [eqX_str (by decide +kernel) (by decide +kernel)]; congr 3
theorem q_not_all : eqX (.str "not") (.str "all") = some (.val (.bl false)) := by rw [eqX_str (by decide +kernel) (by decide +kernel)]; congr 3
theorem q_not_some : eqX (.str "not") (.str "some") = some (.val (.bl false)) := by rw [eqX_str (by decide +kernel) (by decide +kernel)]; congr 3
theorem q_and_atom : eqX (.str "and") (.str "atom") = some (.val (.bl false)) := by rw [eqX_str (by decide +kernel) (by decide +kernel)]; congr 3
theorem q_and_equal : eqX (.str "and") (.str "equal") = some (.val (.bl false)) := by rw [eqX_str (by decide +kernel) (by decide +kernel)]; congr 3
theorem q_and_not : eqX (.str "and") (.str "not") = some (.val (.bl false)) := by rw [eqX_str (by decide +kernel) (by decide +kernel)]; congr 3
theorem q_and_and : eqX (.str "and") (.str "and") = some (.val (.bl true)) := by rw [eqX_str (by decide +kernel) (by decide +kernel)]; congr 3
theorem q_and_or : eqX (.str "and") (.str "or") = some (.val (.bl false)) := by rw [eqX_str (by decide +kernel) (by decide +kernel)]; congr 3
theorem q_and_implies : eqX (.str "and") (.str "implies") = some (.val (.bl false)) := by rw [eqX_str (by decide +kernel) (by decide +kernel)]; congr 3
theorem q_and_iff : eqX (.str "and") (.str "iff") = some (.val (.bl false)) := by rw [eqX_str (by decide +kernel) (by decide +kernel)]; congr 3
theorem q_and_all : eqX (.str "and") (.str "all") = some (.val (.bl false)) := by rw [eqX_str (by decide +kernel) (by decide +kernel)]; congr 3
theorem q_and_some : eqX (.str "and") (.str "some") = some (.val (.bl false)) := by rw [eqX_str (by decide +kernel) (by decide +kernel)]; congr 3
theorem q_or_atom : eqX (.str "or") (.str "atom") = some (.val (.bl false)) := by rw [eqX_str (by decide +kernel) (by decide +kernel)]; congr 3
theorem q_or_equal : eqX (.str "or") (.str "equal") = some (.val (.bl false)) := by rw [eqX_str (by decide +kernel) (by decide +kernel)]; congr 3
theorem q_or_not : eqX (.str "or") (.str "not") = some (.val (.bl false)) := by rw [eqX_str (by decide +kernel) (by decide +kernel)]; congr 3
theorem q_or_and : eqX (.str "or") (.str "and") = some (.val (.bl false)) := by rw [eqX_str (by decide +kernel) (by decide +kernel)]; congr 3
theorem q_or_or : eqX (.str "or") (.str "or") = some (.val (.bl true)) := by rw [eqX_str (by decide +kernel) (by decide +kernel)]; congr 3
theorem q_or_implies : eqX (.str "or") (.str "implies") = some (.val (.bl false)) := by rw [eqX_str (by decide +kernel) (by decide +kernel)]; congr 3
theorem q_or_iff : eqX (.str "or") (.str "iff") = some (.val (.bl false)) := by rw [eqX_str (by decide +kernel) (by decide +kernel)]; congr 3
theorem q_or_all : eqX (.str "or") (.str "all") = some (.val (.bl false)) := by rw [eqX_str (by decide +kernel) (by decide +kernel)]; congr 3
theorem q_or_some : eqX (.str "or") (.str "some") = some (.val (.bl false)) := by rw [eqX_str (by decide +kernel) (by decide +kernel)]; congr 3
theorem q_implies_atom : eqX (.str "implies") (.str "atom") = some (.val (.bl false)) := by rw [eqX_str (by decide +kernel) (by decide +kernel)]; congr 3
theorem q_implies_equal : eqX (.str "implies") (.str "equal") = some (.val (.bl false)) := by rw [eqX_str (by decide +kernel) (by decide +kernel)]; congr 3
theorem q_implies_not : eqX (.str "implies") (.str "not") = some (.val (.bl false)) := by rw [eqX_str (by decide +kernel) (by decide +kernel)]; congr 3
theorem q_implies_and : eqX (.str "implies") (.str "and") = some (.val (.bl false)) := by rw [eqX_str (by decide +kernel) (by decide +kernel)]; congr 3
theorem q_implies_or : eqX (.str "implies") (.str "or") = some (.val (.bl false)) := by rw [eqX_str (by decide +kernel) (by decide +kernel)]; congr 3
theorem q_implies_implies : eqX (.str "implies") (.str "implies") = some (.val (.bl true)) := by rw [eqX_str (by decide +kernel) (by decide +kernel)]; congr 3
theorem q_implies_iff : eqX (.str "implies") (.str "iff") = some (.val (.bl false)) := by rw [eqX_str (by decide +kernel) (by decide +kernel)]; congr 3
theorem q_implies_all : eqX (.str "implies") (.str "all") = some (.val (.bl false)) := by rw [eqX_str (by decide +kernel) (by decide +kernel)]; congr 3
theorem q_implies_some : eqX (.str "implies") (.str "some") = some (.val (.bl false)) := by rw [eqX_str (by decide +kernel) (by decide +kernel)]; congr 3
theorem q_iff_atom : eqX (.str "iff") (.str "atom") = some (.val (.bl false)) := by rw [eqX_str (by decide +kernel) (by decide +kernel)]; congr 3
theorem q_iff_equal : eqX (.str "iff") (.str "equal") = some (.val (.bl false)) := by rw [eqX_str (by decide +kernel) (by decide +kernel)]; congr 3
theorem q_iff_not : eqX (.str "iff") (.str "not") = some (.val (.bl false)) := by rw [eqX_str (by decide +kernel) (by decide +kernel)]; congr 3
theorem q_iff_and : eqX (.str "iff") (.str "and") = some (.val (.bl false)) := by rw [eqX_str (by decide +kernel) (by decide +kernel)]; congr 3
theorem q_iff_or : eqX (.str "iff") (.str "or") = some (.val (.bl false)) := by rw [eqX_str (by decide +kernel) (by decide +kernel)]; congr 3
theorem q_iff_implies : eqX (.str "iff") (.str "implies") = some (.val (.bl false)) := by rw [eqX_str (by decide +kernel) (by decide +kernel)]; congr 3
theorem q_iff_iff : eqX (.str "iff") (.str "iff") = some (.val (.bl true)) := by rw [eqX_str (by decide +kernel) (by decide +kernel)]; congr 3
theorem q_iff_all : eqX (.str "iff") (.str "all") = some (.val (.bl false)) := by rw [eqX_str (by decide +kernel) (by decide +kernel)]; congr 3
theorem q_iff_some : eqX (.str "iff") (.str "some") = some (.val (.bl false)) := by rw [eqX_str (by decide +kernel) (by decide +kernel)]; congr 3
theorem q_all_atom : eqX (.str "all") (.str "atom") = some (.val (.bl false)) := by rw [eqX_str (by decide +kernel) (by decide +kernel)]; congr 3
theorem q_all_equal : eqX (.str "all") (.str "equal") = some (.val (.bl false)) := by rw [eqX_str (by decide +kernel) (by decide +kernel)]; congr 3
theorem q_all_not : eqX (.str "all") (.str "not") = some (.val (.bl false)) := by rw [eqX_str (by decide +kernel) (by decide +kernel)]; congr 3
theorem q_all_and : eqX (.str "all") (.str "and") = some (.val (.bl false)) := by rw [eqX_str (by decide +kernel) (by decide +kernel)]; congr 3
theorem q_all_or : eqX (.str "all") (.str "or") = some (.val (.bl false)) := by rw [eqX_str (by decide +kernel) (by decide +kernel)]; congr 3
theorem q_all_implies : eqX (.str "all") (.str "implies") = some (.val (.bl false)) := by rw [eqX_str (by decide +kernel) (by decide +kernel)]; congr 3
theorem q_all_iff : eqX (.str "all") (.str "iff") = some (.val (.bl false)) := by rw [eqX_str (by decide +kernel) (by decide +kernel)]; congr 3
theorem q_all_all : eqX (.str "all") (.str "all") = some (.val (.bl true)) := by rw [eqX_str (by decide +kernel) (by decide +kernel)]; congr 3
theorem q_all_some : eqX (.str "all") (.str "some") = some (.val (.bl false)) := by rw [eqX_str (by decide +kernel) (by decide +kernel)]; congr 3
theorem q_some_atom : eqX (.str "some") (.str "atom") = some (.val (.bl false)) := by rw [eqX_str (by decide +kernel) (by decide +kernel)]; congr 3
theorem q_some_equal : eqX (.str "some") (.str "equal") = some (.val (.bl false)) := by rw [eqX_str (by decide +kernel) (by decide +kernel)]; congr 3
theorem q_some_not : eqX (.str "some") (.str "not") = some (.val (.bl false)) := by rw [eqX_str (by decide +kernel) (by decide +kernel)]; congr 3
theorem q_some_and : eqX (.str "some") (.str "and") = some (.val (.bl false)) := by rw [eqX_str (by decide +kernel) (by decide +kernel)]; congr 3
theorem q_some_or : eqX (.str "some") (.str "or") = some (.val (.bl false)) := by rw [eqX_str (by decide +kernel) (by decide +kernel)]; congr 3
theorem q_some_implies : eqX (.str "some") (.str "implies") = some (.val (.bl false)) := by rw [eqX_str (by decide +kernel) (by decide +kernel)]; congr 3
theorem q_some_iff : eqX (.str "some") (.str "iff") = some (.val (.bl false)) := by rw [eqX_str (by decide +kernel) (by decide +kernel)]; congr 3
theorem q_some_all : eqX (.str "some") (.str "all") = some (.val (.bl false)) := by rw [eqX_str (by decide +kernel) (by decide +kernel)]; congr 3
theorem q_some_some : eqX (.str "some") (.str "some") = some (.val (.bl true)) := by rw [eqX_str (by decide +kernel) (by decide +kernel)]; congr 3
end K63
set_option Elab.async false
set_option linter.all false
set_option maxRecDepth 100000
set_option maxHeartbeats 4000000
namespace K63
open PL
inductive Tm where
  | v (n : Nat)
  | c (i : Nat)
  | f (t : Tm)
def sy (a b : Int) : D := .tup [.int a, .int b, .int 0]
def Tm.d : Tm → D
  | .v n => .int n
  | .c i => .tup [sy 2 i, .tup []]
  | .f t => .tup [sy 2 2, .tup [t.d]]
def Tm.ok (b : Nat) : Tm → Prop
  | .v n => n < b
  | .c i => i < 2
  | .f t => t.ok b
def Tm.dp : Tm → Nat
  | .f t => t.dp + 1
  | _ => 0
theorem tterm (w : PySem.World) {rs : List Int} (hr : 0 < rs.length) : ∀ (dp k : Nat) (a c : Int) (b : Nat), b < 1000 → ∃ t a' c', Tm.ok b t ∧ t.dp ≤ dp ∧ callI (T w) (k + dp + 2) 17 [St a rs c, .val (.int dp), .val (.int b)] = .ok (.val t.d) [some (St a' rs c'), none, none]
  | dp, k, a, c, b, hb => by
    obtain ⟨kd, a1, c1, g0, g1, e1⟩ := dig w (k + dp) (a := a) (c := c) (n := 4) (by omega) (by omega) hr
    rw [callK]
    by_cases h1 : kd < 2 ∧ 0 < b
    · obtain ⟨d, a2, c2, i0, i1, e2⟩ := dig w (k + dp) (a := a1) (c := c1) (n := b) (by omega) (by omega) hr
      refine ⟨.v d.toNat, a2, c2, (by unfold Tm.ok; omega), Nat.zero_le _, ?_⟩
      have e : ((d.toNat : Nat) : Int) = d := by omega
      simp [runB, mSeq, mIfS, mTst, mOp2, PL.m2, oV, oP, mCon, getP, setP, ownP, frzs, frz, ixX, orD, ixD, at0, at1, at2, at3, ixN_30, ixN_32, cmpD, mPut, putO, intD, addD, lenD, mOp1, intF, modC, divC, mSet, mRet, mTake, maskE, mSlot, mRd, mAnd, mOr, mNot, mTr, truD, mTup, mNil, mCons, mCallF, mCall, xNil, xIn, xIo, fillIn, backIn, mSkip, mDrop, mRetN, isi_i, isi_t, isi_b, lenOk, mLst, mApp, appO, mFor, mRng, aName, mIt, seqOf, eqX_int, eqX_bl, neD_int, T, m17, e1, e2, h1, Tm.d, e]
    · have h1' : ¬ (kd < 2 ∧ (0 : Int) < (b : Int)) := fun z => h1 ⟨z.1, by omega⟩
      have z1 : kd < 2 → b = 0 := fun z => by omega
      by_cases h2 : kd = 3 ∧ 0 < dp
      · obtain ⟨h2, h3⟩ := h2
        cases dp with
        | zero => omega
        | succ dp =>
          obtain ⟨t, a2, c2, o, od, e2⟩ := tterm w hr dp k a1 c1 b hb
          have e2' : callI (T w) (k + (dp + 1) + 1) 17 [St a1 rs c1, .val (.int dp), .val (.int b)] = .ok (.val t.d) [some (St a2 rs c2), none, none] := e2
          refine ⟨.f t, a2, c2, o, Nat.succ_le_succ od, ?_⟩
          subst h2
          simp [runB, mSeq, mIfS, mTst, mOp2, PL.m2, oV, oP, mCon, getP, setP, ownP, frzs, frz, ixX, orD, ixD, at0, at1, at2, at3, ixN_30, ixN_32, cmpD, mPut, putO, intD, addD, lenD, mOp1, intF, modC, divC, mSet, mRet, mTake, maskE, mSlot, mRd, mAnd, mOr, mNot, mTr, truD, mTup, mNil, mCons, mCallF, mCall, xNil, xIn, xIo, fillIn, backIn, mSkip, mDrop, mRetN, isi_i, isi_t, isi_b, lenOk, mLst, mApp, appO, mFor, mRng, aName, mIt, seqOf, eqX_int, eqX_bl, neD_int, T, m17, e1, e2', Tm.d, sy]
          try omega
      · obtain ⟨i, a2, c2, i0, i1, e2⟩ := dig w (k + dp) (a := a1) (c := c1) (n := 2) (by omega) (by omega) hr
        refine ⟨.c i.toNat, a2, c2, (by unfold Tm.ok; omega), Nat.zero_le _, ?_⟩
        have e : ((i.toNat : Nat) : Int) = i := by omega
        by_cases k2 : kd < 2
        · have hb0 := z1 k2
          subst hb0
          have k3 : ¬ kd = 3 := by omega
          simp [runB, mSeq, mIfS, mTst, mOp2, PL.m2, oV, oP, mCon, getP, setP, ownP, frzs, frz, ixX, orD, ixD, at0, at1, at2, at3, ixN_30, ixN_32, cmpD, mPut, putO, intD, addD, lenD, mOp1, intF, modC, divC, mSet, mRet, mTake, maskE, mSlot, mRd, mAnd, mOr, mNot, mTr, truD, mTup, mNil, mCons, mCallF, mCall, xNil, xIn, xIo, fillIn, backIn, mSkip, mDrop, mRetN, isi_i, isi_t, isi_b, lenOk, mLst, mApp, appO, mFor, mRng, aName, mIt, seqOf, eqX_int, eqX_bl, neD_int, T, m17, e1, e2, k2, k3, Tm.d, e, sy]
        · by_cases k3 : kd = 3
          · subst k3
            have h0 : dp = 0 := by omega
            subst h0
            have e1' : callI (T w) (k + 1) 15 [St a rs c, .val (.int 4)] = .ok (.val (.int 3)) [some (St a1 rs c1), none] := e1
            have e2' : callI (T w) (k + 1) 15 [St a1 rs c1, .val (.int 2)] = .ok (.val (.int i)) [some (St a2 rs c2), none] := e2
            simp [runB, mSeq, mIfS, mTst, mOp2, PL.m2, oV, oP, mCon, getP, setP, ownP, frzs, frz, ixX, orD, ixD, at0, at1, at2, at3, ixN_30, ixN_32, cmpD, mPut, putO, intD, addD, lenD, mOp1, intF, modC, divC, mSet, mRet, mTake, maskE, mSlot, mRd, mAnd, mOr, mNot, mTr, truD, mTup, mNil, mCons, mCallF, mCall, xNil, xIn, xIo, fillIn, backIn, mSkip, mDrop, mRetN, isi_i, isi_t, isi_b, lenOk, mLst, mApp, appO, mFor, mRng, aName, mIt, seqOf, eqX_int, eqX_bl, neD_int, T, m17, e1', e2', Tm.d, e, sy]
          · simp [runB, mSeq, mIfS, mTst, mOp2, PL.m2, oV, oP, mCon, getP, setP, ownP, frzs, frz, ixX, orD, ixD, at0, at1, at2, at3, ixN_30, ixN_32, cmpD, mPut, putO, intD, addD, lenD, mOp1, intF, modC, divC, mSet, mRet, mTake, maskE, mSlot, mRd, mAnd, mOr, mNot, mTr, truD, mTup, mNil, mCons, mCallF, mCall, xNil, xIn, xIo, fillIn, backIn, mSkip, mDrop, mRetN, isi_i, isi_t, isi_b, lenOk, mLst, mApp, appO, mFor, mRng, aName, mIt, seqOf, eqX_int, eqX_bl, neD_int, T, m17, e1, e2, k2, k3, Tm.d, e, sy]
end K63
set_option Elab.async false
set_option linter.all false
set_option maxRecDepth 100000
set_option maxHeartbeats 4000000
namespace K63
open PL
inductive Bo where
  | a
  | o
  | i
  | f
def Bo.s : Bo → PySem.Str
  | .a => "and"
  | .o => "or"
  | .i => "implies"
  | .f => "iff"
inductive Fm where
  | q
  | p (t : Tm)
  | eq (s t : Tm)
  | no (f : Fm)
  | qu (s : Bool) (n : Nat) (f : Fm)
  | bi (o : Bo) (f g : Fm)
def Fm.d : Fm → D
  | .q => .tup [.str "atom", .tup [sy 1 4, .tup []]]
  | .p t => .tup [.str "atom", .tup [sy 1 5, .tup [t.d]]]
  | .eq s t => .tup [.str "equal", s.d, t.d]
  | .no f => .tup [.str "not", f.d]
  | .qu true n f => .tup [.str "some", .int n, f.d]
  | .qu false n f => .tup [.str "all", .int n, f.d]
  | .bi o f g => .tup [.str o.s, f.d, g.d]
def Fm.ok (b : Nat) : Fm → Prop
  | .q => True
  | .p t => t.ok b ∧ t.dp ≤ 1
  | .eq s t => s.ok b ∧ t.ok b ∧ s.dp ≤ 1 ∧ t.dp ≤ 1
  | .no f => f.ok b
  | .qu _ n f => n = b ∧ f.ok (b + 1)
  | .bi _ f g => f.ok b ∧ g.ok b
def Fm.dp : Fm → Nat
  | .no f => f.dp + 1
  | .qu _ _ f => f.dp + 1
  | .bi _ f g => max f.dp g.dp + 1
  | _ => 0
theorem ttree (w : PySem.World) {rs : List Int} (hr : 0 < rs.length) : ∀ (dp k : Nat) (a c : Int) (b : Nat), b + dp < 1000 → ∃ t a' c', Fm.ok b t ∧ t.dp ≤ dp ∧ callI (T w) (k + dp + 4) 18 [St a rs c, .val (.int dp), .val (.int b)] = .ok (.val t.d) [some (St a' rs c'), none, none]
  | dp, k, a, c, b, hb => by
    have dg : ∀ (n : Int) (a c : Int), 0 < n → n < 1000 → ∃ d a' c', 0 ≤ d ∧ d < n ∧ callI (T w) (k + dp + 3) 15 [St a rs c, .val (.int n)] = .ok (.val (.int d)) [some (St a' rs c'), none] := fun n a c h0 h1 => dig w (k + dp + 2) h0 (by omega) hr
    have tm : ∀ (a c : Int), ∃ t a' c', Tm.ok b t ∧ t.dp ≤ 1 ∧ callI (T w) (k + dp + 3) 17 [St a rs c, .val (.int 1), .val (.int b)] = .ok (.val t.d) [some (St a' rs c'), none, none] := fun a c => tterm w hr 1 (k + dp) a c b (by omega)
    obtain ⟨kd, a1, c1, g0, g1, e1⟩ := dg 9 a c (by omega) (by omega)
    rw [callK]
    by_cases h1 : dp = 0 ∨ kd < 3
    · obtain ⟨ak, a2, c2, i0, i1, e2⟩ := dg 4 a1 c1 (by omega) (by omega)
      have h1' : ¬ dp = 0 → kd < 3 := fun z => by omega
      by_cases j0 : ak = 0
      · subst j0
        refine ⟨.q, a2, c2, trivial, Nat.zero_le _, ?_⟩
        by_cases d0 : dp = 0
        · subst d0; simp only [Nat.add_zero] at e1 e2; simp [runB, mSeq, mIfS, mTst, mOp2, PL.m2, oV, oP, mCon, getP, setP, ownP, frzs, frz, ixX, orD, ixD, at0, at1, at2, at3, ixN_30, ixN_32, cmpD, mPut, putO, intD, addD, lenD, mOp1, intF, modC, divC, mSet, mRet, mTake, maskE, mSlot, mRd, mAnd, mOr, mNot, mTr, truD, mTup, mNil, mCons, mCallF, mCall, xNil, xIn, xIo, fillIn, backIn, mSkip, mDrop, mRetN, isi_i, isi_t, isi_b, lenOk, mLst, mApp, appO, mFor, mRng, aName, mIt, seqOf, eqX_int, eqX_bl, neD_int, q_atom_atom, q_atom_equal, q_atom_not, q_atom_and, q_atom_or, q_atom_implies, q_atom_iff, q_atom_all, q_atom_some, q_equal_atom, q_equal_equal, q_equal_not, q_equal_and, q_equal_or, q_equal_implies, q_equal_iff, q_equal_all, q_equal_some, q_not_atom, q_not_equal, q_not_not, q_not_and, q_not_or, q_not_implies, q_not_iff, q_not_all, q_not_some, q_and_atom, q_and_equal, q_and_not, q_and_and, q_and_or, q_and_implies, q_and_iff, q_and_all, q_and_some, q_or_atom, q_or_equal, q_or_not, q_or_and, q_or_or, q_or_implies, q_or_iff, q_or_all, q_or_some, q_implies_atom, q_implies_equal, q_implies_not, q_implies_and, q_implies_or, q_implies_implies, q_implies_iff, q_implies_all, q_implies_some, q_iff_atom, q_iff_equal, q_iff_not, q_iff_and, q_iff_or, q_iff_implies, q_iff_iff, q_iff_all, q_iff_some, q_all_atom, q_all_equal, q_all_not, q_all_and, q_all_or, q_all_implies, q_all_iff, q_all_all, q_all_some, q_some_atom, q_some_equal, q_some_not, q_some_and, q_some_or, q_some_implies, q_some_iff, q_some_all, q_some_some, T, m18, e1, e2, Fm.d, sy]
        · simp [runB, mSeq, mIfS, mTst, mOp2, PL.m2, oV, oP, mCon, getP, setP, ownP, frzs, frz, ixX, orD, ixD, at0, at1, at2, at3, ixN_30, ixN_32, cmpD, mPut, putO, intD, addD, lenD, mOp1, intF, modC, divC, mSet, mRet, mTake, maskE, mSlot, mRd, mAnd, mOr, mNot, mTr, truD, mTup, mNil, mCons, mCallF, mCall, xNil, xIn, xIo, fillIn, backIn, mSkip, mDrop, mRetN, isi_i, isi_t, isi_b, lenOk, mLst, mApp, appO, mFor, mRng, aName, mIt, seqOf, eqX_int, eqX_bl, neD_int, q_atom_atom, q_atom_equal, q_atom_not, q_atom_and, q_atom_or, q_atom_implies, q_atom_iff, q_atom_all, q_atom_some, q_equal_atom, q_equal_equal, q_equal_not, q_equal_and, q_equal_or, q_equal_implies, q_equal_iff, q_equal_all, q_equal_some, q_not_atom, q_not_equal, q_not_not, q_not_and, q_not_or, q_not_implies, q_not_iff, q_not_all, q_not_some, q_and_atom, q_and_equal, q_and_not, q_and_and, q_and_or, q_and_implies, q_and_iff, q_and_all, q_and_some, q_or_atom, q_or_equal, q_or_not, q_or_and, q_or_or, q_or_implies, q_or_iff, q_or_all, q_or_some, q_implies_atom, q_implies_equal, q_implies_not, q_implies_and, q_implies_or, q_implies_implies, q_implies_iff, q_implies_all, q_implies_some, q_iff_atom, q_iff_equal, q_iff_not, q_iff_and, q_iff_or, q_iff_implies, q_iff_iff, q_iff_all, q_iff_some, q_all_atom, q_all_equal, q_all_not, q_all_and, q_all_or, q_all_implies, q_all_iff, q_all_all, q_all_some, q_some_atom, q_some_equal, q_some_not, q_some_and, q_some_or, q_some_implies, q_some_iff, q_some_all, q_some_some, T, m18, e1, e2, Fm.d, sy, d0, h1' d0]
      · by_cases j1 : ak = 1
        · subst j1
          obtain ⟨t, a3, c3, o3, p3, e3⟩ := tm a2 c2
          obtain ⟨u, a4, c4, o4, p4, e4⟩ := tm a3 c3
          refine ⟨.eq t u, a4, c4, ⟨o3, o4, p3, p4⟩, Nat.zero_le _, ?_⟩
          by_cases d0 : dp = 0
          · subst d0; simp only [Nat.add_zero] at e1 e2 e3 e4; simp [runB, mSeq, mIfS, mTst, mOp2, PL.m2, oV, oP, mCon, getP, setP, ownP, frzs, frz, ixX, orD, ixD, at0, at1, at2, at3, ixN_30, ixN_32, cmpD, mPut, putO, intD, addD, lenD, mOp1, intF, modC, divC, mSet, mRet, mTake, maskE, mSlot, mRd, mAnd, mOr, mNot, mTr, truD, mTup, mNil, mCons, mCallF, mCall, xNil, xIn, xIo, fillIn, backIn, mSkip, mDrop, mRetN, isi_i, isi_t, isi_b, lenOk, mLst, mApp, appO, mFor, mRng, aName, mIt, seqOf, eqX_int, eqX_bl, neD_int, q_atom_atom, q_atom_equal, q_atom_not, q_atom_and, q_atom_or, q_atom_implies, q_atom_iff, q_atom_all, q_atom_some, q_equal_atom, q_equal_equal, q_equal_not, q_equal_and, q_equal_or, q_equal_implies, q_equal_iff, q_equal_all, q_equal_some, q_not_atom, q_not_equal, q_not_not, q_not_and, q_not_or, q_not_implies, q_not_iff, q_not_all, q_not_some, q_and_atom, q_and_equal, q_and_not, q_and_and, q_and_or, q_and_implies, q_and_iff, q_and_all, q_and_some, q_or_atom, q_or_equal, q_or_not, q_or_and, q_or_or, q_or_implies, q_or_iff, q_or_all, q_or_some, q_implies_atom, q_implies_equal, q_implies_not, q_implies_and, q_implies_or, q_implies_implies, q_implies_iff, q_implies_all, q_implies_some, q_iff_atom, q_iff_equal, q_iff_not, q_iff_and, q_iff_or, q_iff_implies, q_iff_iff, q_iff_all, q_iff_some, q_all_atom, q_all_equal, q_all_not, q_all_and, q_all_or, q_all_implies, q_all_iff, q_all_all, q_all_some, q_some_atom, q_some_equal, q_some_not, q_some_and, q_some_or, q_some_implies, q_some_iff, q_some_all, q_some_some, T, m18, e1, e2, e3, e4, Fm.d, sy]
          · simp [runB, mSeq, mIfS, mTst, mOp2, PL.m2, oV, oP, mCon, getP, setP, ownP, frzs, frz, ixX, orD, ixD, at0, at1, at2, at3, ixN_30, ixN_32, cmpD, mPut, putO, intD, addD, lenD, mOp1, intF, modC, divC, mSet, mRet, mTake, maskE, mSlot, mRd, mAnd, mOr, mNot, mTr, truD, mTup, mNil, mCons, mCallF, mCall, xNil, xIn, xIo, fillIn, backIn, mSkip, mDrop, mRetN, isi_i, isi_t, isi_b, lenOk, mLst, mApp, appO, mFor, mRng, aName, mIt, seqOf, eqX_int, eqX_bl, neD_int, q_atom_atom, q_atom_equal, q_atom_not, q_atom_and, q_atom_or, q_atom_implies, q_atom_iff, q_atom_all, q_atom_some, q_equal_atom, q_equal_equal, q_equal_not, q_equal_and, q_equal_or, q_equal_implies, q_equal_iff, q_equal_all, q_equal_some, q_not_atom, q_not_equal, q_not_not, q_not_and, q_not_or, q_not_implies, q_not_iff, q_not_all, q_not_some, q_and_atom, q_and_equal, q_and_not, q_and_and, q_and_or, q_and_implies, q_and_iff, q_and_all, q_and_some, q_or_atom, q_or_equal, q_or_not, q_or_and, q_or_or, q_or_implies, q_or_iff, q_or_all, q_or_some, q_implies_atom, q_implies_equal, q_implies_not, q_implies_and, q_implies_or, q_implies_implies, q_implies_iff, q_implies_all, q_implies_some, q_iff_atom, q_iff_equal, q_iff_not, q_iff_and, q_iff_or, q_iff_implies, q_iff_iff, q_iff_all, q_iff_some, q_all_atom, q_all_equal, q_all_not, q_all_and, q_all_or, q_all_implies, q_all_iff, q_all_all, q_all_some, q_some_atom, q_some_equal, q_some_not, q_some_and, q_some_or, q_some_implies, q_some_iff, q_some_all, q_some_some, T, m18, e1, e2, e3, e4, Fm.d, sy, d0, h1' d0]
        · obtain ⟨t, a3, c3, o3, p3, e3⟩ := tm a2 c2
          refine ⟨.p t, a3, c3, ⟨o3, p3⟩, Nat.zero_le _, ?_⟩
          by_cases d0 : dp = 0
          · subst d0; simp only [Nat.add_zero] at e1 e2 e3; simp [runB, mSeq, mIfS, mTst, mOp2, PL.m2, oV, oP, mCon, getP, setP, ownP, frzs, frz, ixX, orD, ixD, at0, at1, at2, at3, ixN_30, ixN_32, cmpD, mPut, putO, intD, addD, lenD, mOp1, intF, modC, divC, mSet, mRet, mTake, maskE, mSlot, mRd, mAnd, mOr, mNot, mTr, truD, mTup, mNil, mCons, mCallF, mCall, xNil, xIn, xIo, fillIn, backIn, mSkip, mDrop, mRetN, isi_i, isi_t, isi_b, lenOk, mLst, mApp, appO, mFor, mRng, aName, mIt, seqOf, eqX_int, eqX_bl, neD_int, q_atom_atom, q_atom_equal, q_atom_not, q_atom_and, q_atom_or, q_atom_implies, q_atom_iff, q_atom_all, q_atom_some, q_equal_atom, q_equal_equal, q_equal_not, q_equal_and, q_equal_or, q_equal_implies, q_equal_iff, q_equal_all, q_equal_some, q_not_atom, q_not_equal, q_not_not, q_not_and, q_not_or, q_not_implies, q_not_iff, q_not_all, q_not_some, q_and_atom, q_and_equal, q_and_not, q_and_and, q_and_or, q_and_implies, q_and_iff, q_and_all, q_and_some, q_or_atom, q_or_equal, q_or_not, q_or_and, q_or_or, q_or_implies, q_or_iff, q_or_all, q_or_some, q_implies_atom, q_implies_equal, q_implies_not, q_implies_and, q_implies_or, q_implies_implies, q_implies_iff, q_implies_all, q_implies_some, q_iff_atom, q_iff_equal, q_iff_not, q_iff_and, q_iff_or, q_iff_implies, q_iff_iff, q_iff_all, q_iff_some, q_all_atom, q_all_equal, q_all_not, q_all_and, q_all_or, q_all_implies, q_all_iff, q_all_all, q_all_some, q_some_atom, q_some_equal, q_some_not, q_some_and, q_some_or, q_some_implies, q_some_iff, q_some_all, q_some_some, T, m18, e1, e2, e3, Fm.d, sy, j0, j1]
          · simp [runB, mSeq, mIfS, mTst, mOp2, PL.m2, oV, oP, mCon, getP, setP, ownP, frzs, frz, ixX, orD, ixD, at0, at1, at2, at3, ixN_30, ixN_32, cmpD, mPut, putO, intD, addD, lenD, mOp1, intF, modC, divC, mSet, mRet, mTake, maskE, mSlot, mRd, mAnd, mOr, mNot, mTr, truD, mTup, mNil, mCons, mCallF, mCall, xNil, xIn, xIo, fillIn, backIn, mSkip, mDrop, mRetN, isi_i, isi_t, isi_b, lenOk, mLst, mApp, appO, mFor, mRng, aName, mIt, seqOf, eqX_int, eqX_bl, neD_int, q_atom_atom, q_atom_equal, q_atom_not, q_atom_and, q_atom_or, q_atom_implies, q_atom_iff, q_atom_all, q_atom_some, q_equal_atom, q_equal_equal, q_equal_not, q_equal_and, q_equal_or, q_equal_implies, q_equal_iff, q_equal_all, q_equal_some, q_not_atom, q_not_equal, q_not_not, q_not_and, q_not_or, q_not_implies, q_not_iff, q_not_all, q_not_some, q_and_atom, q_and_equal, q_and_not, q_and_and, q_and_or, q_and_implies, q_and_iff, q_and_all, q_and_some, q_or_atom, q_or_equal, q_or_not, q_or_and, q_or_or, q_or_implies, q_or_iff, q_or_all, q_or_some, q_implies_atom, q_implies_equal, q_implies_not, q_implies_and, q_implies_or, q_implies_implies, q_implies_iff, q_implies_all, q_implies_some, q_iff_atom, q_iff_equal, q_iff_not, q_iff_and, q_iff_or, q_iff_implies, q_iff_iff, q_iff_all, q_iff_some, q_all_atom, q_all_equal, q_all_not, q_all_and, q_all_or, q_all_implies, q_all_iff, q_all_all, q_all_some, q_some_atom, q_some_equal, q_some_not, q_some_and, q_some_or, q_some_implies, q_some_iff, q_some_all, q_some_some, T, m18, e1, e2, e3, Fm.d, sy, d0, h1' d0, j0, j1]
    · have d0 : ¬ dp = 0 := fun z => h1 (.inl z)
      have k3 : ¬ kd < 3 := fun z => h1 (.inr z)
      cases dp with
      | zero => exact absurd rfl d0
      | succ dp =>
        have ed : (((dp + 1 : Nat) : Int) - 1) = (dp : Int) := by omega
        have d1 : ¬ ((dp : Int) + 1) = 0 := by omega
        have tr : ∀ (a c : Int) (b : Nat), b + dp < 1000 → ∃ t a' c', Fm.ok b t ∧ t.dp ≤ dp ∧ callI (T w) (k + (dp + 1) + 3) 18 [St a rs c, .val (.int dp), .val (.int b)] = .ok (.val t.d) [some (St a' rs c'), none, none] := fun a c b h => ttree w hr dp k a c b h
        by_cases j3 : kd = 3
        · subst j3
          obtain ⟨t, a2, c2, o, p, e2⟩ := tr a1 c1 b (by omega)
          refine ⟨.no t, a2, c2, o, Nat.succ_le_succ p, ?_⟩
          simp [runB, mSeq, mIfS, mTst, mOp2, PL.m2, oV, oP, mCon, getP, setP, ownP, frzs, frz, ixX, orD, ixD, at0, at1, at2, at3, ixN_30, ixN_32, cmpD, mPut, putO, intD, addD, lenD, mOp1, intF, modC, divC, mSet, mRet, mTake, maskE, mSlot, mRd, mAnd, mOr, mNot, mTr, truD, mTup, mNil, mCons, mCallF, mCall, xNil, xIn, xIo, fillIn, backIn, mSkip, mDrop, mRetN, isi_i, isi_t, isi_b, lenOk, mLst, mApp, appO, mFor, mRng, aName, mIt, seqOf, eqX_int, eqX_bl, neD_int, q_atom_atom, q_atom_equal, q_atom_not, q_atom_and, q_atom_or, q_atom_implies, q_atom_iff, q_atom_all, q_atom_some, q_equal_atom, q_equal_equal, q_equal_not, q_equal_and, q_equal_or, q_equal_implies, q_equal_iff, q_equal_all, q_equal_some, q_not_atom, q_not_equal, q_not_not, q_not_and, q_not_or, q_not_implies, q_not_iff, q_not_all, q_not_some, q_and_atom, q_and_equal, q_and_not, q_and_and, q_and_or, q_and_implies, q_and_iff, q_and_all, q_and_some, q_or_atom, q_or_equal, q_or_not, q_or_and, q_or_or, q_or_implies, q_or_iff, q_or_all, q_or_some, q_implies_atom, q_implies_equal, q_implies_not, q_implies_and, q_implies_or, q_implies_implies, q_implies_iff, q_implies_all, q_implies_some, q_iff_atom, q_iff_equal, q_iff_not, q_iff_and, q_iff_or, q_iff_implies, q_iff_iff, q_iff_all, q_iff_some, q_all_atom, q_all_equal, q_all_not, q_all_and, q_all_or, q_all_implies, q_all_iff, q_all_all, q_all_some, q_some_atom, q_some_equal, q_some_not, q_some_and, q_some_or, q_some_implies, q_some_iff, q_some_all, q_some_some, T, m18, e1, e2, Fm.d, sy, ed, d1]
        · by_cases j6 : kd < 6
          · obtain ⟨i, a2, c2, i0, i1, e2⟩ := dg 2 a1 c1 (by omega) (by omega)
            obtain ⟨t, a3, c3, o, p, e3⟩ := tr a2 c2 (b + 1) (by omega)
            have eb : ((b + 1 : Nat) : Int) = (b : Int) + 1 := by omega
            rw [eb] at e3
            have hi : i = 0 ∨ i = 1 := by omega
            rcases hi with rfl | rfl
            · refine ⟨.qu false b t, a3, c3, ⟨rfl, o⟩, Nat.succ_le_succ p, ?_⟩
              simp [runB, mSeq, mIfS, mTst, mOp2, PL.m2, oV, oP, mCon, getP, setP, ownP, frzs, frz, ixX, orD, ixD, at0, at1, at2, at3, ixN_30, ixN_32, cmpD, mPut, putO, intD, addD, lenD, mOp1, intF, modC, divC, mSet, mRet, mTake, maskE, mSlot, mRd, mAnd, mOr, mNot, mTr, truD, mTup, mNil, mCons, mCallF, mCall, xNil, xIn, xIo, fillIn, backIn, mSkip, mDrop, mRetN, isi_i, isi_t, isi_b, lenOk, mLst, mApp, appO, mFor, mRng, aName, mIt, seqOf, eqX_int, eqX_bl, neD_int, q_atom_atom, q_atom_equal, q_atom_not, q_atom_and, q_atom_or, q_atom_implies, q_atom_iff, q_atom_all, q_atom_some, q_equal_atom, q_equal_equal, q_equal_not, q_equal_and, q_equal_or, q_equal_implies, q_equal_iff, q_equal_all, q_equal_some, q_not_atom, q_not_equal, q_not_not, q_not_and, q_not_or, q_not_implies, q_not_iff, q_not_all, q_not_some, q_and_atom, q_and_equal, q_and_not, q_and_and, q_and_or, q_and_implies, q_and_iff, q_and_all, q_and_some, q_or_atom, q_or_equal, q_or_not, q_or_and, q_or_or, q_or_implies, q_or_iff, q_or_all, q_or_some, q_implies_atom, q_implies_equal, q_implies_not, q_implies_and, q_implies_or, q_implies_implies, q_implies_iff, q_implies_all, q_implies_some, q_iff_atom, q_iff_equal, q_iff_not, q_iff_and, q_iff_or, q_iff_implies, q_iff_iff, q_iff_all, q_iff_some, q_all_atom, q_all_equal, q_all_not, q_all_and, q_all_or, q_all_implies, q_all_iff, q_all_all, q_all_some, q_some_atom, q_some_equal, q_some_not, q_some_and, q_some_or, q_some_implies, q_some_iff, q_some_all, q_some_some, T, m18, e1, e2, e3, Fm.d, sy, ed, d1, k3, j3, j6]
            · refine ⟨.qu true b t, a3, c3, ⟨rfl, o⟩, Nat.succ_le_succ p, ?_⟩
              simp [runB, mSeq, mIfS, mTst, mOp2, PL.m2, oV, oP, mCon, getP, setP, ownP, frzs, frz, ixX, orD, ixD, at0, at1, at2, at3, ixN_30, ixN_32, cmpD, mPut, putO, intD, addD, lenD, mOp1, intF, modC, divC, mSet, mRet, mTake, maskE, mSlot, mRd, mAnd, mOr, mNot, mTr, truD, mTup, mNil, mCons, mCallF, mCall, xNil, xIn, xIo, fillIn, backIn, mSkip, mDrop, mRetN, isi_i, isi_t, isi_b, lenOk, mLst, mApp, appO, mFor, mRng, aName, mIt, seqOf, eqX_int, eqX_bl, neD_int, q_atom_atom, q_atom_equal, q_atom_not, q_atom_and, q_atom_or, q_atom_implies, q_atom_iff, q_atom_all, q_atom_some, q_equal_atom, q_equal_equal, q_equal_not, q_equal_and, q_equal_or, q_equal_implies, q_equal_iff, q_equal_all, q_equal_some, q_not_atom, q_not_equal, q_not_not, q_not_and, q_not_or, q_not_implies, q_not_iff, q_not_all, q_not_some, q_and_atom, q_and_equal, q_and_not, q_and_and, q_and_or, q_and_implies, q_and_iff, q_and_all, q_and_some, q_or_atom, q_or_equal, q_or_not, q_or_and, q_or_or, q_or_implies, q_or_iff, q_or_all, q_or_some, q_implies_atom, q_implies_equal, q_implies_not, q_implies_and, q_implies_or, q_implies_implies, q_implies_iff, q_implies_all, q_implies_some, q_iff_atom, q_iff_equal, q_iff_not, q_iff_and, q_iff_or, q_iff_implies, q_iff_iff, q_iff_all, q_iff_some, q_all_atom, q_all_equal, q_all_not, q_all_and, q_all_or, q_all_implies, q_all_iff, q_all_all, q_all_some, q_some_atom, q_some_equal, q_some_not, q_some_and, q_some_or, q_some_implies, q_some_iff, q_some_all, q_some_some, T, m18, e1, e2, e3, Fm.d, sy, ed, d1, k3, j3, j6]
          · obtain ⟨i, a2, c2, i0, i1, e2⟩ := dg 4 a1 c1 (by omega) (by omega)
            obtain ⟨t, a3, c3, o3, p3, e3⟩ := tr a2 c2 b (by omega)
            obtain ⟨u, a4, c4, o4, p4, e4⟩ := tr a3 c3 b (by omega)
            have dd : ∀ o, (Fm.bi o t u).dp ≤ dp + 1 := fun o => by unfold Fm.dp; omega
            have hi : i = 0 ∨ i = 1 ∨ i = 2 ∨ i = 3 := by omega
            rcases hi with rfl | rfl | rfl | rfl
            · refine ⟨.bi .a t u, a4, c4, ⟨o3, o4⟩, dd _, ?_⟩
              simp [runB, mSeq, mIfS, mTst, mOp2, PL.m2, oV, oP, mCon, getP, setP, ownP, frzs, frz, ixX, orD, ixD, at0, at1, at2, at3, ixN_30, ixN_32, cmpD, mPut, putO, intD, addD, lenD, mOp1, intF, modC, divC, mSet, mRet, mTake, maskE, mSlot, mRd, mAnd, mOr, mNot, mTr, truD, mTup, mNil, mCons, mCallF, mCall, xNil, xIn, xIo, fillIn, backIn, mSkip, mDrop, mRetN, isi_i, isi_t, isi_b, lenOk, mLst, mApp, appO, mFor, mRng, aName, mIt, seqOf, eqX_int, eqX_bl, neD_int, q_atom_atom, q_atom_equal, q_atom_not, q_atom_and, q_atom_or, q_atom_implies, q_atom_iff, q_atom_all, q_atom_some, q_equal_atom, q_equal_equal, q_equal_not, q_equal_and, q_equal_or, q_equal_implies, q_equal_iff, q_equal_all, q_equal_some, q_not_atom, q_not_equal, q_not_not, q_not_and, q_not_or, q_not_implies, q_not_iff, q_not_all, q_not_some, q_and_atom, q_and_equal, q_and_not, q_and_and, q_and_or, q_and_implies, q_and_iff, q_and_all, q_and_some, q_or_atom, q_or_equal, q_or_not, q_or_and, q_or_or, q_or_implies, q_or_iff, q_or_all, q_or_some, q_implies_atom, q_implies_equal, q_implies_not, q_implies_and, q_implies_or, q_implies_implies, q_implies_iff, q_implies_all, q_implies_some, q_iff_atom, q_iff_equal, q_iff_not, q_iff_and, q_iff_or, q_iff_implies, q_iff_iff, q_iff_all, q_iff_some, q_all_atom, q_all_equal, q_all_not, q_all_and, q_all_or, q_all_implies, q_all_iff, q_all_all, q_all_some, q_some_atom, q_some_equal, q_some_not, q_some_and, q_some_or, q_some_implies, q_some_iff, q_some_all, q_some_some, T, m18, e1, e2, e3, e4, Fm.d, sy, ed, d1, k3, j3, j6, Bo.s]
            · refine ⟨.bi .o t u, a4, c4, ⟨o3, o4⟩, dd _, ?_⟩
              simp [runB, mSeq, mIfS, mTst, mOp2, PL.m2, oV, oP, mCon, getP, setP, ownP, frzs, frz, ixX, orD, ixD, at0, at1, at2, at3, ixN_30, ixN_32, cmpD, mPut, putO, intD, addD, lenD, mOp1, intF, modC, divC, mSet, mRet, mTake, maskE, mSlot, mRd, mAnd, mOr, mNot, mTr, truD, mTup, mNil, mCons, mCallF, mCall, xNil, xIn, xIo, fillIn, backIn, mSkip, mDrop, mRetN, isi_i, isi_t, isi_b, lenOk, mLst, mApp, appO, mFor, mRng, aName, mIt, seqOf, eqX_int, eqX_bl, neD_int, q_atom_atom, q_atom_equal, q_atom_not, q_atom_and, q_atom_or, q_atom_implies, q_atom_iff, q_atom_all, q_atom_some, q_equal_atom, q_equal_equal, q_equal_not, q_equal_and, q_equal_or, q_equal_implies, q_equal_iff, q_equal_all, q_equal_some, q_not_atom, q_not_equal, q_not_not, q_not_and, q_not_or, q_not_implies, q_not_iff, q_not_all, q_not_some, q_and_atom, q_and_equal, q_and_not, q_and_and, q_and_or, q_and_implies, q_and_iff, q_and_all, q_and_some, q_or_atom, q_or_equal, q_or_not, q_or_and, q_or_or, q_or_implies, q_or_iff, q_or_all, q_or_some, q_implies_atom, q_implies_equal, q_implies_not, q_implies_and, q_implies_or, q_implies_implies, q_implies_iff, q_implies_all, q_implies_some, q_iff_atom, q_iff_equal, q_iff_not, q_iff_and, q_iff_or, q_iff_implies, q_iff_iff, q_iff_all, q_iff_some, q_all_atom, q_all_equal, q_all_not, q_all_and, q_all_or, q_all_implies, q_all_iff, q_all_all, q_all_some, q_some_atom, q_some_equal, q_some_not, q_some_and, q_some_or, q_some_implies, q_some_iff, q_some_all, q_some_some, T, m18, e1, e2, e3, e4, Fm.d, sy, ed, d1, k3, j3, j6, Bo.s]
            · refine ⟨.bi .i t u, a4, c4, ⟨o3, o4⟩, dd _, ?_⟩
              simp [runB, mSeq, mIfS, mTst, mOp2, PL.m2, oV, oP, mCon, getP, setP, ownP, frzs, frz, ixX, orD, ixD, at0, at1, at2, at3, ixN_30, ixN_32, cmpD, mPut, putO, intD, addD, lenD, mOp1, intF, modC, divC, mSet, mRet, mTake, maskE, mSlot, mRd, mAnd, mOr, mNot, mTr, truD, mTup, mNil, mCons, mCallF, mCall, xNil, xIn, xIo, fillIn, backIn, mSkip, mDrop, mRetN, isi_i, isi_t, isi_b, lenOk, mLst, mApp, appO, mFor, mRng, aName, mIt, seqOf, eqX_int, eqX_bl, neD_int, q_atom_atom, q_atom_equal, q_atom_not, q_atom_and, q_atom_or, q_atom_implies, q_atom_iff, q_atom_all, q_atom_some, q_equal_atom, q_equal_equal, q_equal_not, q_equal_and, q_equal_or, q_equal_implies, q_equal_iff, q_equal_all, q_equal_some, q_not_atom, q_not_equal, q_not_not, q_not_and, q_not_or, q_not_implies, q_not_iff, q_not_all, q_not_some, q_and_atom, q_and_equal, q_and_not, q_and_and, q_and_or, q_and_implies, q_and_iff, q_and_all, q_and_some, q_or_atom, q_or_equal, q_or_not, q_or_and, q_or_or, q_or_implies, q_or_iff, q_or_all, q_or_some, q_implies_atom, q_implies_equal, q_implies_not, q_implies_and, q_implies_or, q_implies_implies, q_implies_iff, q_implies_all, q_implies_some, q_iff_atom, q_iff_equal, q_iff_not, q_iff_and, q_iff_or, q_iff_implies, q_iff_iff, q_iff_all, q_iff_some, q_all_atom, q_all_equal, q_all_not, q_all_and, q_all_or, q_all_implies, q_all_iff, q_all_all, q_all_some, q_some_atom, q_some_equal, q_some_not, q_some_and, q_some_or, q_some_implies, q_some_iff, q_some_all, q_some_some, T, m18, e1, e2, e3, e4, Fm.d, sy, ed, d1, k3, j3, j6, Bo.s]
            · refine ⟨.bi .f t u, a4, c4, ⟨o3, o4⟩, dd _, ?_⟩
              simp [runB, mSeq, mIfS, mTst, mOp2, PL.m2, oV, oP, mCon, getP, setP, ownP, frzs, frz, ixX, orD, ixD, at0, at1, at2, at3, ixN_30, ixN_32, cmpD, mPut, putO, intD, addD, lenD, mOp1, intF, modC, divC, mSet, mRet, mTake, maskE, mSlot, mRd, mAnd, mOr, mNot, mTr, truD, mTup, mNil, mCons, mCallF, mCall, xNil, xIn, xIo, fillIn, backIn, mSkip, mDrop, mRetN, isi_i, isi_t, isi_b, lenOk, mLst, mApp, appO, mFor, mRng, aName, mIt, seqOf, eqX_int, eqX_bl, neD_int, q_atom_atom, q_atom_equal, q_atom_not, q_atom_and, q_atom_or, q_atom_implies, q_atom_iff, q_atom_all, q_atom_some, q_equal_atom, q_equal_equal, q_equal_not, q_equal_and, q_equal_or, q_equal_implies, q_equal_iff, q_equal_all, q_equal_some, q_not_atom, q_not_equal, q_not_not, q_not_and, q_not_or, q_not_implies, q_not_iff, q_not_all, q_not_some, q_and_atom, q_and_equal, q_and_not, q_and_and, q_and_or, q_and_implies, q_and_iff, q_and_all, q_and_some, q_or_atom, q_or_equal, q_or_not, q_or_and, q_or_or, q_or_implies, q_or_iff, q_or_all, q_or_some, q_implies_atom, q_implies_equal, q_implies_not, q_implies_and, q_implies_or, q_implies_implies, q_implies_iff, q_implies_all, q_implies_some, q_iff_atom, q_iff_equal, q_iff_not, q_iff_and, q_iff_or, q_iff_implies, q_iff_iff, q_iff_all, q_iff_some, q_all_atom, q_all_equal, q_all_not, q_all_and, q_all_or, q_all_implies, q_all_iff, q_all_all, q_all_some, q_some_atom, q_some_equal, q_some_not, q_some_and, q_some_or, q_some_implies, q_some_iff, q_some_all, q_some_some, T, m18, e1, e2, e3, e4, Fm.d, sy, ed, d1, k3, j3, j6, Bo.s]
end K63
set_option Elab.async false
set_option linter.all false
set_option maxRecDepth 100000
set_option maxHeartbeats 4000000
namespace K63
open PL
theorem pow_big {p : Nat} {n : Nat} (h : p < 2 ^ (n + 2)) : p + 65536 < 2 ^ (n + 18) := by
  have e : 2 ^ (n + 18) = 2 ^ (n + 2) * 65536 := by rw [show n + 18 = (n + 2) + 16 from rfl, Nat.pow_add]
  have h1 : 4 ≤ 2 ^ (n + 2) := by
    rw [Nat.pow_add]
    have := Nat.two_pow_pos n
    omega
  omega
theorem pow_dbl {p : Nat} {n : Nat} (h : p < 2 ^ n) : 1 + 2 * p < 2 ^ (n + 2) := by
  have e : 2 ^ (n + 2) = 2 ^ n * 4 := by rw [Nat.pow_add]
  omega
theorem small_mod {i m : Int} (h : 0 < m) : 0 ≤ i % m ∧ i % m < m := ⟨Int.emod_nonneg _ (by omega), Int.emod_lt_of_pos _ h⟩
theorem nat_lt_pow (n : Nat) (h : n < 65536) : (n : Int).natAbs < 2 ^ 16 := by omega
/-- one turn of the rows -/
theorem row_step (w : PySem.World) (cf cg : Nat → FM) {n : Nat} (hn : n ≤ 1048576) {ns : List Int} (hb : ∀ z ∈ ns, z.natAbs < 2 ^ n) (hl : ns.length < 1000) (os : List Int) (ho : os.length < 1000) (j : Nat) (hj : j < 64) (y : Option O) :
    ∃ c : Int, b14_0 w cf cg [some (.val (intsD ns)), some (.val (.int 64)), some (intsO os), some (.val (.int j)), y] = .nx [some (.val (intsD ns)), some (.val (.int 64)), some (intsO (os ++ [c])), some (.val (.int j)), some (.val (.int c))] := by
  have fin : ∀ z : Int, z.natAbs < 2 ^ n → ∃ c1 : Int, (c1 = if z < 0 then 1 - 2 * z else z) ∧ mulC 2 z = true ∧ mulC 977 j = true ∧ mulC (c1 + 977 * j + 5) 69621 = true ∧ mulC 31 j = true ∧ mulC ((c1 + 977 * j + 5) * 69621 % 2147483647 + 31 * j + 11) 1099511628211 = true := fun z hz => by
    refine ⟨_, rfl, mulC_bits (a := 2) (b := n) (by decide) hz (by omega), mulC_bits (a := 16) (b := 16) (by decide) (nat_lt_pow j (by omega)) (by decide), mulC_bits (a := n + 18) (b := 17) ?_ (by decide) (by omega), mulC_bits (a := 16) (b := 16) (by decide) (nat_lt_pow j (by omega)) (by decide), mulC_bits (a := 40) (b := 41) ?_ (by decide) (by decide)⟩
    · have h1 := pow_dbl hz
      have h2 := pow_big h1
      split <;> omega
    · have h1 := small_mod (i := ((if z < 0 then 1 - 2 * z else z) + 977 * j + 5) * 69621) (m := 2147483647) (by omega)
      generalize (((if z < 0 then 1 - 2 * z else z) + 977 * (j : Int) + 5) * 69621) % 2147483647 = u at h1
      omega
  have ol : lenOk (os.length + 1) = true := lenOk_lt (by omega)
  by_cases h0 : ns.length = 0
  · have e0 : ns = [] := List.length_eq_zero_iff.mp h0
    subst e0
    obtain ⟨c1, e1, m1, m2, m3, m4, m5⟩ := fin 0 (by have := Nat.two_pow_pos n; simpa using this)
    have e2 : c1 = 0 := by rw [e1]; rfl
    subst e2
    simp only [Int.zero_add] at m3 m5
    refine ⟨((977 * j + 5) * 69621 % 2147483647 + 31 * j + 11) * 1099511628211 % 18446744073709551557, ?_⟩
    have ol2 : os.length ≤ 16777215 := by omega
    simp [runB, mSeq, mIfS, mTst, mOp2, PL.m2, oV, oP, mCon, getP, setP, ownP, frzs, frz, ixX, orD, ixD, at0, at1, at2, at3, ixN_30, ixN_32, cmpD, mPut, putO, intD, addD, lenD, mOp1, intF, modC, divC, mSet, mRet, mTake, maskE, mSlot, mRd, mAnd, mOr, mNot, mTr, truD, mTup, mNil, mCons, mCallF, mCall, xNil, xIn, xIo, fillIn, backIn, mSkip, mDrop, mRetN, isi_i, isi_t, isi_b, lenOk, mLst, mApp, appO, mFor, mRng, aName, mIt, seqOf, eqX_int, eqX_bl, neD_int, b14_0, intsD, intsO, mulX_int, m1, m2, m3, m4, m5, ol2]
  · have h1 : 0 < ns.length := by omega
    have hp : (0 : Int) < ns.length := by omega
    obtain ⟨x, hx, hm⟩ := atI_ok (l := ns.map D.int) (i := (j : Int) % (ns.length : Int)) (Int.emod_nonneg _ (by omega)) (by rw [List.length_map]; exact Int.emod_lt_of_pos _ hp)
    obtain ⟨z, hz, rfl⟩ := List.mem_map.mp hm
    obtain ⟨c1, e1, m1, m2, m3, m4, m5⟩ := fin z (hb z hz)
    have ol2 : os.length ≤ 16777215 := by omega
    by_cases hs : z < 0
    · rw [if_pos hs] at e1
      by_cases hd : ns.length ≤ j
      · refine ⟨((c1 + 977 * j + 5) * 69621 % 2147483647 + 31 * j + 11) * 1099511628211 % 18446744073709551557, ?_⟩
        simp [runB, mSeq, mIfS, mTst, mOp2, PL.m2, oV, oP, mCon, getP, setP, ownP, frzs, frz, ixX, orD, ixD, at0, at1, at2, at3, ixN_30, ixN_32, cmpD, mPut, putO, intD, addD, lenD, mOp1, intF, modC, divC, mSet, mRet, mTake, maskE, mSlot, mRd, mAnd, mOr, mNot, mTr, truD, mTup, mNil, mCons, mCallF, mCall, xNil, xIn, xIo, fillIn, backIn, mSkip, mDrop, mRetN, isi_i, isi_t, isi_b, lenOk, mLst, mApp, appO, mFor, mRng, aName, mIt, seqOf, eqX_int, eqX_bl, neD_int, b14_0, intsD, intsO, mulX_int, m1, m2, m3, m4, m5, ol2, h1, hx, hs, hd, ← e1]
      · by_cases he : c1 < 1000000000
        · refine ⟨((c1 + 977 * j + 5) * 69621 % 2147483647 + 31 * j + 11) * 1099511628211 % 18446744073709551557, ?_⟩
          simp [runB, mSeq, mIfS, mTst, mOp2, PL.m2, oV, oP, mCon, getP, setP, ownP, frzs, frz, ixX, orD, ixD, at0, at1, at2, at3, ixN_30, ixN_32, cmpD, mPut, putO, intD, addD, lenD, mOp1, intF, modC, divC, mSet, mRet, mTake, maskE, mSlot, mRd, mAnd, mOr, mNot, mTr, truD, mTup, mNil, mCons, mCallF, mCall, xNil, xIn, xIo, fillIn, backIn, mSkip, mDrop, mRetN, isi_i, isi_t, isi_b, lenOk, mLst, mApp, appO, mFor, mRng, aName, mIt, seqOf, eqX_int, eqX_bl, neD_int, b14_0, intsD, intsO, mulX_int, m1, m2, m3, m4, m5, ol2, h1, hx, hs, hd, he, ← e1]
        · refine ⟨c1, ?_⟩
          simp [runB, mSeq, mIfS, mTst, mOp2, PL.m2, oV, oP, mCon, getP, setP, ownP, frzs, frz, ixX, orD, ixD, at0, at1, at2, at3, ixN_30, ixN_32, cmpD, mPut, putO, intD, addD, lenD, mOp1, intF, modC, divC, mSet, mRet, mTake, maskE, mSlot, mRd, mAnd, mOr, mNot, mTr, truD, mTup, mNil, mCons, mCallF, mCall, xNil, xIn, xIo, fillIn, backIn, mSkip, mDrop, mRetN, isi_i, isi_t, isi_b, lenOk, mLst, mApp, appO, mFor, mRng, aName, mIt, seqOf, eqX_int, eqX_bl, neD_int, b14_0, intsD, intsO, mulX_int, m1, ol2, h1, hx, hs, hd, he, ← e1]
    · rw [if_neg hs] at e1
      subst e1
      by_cases hd : ns.length ≤ j
      · refine ⟨((c1 + 977 * j + 5) * 69621 % 2147483647 + 31 * j + 11) * 1099511628211 % 18446744073709551557, ?_⟩
        simp [runB, mSeq, mIfS, mTst, mOp2, PL.m2, oV, oP, mCon, getP, setP, ownP, frzs, frz, ixX, orD, ixD, at0, at1, at2, at3, ixN_30, ixN_32, cmpD, mPut, putO, intD, addD, lenD, mOp1, intF, modC, divC, mSet, mRet, mTake, maskE, mSlot, mRd, mAnd, mOr, mNot, mTr, truD, mTup, mNil, mCons, mCallF, mCall, xNil, xIn, xIo, fillIn, backIn, mSkip, mDrop, mRetN, isi_i, isi_t, isi_b, lenOk, mLst, mApp, appO, mFor, mRng, aName, mIt, seqOf, eqX_int, eqX_bl, neD_int, b14_0, intsD, intsO, mulX_int, m1, m2, m3, m4, m5, ol2, h1, hx, hs, hd]
      · by_cases he : c1 < 1000000000
        · refine ⟨((c1 + 977 * j + 5) * 69621 % 2147483647 + 31 * j + 11) * 1099511628211 % 18446744073709551557, ?_⟩
          simp [runB, mSeq, mIfS, mTst, mOp2, PL.m2, oV, oP, mCon, getP, setP, ownP, frzs, frz, ixX, orD, ixD, at0, at1, at2, at3, ixN_30, ixN_32, cmpD, mPut, putO, intD, addD, lenD, mOp1, intF, modC, divC, mSet, mRet, mTake, maskE, mSlot, mRd, mAnd, mOr, mNot, mTr, truD, mTup, mNil, mCons, mCallF, mCall, xNil, xIn, xIo, fillIn, backIn, mSkip, mDrop, mRetN, isi_i, isi_t, isi_b, lenOk, mLst, mApp, appO, mFor, mRng, aName, mIt, seqOf, eqX_int, eqX_bl, neD_int, b14_0, intsD, intsO, mulX_int, m1, m2, m3, m4, m5, ol2, h1, hx, hs, hd, he]
        · refine ⟨c1, ?_⟩
          simp [runB, mSeq, mIfS, mTst, mOp2, PL.m2, oV, oP, mCon, getP, setP, ownP, frzs, frz, ixX, orD, ixD, at0, at1, at2, at3, ixN_30, ixN_32, cmpD, mPut, putO, intD, addD, lenD, mOp1, intF, modC, divC, mSet, mRet, mTake, maskE, mSlot, mRd, mAnd, mOr, mNot, mTr, truD, mTup, mNil, mCons, mCallF, mCall, xNil, xIn, xIo, fillIn, backIn, mSkip, mDrop, mRetN, isi_i, isi_t, isi_b, lenOk, mLst, mApp, appO, mFor, mRng, aName, mIt, seqOf, eqX_int, eqX_bl, neD_int, b14_0, intsD, intsO, mulX_int, m1, ol2, h1, hx, hs, hd, he]
theorem trows (w : PySem.World) (k : Nat) {ns : List Int} (hl : ns.length ≤ 63) (hb : ∀ z ∈ ns, PySem.Builtin.Int.intBits z ≤ 1048576) : ∃ rs : List Int, rs.length = 64 ∧ callI (T w) (k + 1) 14 [.val (intsD ns), .val (.int 64)] = .ok (intsO rs) [none, none] := by
  have hb2 : ∀ z ∈ ns, z.natAbs < 2 ^ 1048576 := fun z m => bits_lt (hb z m)
  generalize e : 1048576 = n at hb2
  obtain ⟨r', h1, h2⟩ := loop_nx (a := aName 3) (b := b14_0 w (callI (T w) k) (callI (T w) (k - 1))) (fun ds r => (∀ d ∈ ds, ∃ j : Nat, d = .int j ∧ j < 64) ∧ ∃ os x y, os.length + ds.length = 64 ∧ r = [some (.val (intsD ns)), some (.val (.int 64)), some (intsO os), x, y]) (fun d ds r ⟨q1, os, x, y, q2, q3⟩ => by
    subst q3
    obtain ⟨j, rfl, hj⟩ := q1 d (List.mem_cons_self ..)
    rw [List.length_cons] at q2
    obtain ⟨c, e2⟩ := row_step w (callI (T w) k) (callI (T w) (k - 1)) (n := n) (by omega) hb2 (by omega) os (by omega) j hj y
    refine ⟨_, _, rfl, e2, fun d m => q1 d (List.mem_cons_of_mem _ m), os ++ [c], _, _, ?_, rfl⟩
    rw [List.length_append, List.length_singleton]
    omega) (rngD 64) [some (.val (intsD ns)), some (.val (.int 64)), some (intsO []), none, none] ⟨fun d m => rng_mem m, [], none, none, (by rw [rng_len]; rfl), rfl⟩
  obtain ⟨_, os, x, y, q2, rfl⟩ := h2
  refine ⟨os, by simpa using q2, ?_⟩
  rw [callK]
  simp [runB, mSeq, mIfS, mTst, mOp2, PL.m2, oV, oP, mCon, getP, setP, ownP, frzs, frz, ixX, orD, ixD, at0, at1, at2, at3, ixN_30, ixN_32, cmpD, mPut, putO, intD, addD, lenD, mOp1, intF, modC, divC, mSet, mRet, mTake, maskE, mSlot, mRd, mAnd, mOr, mNot, mTr, truD, mTup, mNil, mCons, mCallF, mCall, xNil, xIn, xIo, fillIn, backIn, mSkip, mDrop, mRetN, isi_i, isi_t, isi_b, lenOk, mLst, mApp, appO, mFor, mRng, aName, mIt, seqOf, eqX_int, eqX_bl, neD_int, T, m14, intsD, intsO] at h1 ⊢
  simp [h1]
theorem tstate (w : PySem.World) (k : Nat) {ns : List Int} (hl : ns.length ≤ 63) (hb : ∀ z ∈ ns, PySem.Builtin.Int.intBits z ≤ 1048576) : ∃ a rs, rs.length = 64 ∧ callI (T w) (k + 2) 16 [.val (intsD ns)] = .ok (St a rs 0) [none] := by
  obtain ⟨rs, h1, h2⟩ := trows w k hl hb
  cases rs with
  | nil => cases h1
  | cons a rs =>
    refine ⟨a, a :: rs, h1, ?_⟩
    have e : frzs (rs.map (O.val ∘ D.int)) = rs.map D.int := frzs_ints rs
    rw [callK]
    simp only [intsD] at h2
    simp [runB, mSeq, mIfS, mTst, mOp2, PL.m2, oV, oP, mCon, getP, setP, ownP, frzs, frz, ixX, orD, ixD, at0, at1, at2, at3, ixN_30, ixN_32, cmpD, mPut, putO, intD, addD, lenD, mOp1, intF, modC, divC, mSet, mRet, mTake, maskE, mSlot, mRd, mAnd, mOr, mNot, mTr, truD, mTup, mNil, mCons, mCallF, mCall, xNil, xIn, xIo, fillIn, backIn, mSkip, mDrop, mRetN, isi_i, isi_t, isi_b, lenOk, mLst, mApp, appO, mFor, mRng, aName, mIt, seqOf, eqX_int, eqX_bl, neD_int, T, m16, intsD, h2, intsO, St, e, frzs_ints]
end K63
set_option Elab.async false
set_option linter.all false
set_option maxRecDepth 100000
set_option maxHeartbeats 4000000
namespace K63
open PL
inductive Us where
  | c0
  | c1
  | fn
  | q
  | p
  | z
  deriving DecidableEq
def Us.a : Us → Int
  | .c0 => 2
  | .c1 => 2
  | .fn => 2
  | _ => 1
def Us.b : Us → Int
  | .c0 => 0
  | .c1 => 1
  | .fn => 2
  | .q => 4
  | .p => 5
  | .z => 9
def Us.ar : Us → Nat
  | .fn => 1
  | .p => 1
  | _ => 0
def Us.d (u : Us) : D := .tup [sy u.a u.b, .int u.ar]
def usD (l : List Us) : D := .lst (l.map Us.d)
def usO (l : List Us) : O := .lst (l.map (O.val ∘ Us.d))
theorem us_okD (u : Us) : okD u.d = true := by cases u <;> rfl
theorem us_eqv (u v : Us) : PySem.PyData.eqv (toP u.d) (toP v.d) = decide (u = v) := by cases u <;> cases v <;> rfl
theorem us_seqs : ∀ l : List Us, seqDs (l.map Us.d) = true
  | [] => rfl
  | u :: l => by
    rw [List.map_cons]
    unfold seqDs
    rw [us_seqs l]
    cases u <;> rfl
theorem us_lay : ∀ l : List Us, PySem.PyData.canLayAll0 (toPs (l.map Us.d)) = true ∧ PySem.PyData.depthAll (toPs (l.map Us.d)) ≤ 2
  | [] => ⟨rfl, Nat.zero_le _⟩
  | u :: l => by
    obtain ⟨h1, h2⟩ := us_lay l
    rw [List.map_cons, toPs]
    refine ⟨?_, ?_⟩
    · rw [PySem.PyData.canLayAll0, h1]
      cases u <;> rfl
    · rw [PySem.PyData.depthAll]
      have h3 : PySem.PyData.depth (toP u.d) = 2 := by cases u <;> rfl
      omega
theorem usl_okD (l : List Us) : okD (.lst (l.map Us.d)) = true := by
  obtain ⟨h1, h2⟩ := us_lay l
  unfold okD PySem.SeqAt.shaped
  rw [seqD, us_seqs l, toP, PySem.PyData.canLay0, h1, PySem.PyData.depth]
  simp only [Bool.true_and, decide_eq_true_eq]
  omega
theorem any_us (u : Us) : ∀ l : List Us, ((l.map Us.d).any fun z => PySem.PyData.eqv (toP z) (toP u.d)) = decide (u ∈ l)
  | [] => by simp
  | v :: l => by
    rw [List.map_cons, List.any_cons, any_us u l, us_eqv]
    by_cases h : v = u
    · subst h; simp
    · have h2 : ¬ u = v := fun z => h z.symm
      simp [h, h2]
theorem inX_us (u : Us) (l : List Us) : inX true u.d (.lst (l.map Us.d)) = some (.val (.bl (!decide (u ∈ l)))) := by
  unfold inX orD inL
  dsimp only
  rw [us_okD, usl_okD]
  simp only [Bool.and_self, if_true]
  rw [any_us]
def add (u : Us) (l : List Us) : List Us := if u ∈ l then l else l ++ [u]
def cu (i : Nat) : Us := if i = 0 then .c0 else .c1
def Tm.us : Tm → List Us → List Us
  | .v _, l => l
  | .c i, l => add (cu i) l
  | .f t, l => t.us (add .fn l)
theorem frzs_us (l : List Us) : frzs (l.map fun u => O.val u.d) = l.map Us.d := by
  have e : (l.map fun u => O.val u.d) = (l.map Us.d).map O.val := by rw [List.map_map]; rfl
  rw [e, frzs_vals]
theorem frzs_us2 (l : List Us) : frzs (l.map (O.val ∘ Us.d)) = l.map Us.d := frzs_us l
theorem us_val (l : List Us) : (l.map Us.d).map O.val = l.map fun u => O.val u.d := by rw [List.map_map]; rfl
def Us.ok : List Us → Prop := fun l => l.length ≤ 6
theorem add_len {u : Us} {l : List Us} (h : l.length ≤ 1000) : (add u l).length ≤ l.length + 1 := by
  unfold add
  split
  · omega
  · rw [List.length_append]; exact Nat.le_refl _
theorem cu_d {i : Nat} (h : i < 2) : (cu i).d = .tup [sy 2 i, .int 0] := by
  have : i = 0 ∨ i = 1 := by omega
  rcases this with rfl | rfl <;> rfl
theorem cu_in {i : Nat} (h : i < 2) (l : List Us) : inX true (.tup [.tup [.int 2, .int i, .int 0], .int 0]) (.lst (l.map Us.d)) = some (.val (.bl (!decide (cu i ∈ l)))) := by
  rw [← inX_us, cu_d h]; rfl
theorem fn_in (l : List Us) : inX true (.tup [.tup [.int 2, .int 2, .int 0], .int 1]) (.lst (l.map Us.d)) = some (.val (.bl (!decide (Us.fn ∈ l)))) := by
  rw [← inX_us]; rfl
theorem luse (w : PySem.World) : ∀ (t : Tm) (b k : Nat) (l : List Us), t.ok b → l.length + t.dp < 1000 → callI (T w) (k + t.dp + 1) 21 [.val t.d, usO l] = .ok (.val .non) [none, some (usO (t.us l))]
  | .v n, b, k, l, ok, hl => by
    rw [callK]
    simp [runB, mSeq, mIfS, mTst, mOp2, PL.m2, oV, oP, mCon, getP, setP, ownP, frzs, frz, ixX, orD, ixD, at0, at1, at2, at3, ixN_30, ixN_32, cmpD, mPut, putO, intD, addD, lenD, mOp1, intF, modC, divC, mSet, mRet, mTake, maskE, mSlot, mRd, mAnd, mOr, mNot, mTr, truD, mTup, mNil, mCons, mCallF, mCall, xNil, xIn, xIo, fillIn, backIn, mSkip, mDrop, mRetN, isi_i, isi_t, isi_b, lenOk, mLst, mApp, appO, mFor, mRng, aName, mIt, seqOf, eqX_int, eqX_bl, neD_int, T, m21, Tm.d, Tm.us, usO]
  | .c i, b, k, l, ok, hl => by
    have ok : i < 2 := ok
    rw [callK]
    have e0 := cu_in ok l
    have e1 := cu_d ok
    have hl2 : l.length ≤ 16777215 := by omega
    by_cases hm : cu i ∈ l
    · simp [runB, mSeq, mIfS, mTst, mOp2, PL.m2, oV, oP, mCon, getP, setP, ownP, frzs, frz, ixX, orD, ixD, at0, at1, at2, at3, ixN_30, ixN_32, cmpD, mPut, putO, intD, addD, lenD, mOp1, intF, modC, divC, mSet, mRet, mTake, maskE, mSlot, mRd, mAnd, mOr, mNot, mTr, truD, mTup, mNil, mCons, mCallF, mCall, xNil, xIn, xIo, fillIn, backIn, mSkip, mDrop, mRetN, isi_i, isi_t, isi_b, lenOk, mLst, mApp, appO, mFor, mRng, aName, mIt, seqOf, eqX_int, eqX_bl, neD_int, T, m21, Tm.d, Tm.us, usO, sy, frzs_us, frzs_us2, add, e0, hm, loop_nil]
    · simp [runB, mSeq, mIfS, mTst, mOp2, PL.m2, oV, oP, mCon, getP, setP, ownP, frzs, frz, ixX, orD, ixD, at0, at1, at2, at3, ixN_30, ixN_32, cmpD, mPut, putO, intD, addD, lenD, mOp1, intF, modC, divC, mSet, mRet, mTake, maskE, mSlot, mRd, mAnd, mOr, mNot, mTr, truD, mTup, mNil, mCons, mCallF, mCall, xNil, xIn, xIo, fillIn, backIn, mSkip, mDrop, mRetN, isi_i, isi_t, isi_b, lenOk, mLst, mApp, appO, mFor, mRng, aName, mIt, seqOf, eqX_int, eqX_bl, neD_int, T, m21, Tm.d, Tm.us, usO, sy, frzs_us, frzs_us2, add, e0, e1, hm, loop_nil, hl2]
  | .f t, b, k, l, ok, hl => by
    have ok : t.ok b := ok
    have hl : l.length + (t.dp + 1) < 1000 := hl
    have hl2 : l.length ≤ 16777215 := by omega
    have e0 := fn_in l
    have al := add_len (u := .fn) (l := l) (by omega)
    have ih := luse w t b k (add .fn l) ok (by omega)
    show callI (T w) (k + t.dp + 1 + 1) 21 _ = _
    rw [callK]
    by_cases hm : Us.fn ∈ l
    · simp only [add, if_pos hm, usO] at ih
      simp [runB, mSeq, mIfS, mTst, mOp2, PL.m2, oV, oP, mCon, getP, setP, ownP, frzs, frz, ixX, orD, ixD, at0, at1, at2, at3, ixN_30, ixN_32, cmpD, mPut, putO, intD, addD, lenD, mOp1, intF, modC, divC, mSet, mRet, mTake, maskE, mSlot, mRd, mAnd, mOr, mNot, mTr, truD, mTup, mNil, mCons, mCallF, mCall, xNil, xIn, xIo, fillIn, backIn, mSkip, mDrop, mRetN, isi_i, isi_t, isi_b, lenOk, mLst, mApp, appO, mFor, mRng, aName, mIt, seqOf, eqX_int, eqX_bl, neD_int, T, m21, b21_0, Tm.d, Tm.us, usO, sy, frzs_us, frzs_us2, add, e0, hm, loop_nil, loopF, ih]
    · have ed : Us.fn.d = .tup [.tup [.int 2, .int 2, .int 0], .int 1] := rfl
      simp only [add, if_neg hm, usO, List.map_append, List.map_cons, List.map_nil, Function.comp_apply, ed] at ih
      simp [runB, mSeq, mIfS, mTst, mOp2, PL.m2, oV, oP, mCon, getP, setP, ownP, frzs, frz, ixX, orD, ixD, at0, at1, at2, at3, ixN_30, ixN_32, cmpD, mPut, putO, intD, addD, lenD, mOp1, intF, modC, divC, mSet, mRet, mTake, maskE, mSlot, mRd, mAnd, mOr, mNot, mTr, truD, mTup, mNil, mCons, mCallF, mCall, xNil, xIn, xIo, fillIn, backIn, mSkip, mDrop, mRetN, isi_i, isi_t, isi_b, lenOk, mLst, mApp, appO, mFor, mRng, aName, mIt, seqOf, eqX_int, eqX_bl, neD_int, T, m21, b21_0, Tm.d, Tm.us, usO, sy, frzs_us, frzs_us2, add, e0, hm, loop_nil, loopF, hl2, ed, ih]
end K63
set_option Elab.async false
set_option linter.all false
set_option maxRecDepth 100000
set_option maxHeartbeats 4000000
namespace K63
open PL
theorem nd_sub : ∀ {l m : List Us}, l.Nodup → (∀ x ∈ l, x ∈ m) → l.length ≤ m.length
  | [], m, _, _ => Nat.zero_le _
  | x :: t, m, nd, s => by
    obtain ⟨h1, h2⟩ := List.nodup_cons.mp nd
    have hx := s x (List.mem_cons_self ..)
    have ih := nd_sub (m := m.erase x) h2 fun y hy => (List.mem_erase_of_ne (by rintro rfl; exact h1 hy)).mpr (s y (List.mem_cons_of_mem _ hy))
    rw [List.length_erase_of_mem hx] at ih
    have : 0 < m.length := List.length_pos_of_mem hx
    rw [List.length_cons]
    omega
theorem nd_len {l : List Us} (h : l.Nodup) : l.length ≤ 6 := nd_sub (m := [.c0, .c1, .fn, .q, .p, .z]) h fun x _ => by cases x <;> decide
theorem add_nd {u : Us} {l : List Us} (h : l.Nodup) : (add u l).Nodup := by
  unfold add
  split
  · exact h
  · rename_i n
    exact List.nodup_append.mpr ⟨h, List.nodup_cons.mpr ⟨List.not_mem_nil, List.nodup_nil⟩, fun a ha b hb => by
      rw [List.mem_singleton] at hb
      rintro rfl
      exact n (hb ▸ ha)⟩
theorem tus_nd : ∀ {t : Tm} {l : List Us}, l.Nodup → (t.us l).Nodup
  | .v _, l, h => h
  | .c i, l, h => add_nd h
  | .f t, l, h => tus_nd (t := t) (add_nd h)
theorem isv_i (w : PySem.World) (k : Nat) (n : Int) : callI (T w) (k + 1) 0 [.val (.int n)] = .ok (.val (.bl true)) [none] := by
  rw [callK]
  simp [runB, mSeq, mIfS, mTst, mOp2, PL.m2, oV, oP, mCon, getP, setP, ownP, frzs, frz, ixX, orD, ixD, at0, at1, at2, at3, ixN_30, ixN_32, cmpD, mPut, putO, intD, addD, lenD, mOp1, intF, modC, divC, mSet, mRet, mTake, maskE, mSlot, mRd, mAnd, mOr, mNot, mTr, truD, mTup, mNil, mCons, mCallF, mCall, xNil, xIn, xIo, fillIn, backIn, mSkip, mDrop, mRetN, isi_i, isi_t, isi_b, lenOk, mLst, mApp, appO, mFor, mRng, aName, mIt, seqOf, eqX_int, eqX_bl, neD_int, T, m0]
theorem isv_t (w : PySem.World) (k : Nat) (ds : List D) : callI (T w) (k + 1) 0 [.val (.tup ds)] = .ok (.val (.bl false)) [none] := by
  rw [callK]
  simp [runB, mSeq, mIfS, mTst, mOp2, PL.m2, oV, oP, mCon, getP, setP, ownP, frzs, frz, ixX, orD, ixD, at0, at1, at2, at3, ixN_30, ixN_32, cmpD, mPut, putO, intD, addD, lenD, mOp1, intF, modC, divC, mSet, mRet, mTake, maskE, mSlot, mRd, mAnd, mOr, mNot, mTr, truD, mTup, mNil, mCons, mCallF, mCall, xNil, xIn, xIo, fillIn, backIn, mSkip, mDrop, mRetN, isi_i, isi_t, isi_b, lenOk, mLst, mApp, appO, mFor, mRng, aName, mIt, seqOf, eqX_int, eqX_bl, neD_int, T, m0]
theorem tru_ok : okD g_TRUTH = true := by rfl
theorem tm_lay : ∀ t : Tm, seqD t.d = true ∧ PySem.PyData.canLay0 (toP t.d) = true ∧ PySem.PyData.depth (toP t.d) ≤ 2 * t.dp + 2
  | .v _ => ⟨rfl, rfl, Nat.zero_le _⟩
  | .c _ => ⟨rfl, rfl, Nat.le_refl _⟩
  | .f t => by
    obtain ⟨h1, h2, h3⟩ := tm_lay t
    refine ⟨?_, ?_, ?_⟩
    · show (true && ((seqD t.d && true) && true)) = true
      rw [h1]; rfl
    · show (true && ((PySem.PyData.canLay0 (toP t.d) && true) && true)) = true
      rw [h2]; rfl
    · show max 1 (max (max (PySem.PyData.depth (toP t.d)) 0 + 1) 0) + 1 ≤ 2 * (t.dp + 1) + 2
      omega
theorem tm_okD {t : Tm} (h : t.dp ≤ 20) : okD t.d = true := by
  obtain ⟨h1, h2, h3⟩ := tm_lay t
  unfold okD PySem.SeqAt.shaped
  rw [h1, h2]
  simp only [Bool.true_and, decide_eq_true_eq]
  omega
theorem ne_c {i : Nat} (h : i < 2) : neD (.tup [.tup [.int 2, .int i, .int 0], .tup []]) g_TRUTH = some (.val (.bl true)) := by
  unfold neD
  rw [tru_ok]
  rfl
theorem ne_f {t : Tm} (h : t.dp ≤ 19) : neD (.tup [.tup [.int 2, .int 2, .int 0], .tup [t.d]]) g_TRUTH = some (.val (.bl true)) := by
  have e : okD (.tup [.tup [.int 2, .int 2, .int 0], .tup [t.d]]) = true := tm_okD (t := .f t) (Nat.succ_le_succ h)
  unfold neD
  rw [tru_ok, e]
  rfl
theorem ne_q : neD (.tup [.tup [.int 1, .int 4, .int 0], .tup []]) g_TRUTH = some (.val (.bl true)) := by
  unfold neD
  rw [tru_ok]
  rfl
theorem ne_p {t : Tm} (h : t.dp ≤ 19) : neD (.tup [.tup [.int 1, .int 5, .int 0], .tup [t.d]]) g_TRUTH = some (.val (.bl true)) := by
  have e : okD (.tup [.tup [.int 1, .int 5, .int 0], .tup [t.d]]) = true := by
    obtain ⟨h1, h2, h3⟩ := tm_lay (.f t)
    unfold okD PySem.SeqAt.shaped
    have e1 : seqD (.tup [.tup [.int 1, .int 5, .int 0], .tup [t.d]]) = true := h1
    have e2 : PySem.PyData.canLay0 (toP (.tup [.tup [.int 1, .int 5, .int 0], .tup [t.d]])) = true := h2
    have e3 : PySem.PyData.depth (toP (.tup [.tup [.int 1, .int 5, .int 0], .tup [t.d]])) ≤ 2 * (t.dp + 1) + 2 := h3
    rw [e1, e2]
    simp only [Bool.true_and, decide_eq_true_eq]
    omega
  unfold neD
  rw [tru_ok, e]
  rfl
theorem puse (w : PySem.World) : ∀ (t : Tm) (b k : Nat) (l : List Us), t.ok b → t.dp ≤ 10 → l.Nodup → callI (T w) (k + t.dp + 2) 5 [.val t.d, usO l] = .ok (.val .non) [none, some (usO (t.us l))]
  | .v n, b, k, l, ok, hd, hl => by
    rw [callK]
    have ev := isv_i w k n
    show (runB (T w 5) _ _) = _
    simp [runB, mSeq, mIfS, mTst, mOp2, PL.m2, oV, oP, mCon, getP, setP, ownP, frzs, frz, ixX, orD, ixD, at0, at1, at2, at3, ixN_30, ixN_32, cmpD, mPut, putO, intD, addD, lenD, mOp1, intF, modC, divC, mSet, mRet, mTake, maskE, mSlot, mRd, mAnd, mOr, mNot, mTr, truD, mTup, mNil, mCons, mCallF, mCall, xNil, xIn, xIo, fillIn, backIn, mSkip, mDrop, mRetN, isi_i, isi_t, isi_b, lenOk, mLst, mApp, appO, mFor, mRng, aName, mIt, seqOf, eqX_int, eqX_bl, neD_int, T, m5, Tm.d, Tm.us, Tm.dp, usO, ev]
  | .c i, b, k, l, ok, hd, hl => by
    have ok : i < 2 := ok
    rw [callK]
    have e0 := cu_in ok l
    have e1 := cu_d ok
    have e2 := ne_c ok
    have ev := isv_t w k
    have hl2 : l.length ≤ 16777215 := by have := nd_len hl; omega
    by_cases hm : cu i ∈ l
    · simp [runB, mSeq, mIfS, mTst, mOp2, PL.m2, oV, oP, mCon, getP, setP, ownP, frzs, frz, ixX, orD, ixD, at0, at1, at2, at3, ixN_30, ixN_32, cmpD, mPut, putO, intD, addD, lenD, mOp1, intF, modC, divC, mSet, mRet, mTake, maskE, mSlot, mRd, mAnd, mOr, mNot, mTr, truD, mTup, mNil, mCons, mCallF, mCall, xNil, xIn, xIo, fillIn, backIn, mSkip, mDrop, mRetN, isi_i, isi_t, isi_b, lenOk, mLst, mApp, appO, mFor, mRng, aName, mIt, seqOf, eqX_int, eqX_bl, neD_int, T, m5, Tm.d, Tm.us, Tm.dp, usO, sy, frzs_us, frzs_us2, add, e0, hm, loop_nil, e2, ev]
    · simp [runB, mSeq, mIfS, mTst, mOp2, PL.m2, oV, oP, mCon, getP, setP, ownP, frzs, frz, ixX, orD, ixD, at0, at1, at2, at3, ixN_30, ixN_32, cmpD, mPut, putO, intD, addD, lenD, mOp1, intF, modC, divC, mSet, mRet, mTake, maskE, mSlot, mRd, mAnd, mOr, mNot, mTr, truD, mTup, mNil, mCons, mCallF, mCall, xNil, xIn, xIo, fillIn, backIn, mSkip, mDrop, mRetN, isi_i, isi_t, isi_b, lenOk, mLst, mApp, appO, mFor, mRng, aName, mIt, seqOf, eqX_int, eqX_bl, neD_int, T, m5, Tm.d, Tm.us, Tm.dp, usO, sy, frzs_us, frzs_us2, add, e0, e1, hm, loop_nil, hl2, e2, ev]
  | .f t, b, k, l, ok, hd, hl => by
    have ok : t.ok b := ok
    have hd : t.dp + 1 ≤ 10 := hd
    have hl2 : l.length ≤ 16777215 := by have := nd_len hl; omega
    have e0 := fn_in l
    have e2 := ne_f (t := t) (by omega)
    have ev := isv_t w (k + t.dp + 1)
    have ih := puse w t b k (add .fn l) ok (by omega) (add_nd hl)
    show callI (T w) (k + t.dp + 2 + 1) 5 _ = _
    rw [callK]
    have ed : Us.fn.d = .tup [.tup [.int 2, .int 2, .int 0], .int 1] := rfl
    by_cases hm : Us.fn ∈ l
    · simp only [add, if_pos hm, usO] at ih
      simp [runB, mSeq, mIfS, mTst, mOp2, PL.m2, oV, oP, mCon, getP, setP, ownP, frzs, frz, ixX, orD, ixD, at0, at1, at2, at3, ixN_30, ixN_32, cmpD, mPut, putO, intD, addD, lenD, mOp1, intF, modC, divC, mSet, mRet, mTake, maskE, mSlot, mRd, mAnd, mOr, mNot, mTr, truD, mTup, mNil, mCons, mCallF, mCall, xNil, xIn, xIo, fillIn, backIn, mSkip, mDrop, mRetN, isi_i, isi_t, isi_b, lenOk, mLst, mApp, appO, mFor, mRng, aName, mIt, seqOf, eqX_int, eqX_bl, neD_int, T, m5, b5_0, Tm.d, Tm.us, usO, sy, frzs_us, frzs_us2, add, e0, hm, loop_nil, loopF, ih, e2, ev]
    · simp only [add, if_neg hm, usO, List.map_append, List.map_cons, List.map_nil, Function.comp_apply, ed] at ih
      simp [runB, mSeq, mIfS, mTst, mOp2, PL.m2, oV, oP, mCon, getP, setP, ownP, frzs, frz, ixX, orD, ixD, at0, at1, at2, at3, ixN_30, ixN_32, cmpD, mPut, putO, intD, addD, lenD, mOp1, intF, modC, divC, mSet, mRet, mTake, maskE, mSlot, mRd, mAnd, mOr, mNot, mTr, truD, mTup, mNil, mCons, mCallF, mCall, xNil, xIn, xIo, fillIn, backIn, mSkip, mDrop, mRetN, isi_i, isi_t, isi_b, lenOk, mLst, mApp, appO, mFor, mRng, aName, mIt, seqOf, eqX_int, eqX_bl, neD_int, T, m5, b5_0, Tm.d, Tm.us, usO, sy, frzs_us, frzs_us2, add, e0, hm, loop_nil, loopF, hl2, ed, ih, e2, ev]
end K63
set_option Elab.async false
set_option linter.all false
set_option maxRecDepth 100000
set_option maxHeartbeats 4000000
namespace K63
open PL
def Fm.us : Fm → List Us → List Us
  | .q, l => add .q l
  | .p t, l => t.us (add .p l)
  | .eq s t, l => t.us (s.us l)
  | .no f, l => f.us l
  | .qu _ _ f, l => f.us l
  | .bi _ f g, l => g.us (f.us l)
theorem fus_nd : ∀ {f : Fm} {l : List Us}, l.Nodup → (f.us l).Nodup
  | .q, l, h => add_nd h
  | .p t, l, h => tus_nd (t := t) (add_nd h)
  | .eq s t, l, h => tus_nd (t := t) (tus_nd (t := s) h)
  | .no f, l, h => fus_nd (f := f) h
  | .qu _ _ f, l, h => fus_nd (f := f) h
  | .bi _ f g, l, h => fus_nd (f := g) (fus_nd (f := f) h)
theorem q_in (l : List Us) : inX true (.tup [.tup [.int 1, .int 4, .int 0], .int 0]) (.lst (l.map Us.d)) = some (.val (.bl (!decide (Us.q ∈ l)))) := by
  rw [← inX_us]; rfl
theorem p_in (l : List Us) : inX true (.tup [.tup [.int 1, .int 5, .int 0], .int 1]) (.lst (l.map Us.d)) = some (.val (.bl (!decide (Us.p ∈ l)))) := by
  rw [← inX_us]; rfl
theorem luseM (w : PySem.World) {t : Tm} {b m : Nat} {l : List Us} (ok : t.ok b) (h : t.dp + 1 ≤ m) (hd : t.dp ≤ 10) (hl : l.Nodup) : callI (T w) m 21 [.val t.d, usO l] = .ok (.val .non) [none, some (usO (t.us l))] := by
  have h1 := luse w t b (m - t.dp - 1) l ok (by have := nd_len hl; omega)
  rwa [show m - t.dp - 1 + t.dp + 1 = m by omega] at h1
theorem puseM (w : PySem.World) {t : Tm} {b m : Nat} {l : List Us} (ok : t.ok b) (h : t.dp + 2 ≤ m) (hd : t.dp ≤ 10) (hl : l.Nodup) : callI (T w) m 5 [.val t.d, usO l] = .ok (.val .non) [none, some (usO (t.us l))] := by
  have h1 := puse w t b (m - t.dp - 2) l ok hd hl
  rwa [show m - t.dp - 2 + t.dp + 2 = m by omega] at h1
theorem lq (w : PySem.World) (k : Nat) {l : List Us} (hl : l.Nodup) : callI (T w) (k + 1) 21 [.val (.tup [sy 1 4, .tup []]), usO l] = .ok (.val .non) [none, some (usO (add .q l))] := by
  rw [callK]
  have e0 := q_in l
  have hl2 : l.length ≤ 16777215 := by have := nd_len hl; omega
  have ed : Us.q.d = .tup [.tup [.int 1, .int 4, .int 0], .int 0] := rfl
  by_cases hm : Us.q ∈ l
  · simp [runB, mSeq, mIfS, mTst, mOp2, PL.m2, oV, oP, mCon, getP, setP, ownP, frzs, frz, ixX, orD, ixD, at0, at1, at2, at3, ixN_30, ixN_32, cmpD, mPut, putO, intD, addD, lenD, mOp1, intF, modC, divC, mSet, mRet, mTake, maskE, mSlot, mRd, mAnd, mOr, mNot, mTr, truD, mTup, mNil, mCons, mCallF, mCall, xNil, xIn, xIo, fillIn, backIn, mSkip, mDrop, mRetN, isi_i, isi_t, isi_b, lenOk, mLst, mApp, appO, mFor, mRng, aName, mIt, seqOf, eqX_int, eqX_bl, neD_int, T, m21, usO, sy, frzs_us, frzs_us2, add, e0, hm, loop_nil]
  · simp [runB, mSeq, mIfS, mTst, mOp2, PL.m2, oV, oP, mCon, getP, setP, ownP, frzs, frz, ixX, orD, ixD, at0, at1, at2, at3, ixN_30, ixN_32, cmpD, mPut, putO, intD, addD, lenD, mOp1, intF, modC, divC, mSet, mRet, mTake, maskE, mSlot, mRd, mAnd, mOr, mNot, mTr, truD, mTup, mNil, mCons, mCallF, mCall, xNil, xIn, xIo, fillIn, backIn, mSkip, mDrop, mRetN, isi_i, isi_t, isi_b, lenOk, mLst, mApp, appO, mFor, mRng, aName, mIt, seqOf, eqX_int, eqX_bl, neD_int, T, m21, usO, sy, frzs_us, frzs_us2, add, e0, ed, hm, loop_nil, hl2]
theorem pq (w : PySem.World) (k : Nat) {l : List Us} (hl : l.Nodup) : callI (T w) (k + 2) 5 [.val (.tup [sy 1 4, .tup []]), usO l] = .ok (.val .non) [none, some (usO (add .q l))] := by
  rw [callK]
  have e0 := q_in l
  have e2 := ne_q
  have ev := isv_t w k
  have hl2 : l.length ≤ 16777215 := by have := nd_len hl; omega
  have ed : Us.q.d = .tup [.tup [.int 1, .int 4, .int 0], .int 0] := rfl
  by_cases hm : Us.q ∈ l
  · simp [runB, mSeq, mIfS, mTst, mOp2, PL.m2, oV, oP, mCon, getP, setP, ownP, frzs, frz, ixX, orD, ixD, at0, at1, at2, at3, ixN_30, ixN_32, cmpD, mPut, putO, intD, addD, lenD, mOp1, intF, modC, divC, mSet, mRet, mTake, maskE, mSlot, mRd, mAnd, mOr, mNot, mTr, truD, mTup, mNil, mCons, mCallF, mCall, xNil, xIn, xIo, fillIn, backIn, mSkip, mDrop, mRetN, isi_i, isi_t, isi_b, lenOk, mLst, mApp, appO, mFor, mRng, aName, mIt, seqOf, eqX_int, eqX_bl, neD_int, T, m5, usO, sy, frzs_us, frzs_us2, add, e0, hm, loop_nil, e2, ev]
  · simp [runB, mSeq, mIfS, mTst, mOp2, PL.m2, oV, oP, mCon, getP, setP, ownP, frzs, frz, ixX, orD, ixD, at0, at1, at2, at3, ixN_30, ixN_32, cmpD, mPut, putO, intD, addD, lenD, mOp1, intF, modC, divC, mSet, mRet, mTake, maskE, mSlot, mRd, mAnd, mOr, mNot, mTr, truD, mTup, mNil, mCons, mCallF, mCall, xNil, xIn, xIo, fillIn, backIn, mSkip, mDrop, mRetN, isi_i, isi_t, isi_b, lenOk, mLst, mApp, appO, mFor, mRng, aName, mIt, seqOf, eqX_int, eqX_bl, neD_int, T, m5, usO, sy, frzs_us, frzs_us2, add, e0, ed, hm, loop_nil, hl2, e2, ev]
theorem lp (w : PySem.World) {t : Tm} {b m : Nat} {l : List Us} (ok : t.ok b) (h : t.dp + 1 ≤ m) (hd : t.dp ≤ 10) (hl : l.Nodup) : callI (T w) (m + 1) 21 [.val (.tup [sy 1 5, .tup [t.d]]), usO l] = .ok (.val .non) [none, some (usO (t.us (add .p l)))] := by
  have ih := luseM w (l := add .p l) ok h hd (add_nd hl)
  rw [callK]
  have e0 := p_in l
  have hl2 : l.length ≤ 16777215 := by have := nd_len hl; omega
  have ed : Us.p.d = .tup [.tup [.int 1, .int 5, .int 0], .int 1] := rfl
  by_cases hm : Us.p ∈ l
  · simp only [add, if_pos hm, usO] at ih
    simp [runB, mSeq, mIfS, mTst, mOp2, PL.m2, oV, oP, mCon, getP, setP, ownP, frzs, frz, ixX, orD, ixD, at0, at1, at2, at3, ixN_30, ixN_32, cmpD, mPut, putO, intD, addD, lenD, mOp1, intF, modC, divC, mSet, mRet, mTake, maskE, mSlot, mRd, mAnd, mOr, mNot, mTr, truD, mTup, mNil, mCons, mCallF, mCall, xNil, xIn, xIo, fillIn, backIn, mSkip, mDrop, mRetN, isi_i, isi_t, isi_b, lenOk, mLst, mApp, appO, mFor, mRng, aName, mIt, seqOf, eqX_int, eqX_bl, neD_int, T, m21, b21_0, usO, sy, frzs_us, frzs_us2, add, e0, hm, loopF, ih]
  · simp only [add, if_neg hm, usO, List.map_append, List.map_cons, List.map_nil, Function.comp_apply, ed] at ih
    simp [runB, mSeq, mIfS, mTst, mOp2, PL.m2, oV, oP, mCon, getP, setP, ownP, frzs, frz, ixX, orD, ixD, at0, at1, at2, at3, ixN_30, ixN_32, cmpD, mPut, putO, intD, addD, lenD, mOp1, intF, modC, divC, mSet, mRet, mTake, maskE, mSlot, mRd, mAnd, mOr, mNot, mTr, truD, mTup, mNil, mCons, mCallF, mCall, xNil, xIn, xIo, fillIn, backIn, mSkip, mDrop, mRetN, isi_i, isi_t, isi_b, lenOk, mLst, mApp, appO, mFor, mRng, aName, mIt, seqOf, eqX_int, eqX_bl, neD_int, T, m21, b21_0, usO, sy, frzs_us, frzs_us2, add, e0, hm, loopF, hl2, ed, ih]
theorem pp (w : PySem.World) {t : Tm} {b m : Nat} {l : List Us} (ok : t.ok b) (h : t.dp + 2 ≤ m) (hd : t.dp ≤ 10) (hl : l.Nodup) : callI (T w) (m + 1) 5 [.val (.tup [sy 1 5, .tup [t.d]]), usO l] = .ok (.val .non) [none, some (usO (t.us (add .p l)))] := by
  have ih := puseM w (l := add .p l) ok h hd (add_nd hl)
  rw [callK]
  have e0 := p_in l
  have e2 := ne_p (t := t) (by omega)
  have ev : callI (T w) m 0 [.val (.tup [.tup [.int 1, .int 5, .int 0], .tup [t.d]])] = .ok (.val (.bl false)) [none] := by
    obtain ⟨j, rfl⟩ : ∃ j, m = j + 1 := ⟨m - 1, by omega⟩
    exact isv_t w j _
  have hl2 : l.length ≤ 16777215 := by have := nd_len hl; omega
  have ed : Us.p.d = .tup [.tup [.int 1, .int 5, .int 0], .int 1] := rfl
  by_cases hm : Us.p ∈ l
  · simp only [add, if_pos hm, usO] at ih
    simp [runB, mSeq, mIfS, mTst, mOp2, PL.m2, oV, oP, mCon, getP, setP, ownP, frzs, frz, ixX, orD, ixD, at0, at1, at2, at3, ixN_30, ixN_32, cmpD, mPut, putO, intD, addD, lenD, mOp1, intF, modC, divC, mSet, mRet, mTake, maskE, mSlot, mRd, mAnd, mOr, mNot, mTr, truD, mTup, mNil, mCons, mCallF, mCall, xNil, xIn, xIo, fillIn, backIn, mSkip, mDrop, mRetN, isi_i, isi_t, isi_b, lenOk, mLst, mApp, appO, mFor, mRng, aName, mIt, seqOf, eqX_int, eqX_bl, neD_int, T, m5, b5_0, usO, sy, frzs_us, frzs_us2, add, e0, hm, loopF, ih, e2, ev]
  · simp only [add, if_neg hm, usO, List.map_append, List.map_cons, List.map_nil, Function.comp_apply, ed] at ih
    simp [runB, mSeq, mIfS, mTst, mOp2, PL.m2, oV, oP, mCon, getP, setP, ownP, frzs, frz, ixX, orD, ixD, at0, at1, at2, at3, ixN_30, ixN_32, cmpD, mPut, putO, intD, addD, lenD, mOp1, intF, modC, divC, mSet, mRet, mTake, maskE, mSlot, mRd, mAnd, mOr, mNot, mTr, truD, mTup, mNil, mCons, mCallF, mCall, xNil, xIn, xIo, fillIn, backIn, mSkip, mDrop, mRetN, isi_i, isi_t, isi_b, lenOk, mLst, mApp, appO, mFor, mRng, aName, mIt, seqOf, eqX_int, eqX_bl, neD_int, T, m5, b5_0, usO, sy, frzs_us, frzs_us2, add, e0, hm, loopF, hl2, ed, ih, e2, ev]
theorem sl_2 {a b : D} : slD (.tup [a, b]) (some 1) none = some (.val (.tup [b])) := rfl
theorem sl_3 {a b c : D} : slD (.tup [a, b, c]) (some 1) none = some (.val (.tup [b, c])) := rfl
theorem luf (w : PySem.World) : ∀ (f : Fm) (b m : Nat) (l : List Us), f.ok b → f.dp + 4 ≤ m → l.Nodup → callI (T w) m 22 [.val f.d, usO l] = .ok (.val .non) [none, some (usO (f.us l))]
  | f, b, 0, l, ok, hm, hl => by omega
  | .q, b, m + 1, l, ok, hm, hl => by
    obtain ⟨j, rfl⟩ : ∃ j, m = j + 1 := ⟨m - 1, by omega⟩
    have e := lq w j hl
    rw [callK]
    simp [runB, mSeq, mIfS, mTst, mOp2, PL.m2, oV, oP, mCon, getP, setP, ownP, frzs, frz, ixX, orD, ixD, at0, at1, at2, at3, ixN_30, ixN_32, cmpD, mPut, putO, intD, addD, lenD, mOp1, intF, modC, divC, mSet, mRet, mTake, maskE, mSlot, mRd, mAnd, mOr, mNot, mTr, truD, mTup, mNil, mCons, mCallF, mCall, xNil, xIn, xIo, fillIn, backIn, mSkip, mDrop, mRetN, isi_i, isi_t, isi_b, lenOk, mLst, mApp, appO, mFor, mRng, aName, mIt, seqOf, eqX_int, eqX_bl, neD_int, q_atom_atom, q_atom_equal, q_atom_not, q_atom_and, q_atom_or, q_atom_implies, q_atom_iff, q_atom_all, q_atom_some, q_equal_atom, q_equal_equal, q_equal_not, q_equal_and, q_equal_or, q_equal_implies, q_equal_iff, q_equal_all, q_equal_some, q_not_atom, q_not_equal, q_not_not, q_not_and, q_not_or, q_not_implies, q_not_iff, q_not_all, q_not_some, q_and_atom, q_and_equal, q_and_not, q_and_and, q_and_or, q_and_implies, q_and_iff, q_and_all, q_and_some, q_or_atom, q_or_equal, q_or_not, q_or_and, q_or_or, q_or_implies, q_or_iff, q_or_all, q_or_some, q_implies_atom, q_implies_equal, q_implies_not, q_implies_and, q_implies_or, q_implies_implies, q_implies_iff, q_implies_all, q_implies_some, q_iff_atom, q_iff_equal, q_iff_not, q_iff_and, q_iff_or, q_iff_implies, q_iff_iff, q_iff_all, q_iff_some, q_all_atom, q_all_equal, q_all_not, q_all_and, q_all_or, q_all_implies, q_all_iff, q_all_all, q_all_some, q_some_atom, q_some_equal, q_some_not, q_some_and, q_some_or, q_some_implies, q_some_iff, q_some_all, q_some_some, T, m22, Fm.d, Fm.us, e]
  | .p t, b, m + 1, l, ok, hm, hl => by
    obtain ⟨j, rfl⟩ : ∃ j, m = j + 1 := ⟨m - 1, by omega⟩
    have hm : 4 ≤ j + 1 + 1 := by have : (Fm.p t).dp = 0 := rfl; omega
    have e := lp w (t := t) (m := j) (l := l) ok.1 (by have := ok.2; omega) (by have := ok.2; omega) hl
    rw [callK]
    simp [runB, mSeq, mIfS, mTst, mOp2, PL.m2, oV, oP, mCon, getP, setP, ownP, frzs, frz, ixX, orD, ixD, at0, at1, at2, at3, ixN_30, ixN_32, cmpD, mPut, putO, intD, addD, lenD, mOp1, intF, modC, divC, mSet, mRet, mTake, maskE, mSlot, mRd, mAnd, mOr, mNot, mTr, truD, mTup, mNil, mCons, mCallF, mCall, xNil, xIn, xIo, fillIn, backIn, mSkip, mDrop, mRetN, isi_i, isi_t, isi_b, lenOk, mLst, mApp, appO, mFor, mRng, aName, mIt, seqOf, eqX_int, eqX_bl, neD_int, q_atom_atom, q_atom_equal, q_atom_not, q_atom_and, q_atom_or, q_atom_implies, q_atom_iff, q_atom_all, q_atom_some, q_equal_atom, q_equal_equal, q_equal_not, q_equal_and, q_equal_or, q_equal_implies, q_equal_iff, q_equal_all, q_equal_some, q_not_atom, q_not_equal, q_not_not, q_not_and, q_not_or, q_not_implies, q_not_iff, q_not_all, q_not_some, q_and_atom, q_and_equal, q_and_not, q_and_and, q_and_or, q_and_implies, q_and_iff, q_and_all, q_and_some, q_or_atom, q_or_equal, q_or_not, q_or_and, q_or_or, q_or_implies, q_or_iff, q_or_all, q_or_some, q_implies_atom, q_implies_equal, q_implies_not, q_implies_and, q_implies_or, q_implies_implies, q_implies_iff, q_implies_all, q_implies_some, q_iff_atom, q_iff_equal, q_iff_not, q_iff_and, q_iff_or, q_iff_implies, q_iff_iff, q_iff_all, q_iff_some, q_all_atom, q_all_equal, q_all_not, q_all_and, q_all_or, q_all_implies, q_all_iff, q_all_all, q_all_some, q_some_atom, q_some_equal, q_some_not, q_some_and, q_some_or, q_some_implies, q_some_iff, q_some_all, q_some_some, T, m22, Fm.d, Fm.us, e]
  | .eq s t, b, m + 1, l, ok, hm, hl => by
    obtain ⟨o1, o2, o3, o4⟩ := ok
    have hm : 4 ≤ m + 1 := by have : (Fm.eq s t).dp = 0 := rfl; omega
    have e1 := luseM w (t := s) (m := m) (l := l) o1 (by omega) (by omega) hl
    have e2 := luseM w (t := t) (m := m) (l := s.us l) o2 (by omega) (by omega) (tus_nd hl)
    rw [callK]
    simp [runB, mSeq, mIfS, mTst, mOp2, PL.m2, oV, oP, mCon, getP, setP, ownP, frzs, frz, ixX, orD, ixD, at0, at1, at2, at3, ixN_30, ixN_32, cmpD, mPut, putO, intD, addD, lenD, mOp1, intF, modC, divC, mSet, mRet, mTake, maskE, mSlot, mRd, mAnd, mOr, mNot, mTr, truD, mTup, mNil, mCons, mCallF, mCall, xNil, xIn, xIo, fillIn, backIn, mSkip, mDrop, mRetN, isi_i, isi_t, isi_b, lenOk, mLst, mApp, appO, mFor, mRng, aName, mIt, seqOf, eqX_int, eqX_bl, neD_int, q_atom_atom, q_atom_equal, q_atom_not, q_atom_and, q_atom_or, q_atom_implies, q_atom_iff, q_atom_all, q_atom_some, q_equal_atom, q_equal_equal, q_equal_not, q_equal_and, q_equal_or, q_equal_implies, q_equal_iff, q_equal_all, q_equal_some, q_not_atom, q_not_equal, q_not_not, q_not_and, q_not_or, q_not_implies, q_not_iff, q_not_all, q_not_some, q_and_atom, q_and_equal, q_and_not, q_and_and, q_and_or, q_and_implies, q_and_iff, q_and_all, q_and_some, q_or_atom, q_or_equal, q_or_not, q_or_and, q_or_or, q_or_implies, q_or_iff, q_or_all, q_or_some, q_implies_atom, q_implies_equal, q_implies_not, q_implies_and, q_implies_or, q_implies_implies, q_implies_iff, q_implies_all, q_implies_some, q_iff_atom, q_iff_equal, q_iff_not, q_iff_and, q_iff_or, q_iff_implies, q_iff_iff, q_iff_all, q_iff_some, q_all_atom, q_all_equal, q_all_not, q_all_and, q_all_or, q_all_implies, q_all_iff, q_all_all, q_all_some, q_some_atom, q_some_equal, q_some_not, q_some_and, q_some_or, q_some_implies, q_some_iff, q_some_all, q_some_some, T, m22, Fm.d, Fm.us, e1, e2]
  | .no f, b, m + 1, l, ok, hm, hl => by
    have hm : f.dp + 1 + 4 ≤ m + 1 := hm
    have e := luf w f b m l ok (by omega) hl
    rw [callK]
    simp [runB, mSeq, mIfS, mTst, mOp2, PL.m2, oV, oP, mCon, getP, setP, ownP, frzs, frz, ixX, orD, ixD, at0, at1, at2, at3, ixN_30, ixN_32, cmpD, mPut, putO, intD, addD, lenD, mOp1, intF, modC, divC, mSet, mRet, mTake, maskE, mSlot, mRd, mAnd, mOr, mNot, mTr, truD, mTup, mNil, mCons, mCallF, mCall, xNil, xIn, xIo, fillIn, backIn, mSkip, mDrop, mRetN, isi_i, isi_t, isi_b, lenOk, mLst, mApp, appO, mFor, mRng, aName, mIt, seqOf, eqX_int, eqX_bl, neD_int, q_atom_atom, q_atom_equal, q_atom_not, q_atom_and, q_atom_or, q_atom_implies, q_atom_iff, q_atom_all, q_atom_some, q_equal_atom, q_equal_equal, q_equal_not, q_equal_and, q_equal_or, q_equal_implies, q_equal_iff, q_equal_all, q_equal_some, q_not_atom, q_not_equal, q_not_not, q_not_and, q_not_or, q_not_implies, q_not_iff, q_not_all, q_not_some, q_and_atom, q_and_equal, q_and_not, q_and_and, q_and_or, q_and_implies, q_and_iff, q_and_all, q_and_some, q_or_atom, q_or_equal, q_or_not, q_or_and, q_or_or, q_or_implies, q_or_iff, q_or_all, q_or_some, q_implies_atom, q_implies_equal, q_implies_not, q_implies_and, q_implies_or, q_implies_implies, q_implies_iff, q_implies_all, q_implies_some, q_iff_atom, q_iff_equal, q_iff_not, q_iff_and, q_iff_or, q_iff_implies, q_iff_iff, q_iff_all, q_iff_some, q_all_atom, q_all_equal, q_all_not, q_all_and, q_all_or, q_all_implies, q_all_iff, q_all_all, q_all_some, q_some_atom, q_some_equal, q_some_not, q_some_and, q_some_or, q_some_implies, q_some_iff, q_some_all, q_some_some, T, m22, b22_0, Fm.d, Fm.us, e, mSl, pSome, pNone, sl_2, loopF]
  | .qu s n f, b, m + 1, l, ok, hm, hl => by
    have hm : f.dp + 1 + 4 ≤ m + 1 := hm
    have e := luf w f (b + 1) m l ok.2 (by omega) hl
    rw [callK]
    cases s
    · simp [runB, mSeq, mIfS, mTst, mOp2, PL.m2, oV, oP, mCon, getP, setP, ownP, frzs, frz, ixX, orD, ixD, at0, at1, at2, at3, ixN_30, ixN_32, cmpD, mPut, putO, intD, addD, lenD, mOp1, intF, modC, divC, mSet, mRet, mTake, maskE, mSlot, mRd, mAnd, mOr, mNot, mTr, truD, mTup, mNil, mCons, mCallF, mCall, xNil, xIn, xIo, fillIn, backIn, mSkip, mDrop, mRetN, isi_i, isi_t, isi_b, lenOk, mLst, mApp, appO, mFor, mRng, aName, mIt, seqOf, eqX_int, eqX_bl, neD_int, q_atom_atom, q_atom_equal, q_atom_not, q_atom_and, q_atom_or, q_atom_implies, q_atom_iff, q_atom_all, q_atom_some, q_equal_atom, q_equal_equal, q_equal_not, q_equal_and, q_equal_or, q_equal_implies, q_equal_iff, q_equal_all, q_equal_some, q_not_atom, q_not_equal, q_not_not, q_not_and, q_not_or, q_not_implies, q_not_iff, q_not_all, q_not_some, q_and_atom, q_and_equal, q_and_not, q_and_and, q_and_or, q_and_implies, q_and_iff, q_and_all, q_and_some, q_or_atom, q_or_equal, q_or_not, q_or_and, q_or_or, q_or_implies, q_or_iff, q_or_all, q_or_some, q_implies_atom, q_implies_equal, q_implies_not, q_implies_and, q_implies_or, q_implies_implies, q_implies_iff, q_implies_all, q_implies_some, q_iff_atom, q_iff_equal, q_iff_not, q_iff_and, q_iff_or, q_iff_implies, q_iff_iff, q_iff_all, q_iff_some, q_all_atom, q_all_equal, q_all_not, q_all_and, q_all_or, q_all_implies, q_all_iff, q_all_all, q_all_some, q_some_atom, q_some_equal, q_some_not, q_some_and, q_some_or, q_some_implies, q_some_iff, q_some_all, q_some_some, T, m22, b22_0, Fm.d, Fm.us, e]
    · simp [runB, mSeq, mIfS, mTst, mOp2, PL.m2, oV, oP, mCon, getP, setP, ownP, frzs, frz, ixX, orD, ixD, at0, at1, at2, at3, ixN_30, ixN_32, cmpD, mPut, putO, intD, addD, lenD, mOp1, intF, modC, divC, mSet, mRet, mTake, maskE, mSlot, mRd, mAnd, mOr, mNot, mTr, truD, mTup, mNil, mCons, mCallF, mCall, xNil, xIn, xIo, fillIn, backIn, mSkip, mDrop, mRetN, isi_i, isi_t, isi_b, lenOk, mLst, mApp, appO, mFor, mRng, aName, mIt, seqOf, eqX_int, eqX_bl, neD_int, q_atom_atom, q_atom_equal, q_atom_not, q_atom_and, q_atom_or, q_atom_implies, q_atom_iff, q_atom_all, q_atom_some, q_equal_atom, q_equal_equal, q_equal_not, q_equal_and, q_equal_or, q_equal_implies, q_equal_iff, q_equal_all, q_equal_some, q_not_atom, q_not_equal, q_not_not, q_not_and, q_not_or, q_not_implies, q_not_iff, q_not_all, q_not_some, q_and_atom, q_and_equal, q_and_not, q_and_and, q_and_or, q_and_implies, q_and_iff, q_and_all, q_and_some, q_or_atom, q_or_equal, q_or_not, q_or_and, q_or_or, q_or_implies, q_or_iff, q_or_all, q_or_some, q_implies_atom, q_implies_equal, q_implies_not, q_implies_and, q_implies_or, q_implies_implies, q_implies_iff, q_implies_all, q_implies_some, q_iff_atom, q_iff_equal, q_iff_not, q_iff_and, q_iff_or, q_iff_implies, q_iff_iff, q_iff_all, q_iff_some, q_all_atom, q_all_equal, q_all_not, q_all_and, q_all_or, q_all_implies, q_all_iff, q_all_all, q_all_some, q_some_atom, q_some_equal, q_some_not, q_some_and, q_some_or, q_some_implies, q_some_iff, q_some_all, q_some_some, T, m22, b22_0, Fm.d, Fm.us, e]
  | .bi o f g, b, m + 1, l, ok, hm, hl => by
    have hm : max f.dp g.dp + 1 + 4 ≤ m + 1 := hm
    have e := luf w f b m l ok.1 (by omega) hl
    have e2 := luf w g b m (f.us l) ok.2 (by omega) (fus_nd hl)
    rw [callK]
    cases o
    all_goals simp [runB, mSeq, mIfS, mTst, mOp2, PL.m2, oV, oP, mCon, getP, setP, ownP, frzs, frz, ixX, orD, ixD, at0, at1, at2, at3, ixN_30, ixN_32, cmpD, mPut, putO, intD, addD, lenD, mOp1, intF, modC, divC, mSet, mRet, mTake, maskE, mSlot, mRd, mAnd, mOr, mNot, mTr, truD, mTup, mNil, mCons, mCallF, mCall, xNil, xIn, xIo, fillIn, backIn, mSkip, mDrop, mRetN, isi_i, isi_t, isi_b, lenOk, mLst, mApp, appO, mFor, mRng, aName, mIt, seqOf, eqX_int, eqX_bl, neD_int, q_atom_atom, q_atom_equal, q_atom_not, q_atom_and, q_atom_or, q_atom_implies, q_atom_iff, q_atom_all, q_atom_some, q_equal_atom, q_equal_equal, q_equal_not, q_equal_and, q_equal_or, q_equal_implies, q_equal_iff, q_equal_all, q_equal_some, q_not_atom, q_not_equal, q_not_not, q_not_and, q_not_or, q_not_implies, q_not_iff, q_not_all, q_not_some, q_and_atom, q_and_equal, q_and_not, q_and_and, q_and_or, q_and_implies, q_and_iff, q_and_all, q_and_some, q_or_atom, q_or_equal, q_or_not, q_or_and, q_or_or, q_or_implies, q_or_iff, q_or_all, q_or_some, q_implies_atom, q_implies_equal, q_implies_not, q_implies_and, q_implies_or, q_implies_implies, q_implies_iff, q_implies_all, q_implies_some, q_iff_atom, q_iff_equal, q_iff_not, q_iff_and, q_iff_or, q_iff_implies, q_iff_iff, q_iff_all, q_iff_some, q_all_atom, q_all_equal, q_all_not, q_all_and, q_all_or, q_all_implies, q_all_iff, q_all_all, q_all_some, q_some_atom, q_some_equal, q_some_not, q_some_and, q_some_or, q_some_implies, q_some_iff, q_some_all, q_some_some, T, m22, b22_0, Fm.d, Fm.us, Bo.s, e, e2, mSl, pSome, pNone, sl_3, loopF]
end K63
set_option Elab.async false
set_option linter.all false
set_option maxRecDepth 100000
set_option maxHeartbeats 4000000
namespace K63
open PL
theorem jn_ok : okD g_JOINTS = true := by decide +kernel
theorem jn {x : PySem.Str} {r : Bool} (h : okD (.str x) = true) (hr : ([D.str "and", D.str "or", D.str "implies", D.str "iff"].any fun z => PySem.PyData.eqv (toP z) (toP (.str x))) = r) : inX false (.str x) g_JOINTS = some (.val (.bl r)) := by
  have e : okD (.tup [(.str "and"), (.str "or"), (.str "implies"), (.str "iff")]) = true := jn_ok
  unfold inX orD inL inT g_JOINTS
  dsimp only
  rw [h, e]
  simp only [Bool.and_self, if_true, Bool.false_eq_true, if_false]
  rw [hr]
theorem jn_not : inX false (.str "not") g_JOINTS = some (.val (.bl false)) := jn (by decide +kernel) (by decide +kernel)
theorem jn_all : inX false (.str "all") g_JOINTS = some (.val (.bl false)) := jn (by decide +kernel) (by decide +kernel)
theorem jn_some : inX false (.str "some") g_JOINTS = some (.val (.bl false)) := jn (by decide +kernel) (by decide +kernel)
theorem jn_a : inX false (.str "and") g_JOINTS = some (.val (.bl true)) := jn (by decide +kernel) (by decide +kernel)
theorem jn_o : inX false (.str "or") g_JOINTS = some (.val (.bl true)) := jn (by decide +kernel) (by decide +kernel)
theorem jn_i : inX false (.str "implies") g_JOINTS = some (.val (.bl true)) := jn (by decide +kernel) (by decide +kernel)
theorem jn_f : inX false (.str "iff") g_JOINTS = some (.val (.bl true)) := jn (by decide +kernel) (by decide +kernel)
theorem puf (w : PySem.World) : ∀ (f : Fm) (b m : Nat) (l : List Us), f.ok b → f.dp + 5 ≤ m → l.Nodup → callI (T w) m 6 [.val f.d, usO l] = .ok (.val .non) [none, some (usO (f.us l))]
  | f, b, 0, l, ok, hm, hl => by omega
  | .q, b, m + 1, l, ok, hm, hl => by
    obtain ⟨j, rfl⟩ : ∃ j, m = j + 2 := ⟨m - 2, by omega⟩
    have e := pq w j hl
    rw [callK]
    simp [runB, mSeq, mIfS, mTst, mOp2, PL.m2, oV, oP, mCon, getP, setP, ownP, frzs, frz, ixX, orD, ixD, at0, at1, at2, at3, ixN_30, ixN_32, cmpD, mPut, putO, intD, addD, lenD, mOp1, intF, modC, divC, mSet, mRet, mTake, maskE, mSlot, mRd, mAnd, mOr, mNot, mTr, truD, mTup, mNil, mCons, mCallF, mCall, xNil, xIn, xIo, fillIn, backIn, mSkip, mDrop, mRetN, isi_i, isi_t, isi_b, lenOk, mLst, mApp, appO, mFor, mRng, aName, mIt, seqOf, eqX_int, eqX_bl, neD_int, q_atom_atom, q_atom_equal, q_atom_not, q_atom_and, q_atom_or, q_atom_implies, q_atom_iff, q_atom_all, q_atom_some, q_equal_atom, q_equal_equal, q_equal_not, q_equal_and, q_equal_or, q_equal_implies, q_equal_iff, q_equal_all, q_equal_some, q_not_atom, q_not_equal, q_not_not, q_not_and, q_not_or, q_not_implies, q_not_iff, q_not_all, q_not_some, q_and_atom, q_and_equal, q_and_not, q_and_and, q_and_or, q_and_implies, q_and_iff, q_and_all, q_and_some, q_or_atom, q_or_equal, q_or_not, q_or_and, q_or_or, q_or_implies, q_or_iff, q_or_all, q_or_some, q_implies_atom, q_implies_equal, q_implies_not, q_implies_and, q_implies_or, q_implies_implies, q_implies_iff, q_implies_all, q_implies_some, q_iff_atom, q_iff_equal, q_iff_not, q_iff_and, q_iff_or, q_iff_implies, q_iff_iff, q_iff_all, q_iff_some, q_all_atom, q_all_equal, q_all_not, q_all_and, q_all_or, q_all_implies, q_all_iff, q_all_all, q_all_some, q_some_atom, q_some_equal, q_some_not, q_some_and, q_some_or, q_some_implies, q_some_iff, q_some_all, q_some_some, T, m6, b6_0, Fm.d, Fm.us, e, mSl, pSome, pNone, sl_2, loopF]
  | .p t, b, m + 1, l, ok, hm, hl => by
    obtain ⟨j, rfl⟩ : ∃ j, m = j + 1 := ⟨m - 1, by omega⟩
    have hm : 5 ≤ j + 1 + 1 := by have : (Fm.p t).dp = 0 := rfl; omega
    have e := pp w (t := t) (m := j) (l := l) ok.1 (by have := ok.2; omega) (by have := ok.2; omega) hl
    rw [callK]
    simp [runB, mSeq, mIfS, mTst, mOp2, PL.m2, oV, oP, mCon, getP, setP, ownP, frzs, frz, ixX, orD, ixD, at0, at1, at2, at3, ixN_30, ixN_32, cmpD, mPut, putO, intD, addD, lenD, mOp1, intF, modC, divC, mSet, mRet, mTake, maskE, mSlot, mRd, mAnd, mOr, mNot, mTr, truD, mTup, mNil, mCons, mCallF, mCall, xNil, xIn, xIo, fillIn, backIn, mSkip, mDrop, mRetN, isi_i, isi_t, isi_b, lenOk, mLst, mApp, appO, mFor, mRng, aName, mIt, seqOf, eqX_int, eqX_bl, neD_int, q_atom_atom, q_atom_equal, q_atom_not, q_atom_and, q_atom_or, q_atom_implies, q_atom_iff, q_atom_all, q_atom_some, q_equal_atom, q_equal_equal, q_equal_not, q_equal_and, q_equal_or, q_equal_implies, q_equal_iff, q_equal_all, q_equal_some, q_not_atom, q_not_equal, q_not_not, q_not_and, q_not_or, q_not_implies, q_not_iff, q_not_all, q_not_some, q_and_atom, q_and_equal, q_and_not, q_and_and, q_and_or, q_and_implies, q_and_iff, q_and_all, q_and_some, q_or_atom, q_or_equal, q_or_not, q_or_and, q_or_or, q_or_implies, q_or_iff, q_or_all, q_or_some, q_implies_atom, q_implies_equal, q_implies_not, q_implies_and, q_implies_or, q_implies_implies, q_implies_iff, q_implies_all, q_implies_some, q_iff_atom, q_iff_equal, q_iff_not, q_iff_and, q_iff_or, q_iff_implies, q_iff_iff, q_iff_all, q_iff_some, q_all_atom, q_all_equal, q_all_not, q_all_and, q_all_or, q_all_implies, q_all_iff, q_all_all, q_all_some, q_some_atom, q_some_equal, q_some_not, q_some_and, q_some_or, q_some_implies, q_some_iff, q_some_all, q_some_some, T, m6, b6_0, Fm.d, Fm.us, e, mSl, pSome, pNone, sl_2, loopF]
  | .eq s t, b, m + 1, l, ok, hm, hl => by
    obtain ⟨o1, o2, o3, o4⟩ := ok
    have hm : 5 ≤ m + 1 := by have : (Fm.eq s t).dp = 0 := rfl; omega
    have e1 := puseM w (t := s) (m := m) (l := l) o1 (by omega) (by omega) hl
    have e2 := puseM w (t := t) (m := m) (l := s.us l) o2 (by omega) (by omega) (tus_nd hl)
    rw [callK]
    simp [runB, mSeq, mIfS, mTst, mOp2, PL.m2, oV, oP, mCon, getP, setP, ownP, frzs, frz, ixX, orD, ixD, at0, at1, at2, at3, ixN_30, ixN_32, cmpD, mPut, putO, intD, addD, lenD, mOp1, intF, modC, divC, mSet, mRet, mTake, maskE, mSlot, mRd, mAnd, mOr, mNot, mTr, truD, mTup, mNil, mCons, mCallF, mCall, xNil, xIn, xIo, fillIn, backIn, mSkip, mDrop, mRetN, isi_i, isi_t, isi_b, lenOk, mLst, mApp, appO, mFor, mRng, aName, mIt, seqOf, eqX_int, eqX_bl, neD_int, q_atom_atom, q_atom_equal, q_atom_not, q_atom_and, q_atom_or, q_atom_implies, q_atom_iff, q_atom_all, q_atom_some, q_equal_atom, q_equal_equal, q_equal_not, q_equal_and, q_equal_or, q_equal_implies, q_equal_iff, q_equal_all, q_equal_some, q_not_atom, q_not_equal, q_not_not, q_not_and, q_not_or, q_not_implies, q_not_iff, q_not_all, q_not_some, q_and_atom, q_and_equal, q_and_not, q_and_and, q_and_or, q_and_implies, q_and_iff, q_and_all, q_and_some, q_or_atom, q_or_equal, q_or_not, q_or_and, q_or_or, q_or_implies, q_or_iff, q_or_all, q_or_some, q_implies_atom, q_implies_equal, q_implies_not, q_implies_and, q_implies_or, q_implies_implies, q_implies_iff, q_implies_all, q_implies_some, q_iff_atom, q_iff_equal, q_iff_not, q_iff_and, q_iff_or, q_iff_implies, q_iff_iff, q_iff_all, q_iff_some, q_all_atom, q_all_equal, q_all_not, q_all_and, q_all_or, q_all_implies, q_all_iff, q_all_all, q_all_some, q_some_atom, q_some_equal, q_some_not, q_some_and, q_some_or, q_some_implies, q_some_iff, q_some_all, q_some_some, T, m6, b6_0, Fm.d, Fm.us, e1, e2, mSl, pSome, pNone, sl_3, loopF]
  | .no f, b, m + 1, l, ok, hm, hl => by
    have hm : f.dp + 1 + 5 ≤ m + 1 := hm
    have e := puf w f b m l ok (by omega) hl
    rw [callK]
    simp [runB, mSeq, mIfS, mTst, mOp2, PL.m2, oV, oP, mCon, getP, setP, ownP, frzs, frz, ixX, orD, ixD, at0, at1, at2, at3, ixN_30, ixN_32, cmpD, mPut, putO, intD, addD, lenD, mOp1, intF, modC, divC, mSet, mRet, mTake, maskE, mSlot, mRd, mAnd, mOr, mNot, mTr, truD, mTup, mNil, mCons, mCallF, mCall, xNil, xIn, xIo, fillIn, backIn, mSkip, mDrop, mRetN, isi_i, isi_t, isi_b, lenOk, mLst, mApp, appO, mFor, mRng, aName, mIt, seqOf, eqX_int, eqX_bl, neD_int, q_atom_atom, q_atom_equal, q_atom_not, q_atom_and, q_atom_or, q_atom_implies, q_atom_iff, q_atom_all, q_atom_some, q_equal_atom, q_equal_equal, q_equal_not, q_equal_and, q_equal_or, q_equal_implies, q_equal_iff, q_equal_all, q_equal_some, q_not_atom, q_not_equal, q_not_not, q_not_and, q_not_or, q_not_implies, q_not_iff, q_not_all, q_not_some, q_and_atom, q_and_equal, q_and_not, q_and_and, q_and_or, q_and_implies, q_and_iff, q_and_all, q_and_some, q_or_atom, q_or_equal, q_or_not, q_or_and, q_or_or, q_or_implies, q_or_iff, q_or_all, q_or_some, q_implies_atom, q_implies_equal, q_implies_not, q_implies_and, q_implies_or, q_implies_implies, q_implies_iff, q_implies_all, q_implies_some, q_iff_atom, q_iff_equal, q_iff_not, q_iff_and, q_iff_or, q_iff_implies, q_iff_iff, q_iff_all, q_iff_some, q_all_atom, q_all_equal, q_all_not, q_all_and, q_all_or, q_all_implies, q_all_iff, q_all_all, q_all_some, q_some_atom, q_some_equal, q_some_not, q_some_and, q_some_or, q_some_implies, q_some_iff, q_some_all, q_some_some, T, m6, Fm.d, Fm.us, e, jn_not]
  | .qu s n f, b, m + 1, l, ok, hm, hl => by
    have hm : f.dp + 1 + 5 ≤ m + 1 := hm
    have e := puf w f (b + 1) m l ok.2 (by omega) hl
    rw [callK]
    cases s
    · simp [runB, mSeq, mIfS, mTst, mOp2, PL.m2, oV, oP, mCon, getP, setP, ownP, frzs, frz, ixX, orD, ixD, at0, at1, at2, at3, ixN_30, ixN_32, cmpD, mPut, putO, intD, addD, lenD, mOp1, intF, modC, divC, mSet, mRet, mTake, maskE, mSlot, mRd, mAnd, mOr, mNot, mTr, truD, mTup, mNil, mCons, mCallF, mCall, xNil, xIn, xIo, fillIn, backIn, mSkip, mDrop, mRetN, isi_i, isi_t, isi_b, lenOk, mLst, mApp, appO, mFor, mRng, aName, mIt, seqOf, eqX_int, eqX_bl, neD_int, q_atom_atom, q_atom_equal, q_atom_not, q_atom_and, q_atom_or, q_atom_implies, q_atom_iff, q_atom_all, q_atom_some, q_equal_atom, q_equal_equal, q_equal_not, q_equal_and, q_equal_or, q_equal_implies, q_equal_iff, q_equal_all, q_equal_some, q_not_atom, q_not_equal, q_not_not, q_not_and, q_not_or, q_not_implies, q_not_iff, q_not_all, q_not_some, q_and_atom, q_and_equal, q_and_not, q_and_and, q_and_or, q_and_implies, q_and_iff, q_and_all, q_and_some, q_or_atom, q_or_equal, q_or_not, q_or_and, q_or_or, q_or_implies, q_or_iff, q_or_all, q_or_some, q_implies_atom, q_implies_equal, q_implies_not, q_implies_and, q_implies_or, q_implies_implies, q_implies_iff, q_implies_all, q_implies_some, q_iff_atom, q_iff_equal, q_iff_not, q_iff_and, q_iff_or, q_iff_implies, q_iff_iff, q_iff_all, q_iff_some, q_all_atom, q_all_equal, q_all_not, q_all_and, q_all_or, q_all_implies, q_all_iff, q_all_all, q_all_some, q_some_atom, q_some_equal, q_some_not, q_some_and, q_some_or, q_some_implies, q_some_iff, q_some_all, q_some_some, T, m6, Fm.d, Fm.us, e, jn_all]
    · simp [runB, mSeq, mIfS, mTst, mOp2, PL.m2, oV, oP, mCon, getP, setP, ownP, frzs, frz, ixX, orD, ixD, at0, at1, at2, at3, ixN_30, ixN_32, cmpD, mPut, putO, intD, addD, lenD, mOp1, intF, modC, divC, mSet, mRet, mTake, maskE, mSlot, mRd, mAnd, mOr, mNot, mTr, truD, mTup, mNil, mCons, mCallF, mCall, xNil, xIn, xIo, fillIn, backIn, mSkip, mDrop, mRetN, isi_i, isi_t, isi_b, lenOk, mLst, mApp, appO, mFor, mRng, aName, mIt, seqOf, eqX_int, eqX_bl, neD_int, q_atom_atom, q_atom_equal, q_atom_not, q_atom_and, q_atom_or, q_atom_implies, q_atom_iff, q_atom_all, q_atom_some, q_equal_atom, q_equal_equal, q_equal_not, q_equal_and, q_equal_or, q_equal_implies, q_equal_iff, q_equal_all, q_equal_some, q_not_atom, q_not_equal, q_not_not, q_not_and, q_not_or, q_not_implies, q_not_iff, q_not_all, q_not_some, q_and_atom, q_and_equal, q_and_not, q_and_and, q_and_or, q_and_implies, q_and_iff, q_and_all, q_and_some, q_or_atom, q_or_equal, q_or_not, q_or_and, q_or_or, q_or_implies, q_or_iff, q_or_all, q_or_some, q_implies_atom, q_implies_equal, q_implies_not, q_implies_and, q_implies_or, q_implies_implies, q_implies_iff, q_implies_all, q_implies_some, q_iff_atom, q_iff_equal, q_iff_not, q_iff_and, q_iff_or, q_iff_implies, q_iff_iff, q_iff_all, q_iff_some, q_all_atom, q_all_equal, q_all_not, q_all_and, q_all_or, q_all_implies, q_all_iff, q_all_all, q_all_some, q_some_atom, q_some_equal, q_some_not, q_some_and, q_some_or, q_some_implies, q_some_iff, q_some_all, q_some_some, T, m6, Fm.d, Fm.us, e, jn_some]
  | .bi o f g, b, m + 1, l, ok, hm, hl => by
    have hm : max f.dp g.dp + 1 + 5 ≤ m + 1 := hm
    have e := puf w f b m l ok.1 (by omega) hl
    have e2 := puf w g b m (f.us l) ok.2 (by omega) (fus_nd hl)
    rw [callK]
    cases o
    all_goals simp [runB, mSeq, mIfS, mTst, mOp2, PL.m2, oV, oP, mCon, getP, setP, ownP, frzs, frz, ixX, orD, ixD, at0, at1, at2, at3, ixN_30, ixN_32, cmpD, mPut, putO, intD, addD, lenD, mOp1, intF, modC, divC, mSet, mRet, mTake, maskE, mSlot, mRd, mAnd, mOr, mNot, mTr, truD, mTup, mNil, mCons, mCallF, mCall, xNil, xIn, xIo, fillIn, backIn, mSkip, mDrop, mRetN, isi_i, isi_t, isi_b, lenOk, mLst, mApp, appO, mFor, mRng, aName, mIt, seqOf, eqX_int, eqX_bl, neD_int, q_atom_atom, q_atom_equal, q_atom_not, q_atom_and, q_atom_or, q_atom_implies, q_atom_iff, q_atom_all, q_atom_some, q_equal_atom, q_equal_equal, q_equal_not, q_equal_and, q_equal_or, q_equal_implies, q_equal_iff, q_equal_all, q_equal_some, q_not_atom, q_not_equal, q_not_not, q_not_and, q_not_or, q_not_implies, q_not_iff, q_not_all, q_not_some, q_and_atom, q_and_equal, q_and_not, q_and_and, q_and_or, q_and_implies, q_and_iff, q_and_all, q_and_some, q_or_atom, q_or_equal, q_or_not, q_or_and, q_or_or, q_or_implies, q_or_iff, q_or_all, q_or_some, q_implies_atom, q_implies_equal, q_implies_not, q_implies_and, q_implies_or, q_implies_implies, q_implies_iff, q_implies_all, q_implies_some, q_iff_atom, q_iff_equal, q_iff_not, q_iff_and, q_iff_or, q_iff_implies, q_iff_iff, q_iff_all, q_iff_some, q_all_atom, q_all_equal, q_all_not, q_all_and, q_all_or, q_all_implies, q_all_iff, q_all_all, q_all_some, q_some_atom, q_some_equal, q_some_not, q_some_and, q_some_or, q_some_implies, q_some_iff, q_some_all, q_some_some, T, m6, Fm.d, Fm.us, Bo.s, e, e2, jn_a, jn_o, jn_i, jn_f]
def usAll : List Fm → List Us → List Us
  | [], l => l
  | f :: fs, l => usAll fs (f.us l)
theorem usAll_nd : ∀ {fs : List Fm} {l : List Us}, l.Nodup → (usAll fs l).Nodup
  | [], l, h => h
  | f :: fs, l, h => usAll_nd (fs := fs) (fus_nd (f := f) h)
/-- the program's uses -/
theorem puses (w : PySem.World) (k : Nat) {fs : List Fm} (ok : ∀ f ∈ fs, f.ok 0 ∧ f.dp ≤ 3) : callI (T w) (k + 9) 7 [.val (.lst (fs.map Fm.d))] = .ok (usO (usAll fs [])) [none] := by
  have lp : ∀ (fs : List Fm) (l : List Us) (x : Option O), (∀ f ∈ fs, f.ok 0 ∧ f.dp ≤ 3) → l.Nodup → ∃ y, loopF (aName 2) (b7_0 w (callI (T w) (k + 8)) (callI (T w) (k + 7))) (fs.map Fm.d) [some (.val (.lst (fs.map Fm.d))), some (usO l), x] = .nx [some (.val (.lst (fs.map Fm.d))), some (usO (usAll fs l)), y] := fun fs => by
    generalize (O.val (.lst (fs.map Fm.d))) = s
    induction fs with
    | nil => exact fun l x _ _ => ⟨x, rfl⟩
    | cons f fs ih =>
      intro l x ok nd
      have e := puf w f 0 (k + 8) l (ok f (List.mem_cons_self ..)).1 (by have := (ok f (List.mem_cons_self ..)).2; omega) nd
      obtain ⟨y, hy⟩ := ih (f.us l) (some (.val f.d)) (fun g m => ok g (List.mem_cons_of_mem _ m)) (fus_nd nd)
      refine ⟨y, ?_⟩
      rw [List.map_cons, loop_cons (r1 := [some s, some (usO l), some (.val f.d)]) rfl]
      have e3 : b7_0 w (callI (T w) (k + 8)) (callI (T w) (k + 7)) [some s, some (usO l), some (.val f.d)] = .nx [some s, some (usO (f.us l)), some (.val f.d)] := by
        simp [runB, mSeq, mIfS, mTst, mOp2, PL.m2, oV, oP, mCon, getP, setP, ownP, frzs, frz, ixX, orD, ixD, at0, at1, at2, at3, ixN_30, ixN_32, cmpD, mPut, putO, intD, addD, lenD, mOp1, intF, modC, divC, mSet, mRet, mTake, maskE, mSlot, mRd, mAnd, mOr, mNot, mTr, truD, mTup, mNil, mCons, mCallF, mCall, xNil, xIn, xIo, fillIn, backIn, mSkip, mDrop, mRetN, isi_i, isi_t, isi_b, lenOk, mLst, mApp, appO, mFor, mRng, aName, mIt, seqOf, eqX_int, eqX_bl, neD_int, b7_0, e]
      rw [e3]
      exact hy
  obtain ⟨y, hy⟩ := lp fs [] none ok List.nodup_nil
  have h0 : usO [] = .lst [] := rfl
  rw [h0] at hy
  rw [callK]
  simp [runB, mSeq, mIfS, mTst, mOp2, PL.m2, oV, oP, mCon, getP, setP, ownP, frzs, frz, ixX, orD, ixD, at0, at1, at2, at3, ixN_30, ixN_32, cmpD, mPut, putO, intD, addD, lenD, mOp1, intF, modC, divC, mSet, mRet, mTake, maskE, mSlot, mRd, mAnd, mOr, mNot, mTr, truD, mTup, mNil, mCons, mCallF, mCall, xNil, xIn, xIo, fillIn, backIn, mSkip, mDrop, mRetN, isi_i, isi_t, isi_b, lenOk, mLst, mApp, appO, mFor, mRng, aName, mIt, seqOf, eqX_int, eqX_bl, neD_int, T, m7, hy]
end K63
set_option Elab.async false
set_option linter.all false
set_option maxRecDepth 100000
set_option maxHeartbeats 4000000
namespace K63
open PL
/-! ### dicts with the uses as keys -/
theorem us_inj {u v : Us} (h : u.d = v.d) : u = v := by
  cases u <;> cases v <;> first | rfl | (exact absurd h (by decide))
theorem us_kind (u : Us) : kindK u.d = some true := by cases u <;> rfl
theorem us_hom (l : List Us) : homK true (l.map Us.d) = true := by
  unfold homK
  rw [List.all_map, List.all_eq_true]
  intro u _
  simp [us_kind]
theorem us_dIx (u : Us) : ∀ l : List Us, dIx (l.map Us.d) u.d = l.findIdx? (· == u)
  | [] => rfl
  | v :: l => by
    rw [List.map_cons, dIx_cons, us_dIx u l, List.findIdx?_cons]
    by_cases h : v = u
    · subst h; simp
    · have h2 : ¬ v.d = u.d := fun z => h (us_inj z)
      simp [h, h2]
/-- a table: the uses with their values -/
abbrev Tb := List (Us × List Int)
def tupI (l : List Int) : D := .tup (l.map .int)
def Tb.ks (t : Tb) : List D := (t.map (·.1)).map Us.d
def Tb.vs (t : Tb) : List D := t.map fun e => tupI e.2
def Tb.get (t : Tb) (u : Us) : Option (List Int) := (t.find? fun e => e.1 == u).map (·.2)
theorem tb_hom (t : Tb) : homK true t.ks = true := us_hom (t.map Prod.fst)
theorem tb_get (u : Us) : ∀ t : Tb, dGet t.ks t.vs u.d = (t.get u).map tupI
  | [] => rfl
  | e :: t => by
    have ih := tb_get u t
    unfold dGet Tb.ks Tb.vs Tb.get at ih ⊢
    rw [us_dIx] at ih ⊢
    rw [List.map_cons, List.map_cons, List.findIdx?_cons, List.find?_cons]
    by_cases h : e.1 = u
    · simp [h]
    · have h2 : (e.1 == u) = false := by simp [h]
      rw [h2]
      simp only [Bool.false_eq_true, if_false]
      rw [← ih]
      cases (List.map (·.1) t).findIdx? (· == u) with
      | none => rfl
      | some i => simp
theorem getD_tb (u : Us) (t : Tb) : getD (.dct t.ks t.vs) u.d = (t.get u).map fun l => .val (tupI l) := by
  unfold getD
  dsimp only
  rw [us_kind]
  have h := us_hom (t.map (·.1))
  have h2 : homK true t.ks = true := h
  dsimp only
  rw [if_pos h2, tb_get]
  cases t.get u <;> rfl
theorem ixX_tb (u : Us) (t : Tb) : ixX (.dct t.ks t.vs) u.d = (t.get u).map fun l => .val (tupI l) := by
  unfold ixX orD
  rw [← getD_tb]
  cases u <;> rfl
theorem inX_tb (neg : Bool) (u : Us) (t : Tb) : inX neg u.d (.dct t.ks t.vs) = some (.val (.bl (if neg = true then !(t.get u).isSome else (t.get u).isSome))) := by
  have e : inX neg u.d (.dct t.ks t.vs) = inDct neg u.d (.dct t.ks t.vs) := by cases u <;> rfl
  rw [e]
  unfold inDct
  dsimp only
  rw [us_kind]
  have h2 : homK true t.ks = true := tb_hom t
  dsimp only
  rw [if_pos h2]
  have h3 : (dIx t.ks u.d).isSome = (t.get u).isSome := by
    have h4 := tb_get u t
    have h5 : t.ks.length = t.vs.length := by unfold Tb.ks Tb.vs; simp
    rw [← dGet_some h5, h4]
    cases t.get u <;> rfl
  rw [h3]
theorem putO_tb {u : Us} {t : Tb} {l : List Int} {o : O} (h : t.get u = none) (ht : t.length < 1000) (ho : frz o = tupI l) : putO (.dct t.ks t.vs) u.d o = some (.dct (Tb.ks (t ++ [(u, l)])) (Tb.vs (t ++ [(u, l)]))) := by
  have h2 : homK true t.ks = true := tb_hom t
  have h5 : t.ks.length = t.vs.length := by unfold Tb.ks Tb.vs; simp
  have h6 : dIx t.ks u.d = none := by
    have h4 := dGet_some (k := u.d) h5
    rw [tb_get, h] at h4
    cases e : dIx t.ks u.d with
    | none => rfl
    | some i => rw [e] at h4; cases h4
  have h7 : lenOk (t.vs.length + 1) = true := lenOk_lt (by unfold Tb.vs; rw [List.length_map]; omega)
  have e : putO (.dct t.ks t.vs) u.d o = (match kindK u.d with
    | some b => if homK b t.ks = true then (if lenOk (t.vs.length + 1) = true then some (.dct (dPut t.ks t.vs u.d (frz o)).1 (dPut t.ks t.vs u.d (frz o)).2) else none) else none
    | none => none) := by cases u <;> rfl
  rw [e, us_kind]
  dsimp only
  rw [if_pos h2, if_pos h7, ho]
  unfold dPut
  rw [h6]
  simp [Tb.ks, Tb.vs]
end K63
set_option Elab.async false
set_option linter.all false
set_option maxRecDepth 100000
set_option maxHeartbeats 4000000
namespace K63
open PL
def cnt (n : Nat) (u : Us) : Nat := if u.ar = 0 then 1 else n
def lim (n : Nat) (u : Us) : Nat := if u.a = 2 then n else 2
theorem mul1 {n : Nat} (h : n ≤ 3) : mulC 1 (n : Int) = true := mulC_bits (a := 1) (b := 2) (by decide) (by omega) (by decide)
theorem pcnt (w : PySem.World) (k : Nat) {n : Nat} (h : n ≤ 3) (u : Us) : callI (T w) (k + 1) 10 [.val (.int n), .val (.int u.ar)] = .ok (.val (.int (cnt n u))) [none, none] := by
  have m := mul1 h
  rw [callK]
  cases u <;> simp [runB, mSeq, mIfS, mTst, mOp2, PL.m2, oV, oP, mCon, getP, setP, ownP, frzs, frz, ixX, orD, ixD, at0, at1, at2, at3, ixN_30, ixN_32, cmpD, mPut, putO, intD, addD, lenD, mOp1, intF, modC, divC, mSet, mRet, mTake, maskE, mSlot, mRd, mAnd, mOr, mNot, mTr, truD, mTup, mNil, mCons, mCallF, mCall, xNil, xIn, xIo, fillIn, backIn, mSkip, mDrop, mRetN, isi_i, isi_t, isi_b, lenOk, mLst, mApp, appO, mFor, mRng, aName, mIt, seqOf, eqX_int, eqX_bl, neD_int, T, m10, b10_0, Us.ar, cnt, rng0, rng1, loopF, mulX_int, m]
theorem lcnt (w : PySem.World) (k : Nat) {n : Nat} (h : n ≤ 3) (u : Us) : callI (T w) (k + 1) 23 [.val (.int n), .val (.int u.ar)] = .ok (.val (.int (cnt n u))) [none, none] := by
  have m := mul1 h
  rw [callK]
  cases u <;> simp [runB, mSeq, mIfS, mTst, mOp2, PL.m2, oV, oP, mCon, getP, setP, ownP, frzs, frz, ixX, orD, ixD, at0, at1, at2, at3, ixN_30, ixN_32, cmpD, mPut, putO, intD, addD, lenD, mOp1, intF, modC, divC, mSet, mRet, mTake, maskE, mSlot, mRd, mAnd, mOr, mNot, mTr, truD, mTup, mNil, mCons, mCallF, mCall, xNil, xIn, xIo, fillIn, backIn, mSkip, mDrop, mRetN, isi_i, isi_t, isi_b, lenOk, mLst, mApp, appO, mFor, mRng, aName, mIt, seqOf, eqX_int, eqX_bl, neD_int, T, m23, b23_0, Us.ar, cnt, rng0, rng1, loopF, mulX_int, m]
theorem in23 : ∀ u : Us, inX false (.int u.a) (.tup [.int 2, .int 3]) = some (.val (.bl (decide (u.a = 2)))) := fun u => by cases u <;> rfl
theorem pind (w : PySem.World) (k : Nat) (u : Us) : callI (T w) (k + 1) 9 [.val (sy u.a u.b)] = .ok (.val (.bl (decide (u.a = 2)))) [none] := by
  have e := in23 u
  rw [callK]
  simp [runB, mSeq, mIfS, mTst, mOp2, PL.m2, oV, oP, mCon, getP, setP, ownP, frzs, frz, ixX, orD, ixD, at0, at1, at2, at3, ixN_30, ixN_32, cmpD, mPut, putO, intD, addD, lenD, mOp1, intF, modC, divC, mSet, mRet, mTake, maskE, mSlot, mRd, mAnd, mOr, mNot, mTr, truD, mTup, mNil, mCons, mCallF, mCall, xNil, xIn, xIo, fillIn, backIn, mSkip, mDrop, mRetN, isi_i, isi_t, isi_b, lenOk, mLst, mApp, appO, mFor, mRng, aName, mIt, seqOf, eqX_int, eqX_bl, neD_int, T, m9, sy, e]
theorem plim (w : PySem.World) (k : Nat) (n : Nat) (u : Us) : callI (T w) (k + 2) 11 [.val (sy u.a u.b), .val (.int n)] = .ok (.val (.int (lim n u))) [none, none] := by
  have e := pind w k u
  rw [callK]
  by_cases h : u.a = 2
  · rw [h] at e ⊢
    simp [runB, mSeq, mIfS, mTst, mOp2, PL.m2, oV, oP, mCon, getP, setP, ownP, frzs, frz, ixX, orD, ixD, at0, at1, at2, at3, ixN_30, ixN_32, cmpD, mPut, putO, intD, addD, lenD, mOp1, intF, modC, divC, mSet, mRet, mTake, maskE, mSlot, mRd, mAnd, mOr, mNot, mTr, truD, mTup, mNil, mCons, mCallF, mCall, xNil, xIn, xIo, fillIn, backIn, mSkip, mDrop, mRetN, isi_i, isi_t, isi_b, lenOk, mLst, mApp, appO, mFor, mRng, aName, mIt, seqOf, eqX_int, eqX_bl, neD_int, T, m11, e, h, lim]
  · simp [runB, mSeq, mIfS, mTst, mOp2, PL.m2, oV, oP, mCon, getP, setP, ownP, frzs, frz, ixX, orD, ixD, at0, at1, at2, at3, ixN_30, ixN_32, cmpD, mPut, putO, intD, addD, lenD, mOp1, intF, modC, divC, mSet, mRet, mTake, maskE, mSlot, mRd, mAnd, mOr, mNot, mTr, truD, mTup, mNil, mCons, mCallF, mCall, xNil, xIn, xIo, fillIn, backIn, mSkip, mDrop, mRetN, isi_i, isi_t, isi_b, lenOk, mLst, mApp, appO, mFor, mRng, aName, mIt, seqOf, eqX_int, eqX_bl, neD_int, T, m11, e, h, lim]
theorem llim (w : PySem.World) (k : Nat) (n : Nat) (u : Us) : callI (T w) (k + 1) 24 [.val (sy u.a u.b), .val (.int n)] = .ok (.val (.int (lim n u))) [none, none] := by
  rw [callK]
  cases u <;> simp [runB, mSeq, mIfS, mTst, mOp2, PL.m2, oV, oP, mCon, getP, setP, ownP, frzs, frz, ixX, orD, ixD, at0, at1, at2, at3, ixN_30, ixN_32, cmpD, mPut, putO, intD, addD, lenD, mOp1, intF, modC, divC, mSet, mRet, mTake, maskE, mSlot, mRd, mAnd, mOr, mNot, mTr, truD, mTup, mNil, mCons, mCallF, mCall, xNil, xIn, xIo, fillIn, backIn, mSkip, mDrop, mRetN, isi_i, isi_t, isi_b, lenOk, mLst, mApp, appO, mFor, mRng, aName, mIt, seqOf, eqX_int, eqX_bl, neD_int, T, m24, sy, Us.a, lim]
def inB (n : Nat) (u : Us) (v : Int) : Bool := decide (0 ≤ v) && decide (v < (lim n u : Int))
def fitB (n : Nat) (u : Us) (l : List Int) : Bool := decide (l.length = cnt n u) && l.all (inB n u)
def inR (n : Nat) (u : Us) : D → O
  | .int v => .val (.bl (inB n u v))
  | _ => .val .non
theorem ptab3 (w : PySem.World) (k : Nat) {n : Nat} (u : Us) (l : List Int) : loopC [4] (aName 4) mYes (e12_0 w (callI (T w) (k + 2)) (callI (T w) (k + 1))) (l.map D.int) [some (.val (sy u.a u.b)), some (.val (.int u.ar)), some (.val (tupI l)), some (.val (.int n)), none] = .ok ((l.map D.int).map (inR n u)) [some (.val (sy u.a u.b)), some (.val (.int u.ar)), some (.val (tupI l)), some (.val (.int n)), none] := by
  have e2 := plim w k n u
  refine lc_map _ fun d hd => ?_
  obtain ⟨v, hv, rfl⟩ := List.mem_map.mp hd
  refine ⟨_, [some (.val (sy u.a u.b)), some (.val (.int u.ar)), some (.val (tupI l)), some (.val (.int n)), some (.val (.int v))], rfl, ?_, rfl⟩
  by_cases hz : 0 ≤ v
  · simp [runB, mSeq, mIfS, mTst, mOp2, PL.m2, oV, oP, mCon, getP, setP, ownP, frzs, frz, ixX, orD, ixD, at0, at1, at2, at3, ixN_30, ixN_32, cmpD, mPut, putO, intD, addD, lenD, mOp1, intF, modC, divC, mSet, mRet, mTake, maskE, mSlot, mRd, mAnd, mOr, mNot, mTr, truD, mTup, mNil, mCons, mCallF, mCall, xNil, xIn, xIo, fillIn, backIn, mSkip, mDrop, mRetN, isi_i, isi_t, isi_b, lenOk, mLst, mApp, appO, mFor, mRng, aName, mIt, seqOf, eqX_int, eqX_bl, neD_int, e12_0, mChain, hz, e2, inR, inB]
  · simp [runB, mSeq, mIfS, mTst, mOp2, PL.m2, oV, oP, mCon, getP, setP, ownP, frzs, frz, ixX, orD, ixD, at0, at1, at2, at3, ixN_30, ixN_32, cmpD, mPut, putO, intD, addD, lenD, mOp1, intF, modC, divC, mSet, mRet, mTake, maskE, mSlot, mRd, mAnd, mOr, mNot, mTr, truD, mTup, mNil, mCons, mCallF, mCall, xNil, xIn, xIo, fillIn, backIn, mSkip, mDrop, mRetN, isi_i, isi_t, isi_b, lenOk, mLst, mApp, appO, mFor, mRng, aName, mIt, seqOf, eqX_int, eqX_bl, neD_int, e12_0, mChain, hz, e2, inR, inB]
theorem ptab4 (w : PySem.World) (k : Nat) {n : Nat} (u : Us) (l : List Int) (hl : l.length < 1000) : mLc [4] (mIt (mSlot 2)) (aName 4) mYes (e12_0 w (callI (T w) (k + 2)) (callI (T w) (k + 1))) [some (.val (sy u.a u.b)), some (.val (.int u.ar)), some (.val (tupI l)), some (.val (.int n)), none] = .ok (.lst ((l.map (D.bl ∘ inB n u)).map .val)) [some (.val (sy u.a u.b)), some (.val (.int u.ar)), some (.val (tupI l)), some (.val (.int n)), none] := by
  have e3 := ptab3 w k (n := n) u l
  have e4 : (l.map D.int).map (inR n u) = (l.map (D.bl ∘ inB n u)).map O.val := by
    rw [List.map_map, List.map_map]; rfl
  rw [e4] at e3
  have e5 : mIt (mSlot 2) [some (.val (sy u.a u.b)), some (.val (.int u.ar)), some (.val (tupI l)), some (.val (.int n)), none] = .ok (l.map D.int) [some (.val (sy u.a u.b)), some (.val (.int u.ar)), some (.val (tupI l)), some (.val (.int n)), none] := rfl
  have e6 : wipeE [some (.val (sy u.a u.b)), some (.val (.int u.ar)), some (.val (tupI l)), some (.val (.int n)), none] [4] = [some (.val (sy u.a u.b)), some (.val (.int u.ar)), some (.val (tupI l)), some (.val (.int n)), none] := rfl
  have e7 : lenOk (((l.map (D.bl ∘ inB n u)).map O.val).length + 1) = true := lenOk_lt (by rw [List.length_map, List.length_map]; omega)
  unfold mLc
  rw [e5]
  dsimp only
  rw [e6, e3]
  dsimp only
  rw [if_pos e7]
theorem all_bl (f : Int → Bool) (l : List Int) : allF (.lst (l.map (D.bl ∘ f))) = some (.val (.bl (l.all f))) := by
  have e6 : blsD (l.map (D.bl ∘ f)) = some (l.map f) := blsD_map _ l
  unfold allF
  dsimp only
  rw [e6, Option.map_some, List.all_map]
  rfl
theorem frz_vals (ds : List D) : frz (.lst (ds.map .val)) = .lst ds := by rw [frz, frzs_vals]
theorem ptab5 (w : PySem.World) (k : Nat) {n : Nat} (u : Us) (l : List Int) (hl : l.length < 1000) : mRet (mOp1 allF (oV (mLc [4] (mIt (mSlot 2)) (aName 4) mYes (e12_0 w (callI (T w) (k + 2)) (callI (T w) (k + 1)))))) [some (.val (sy u.a u.b)), some (.val (.int u.ar)), some (.val (tupI l)), some (.val (.int n)), none] = .ret (.val (.bl (l.all (inB n u)))) [some (.val (sy u.a u.b)), some (.val (.int u.ar)), some (.val (tupI l)), some (.val (.int n)), none] := by
  have e4 := ptab4 w k (n := n) u l hl
  have e7 := frz_vals (l.map (D.bl ∘ inB n u))
  have e8 := all_bl (inB n u) l
  unfold mRet mOp1 oV
  rw [e4]
  dsimp only
  rw [e7, e8]
theorem ptab6 (cf : Nat → FM) {n : Nat} (u : Us) (l : List Int) (e1 : cf 10 [.val (.int n), .val (.int u.ar)] = .ok (.val (.int (cnt n u))) [none, none]) : mIfS (mTst (mOp2 neD (oV (mOp1 lenD (oP FID 2 []))) (oV (mCallF (cf 10) (mCons (mSlot 3) (mCons (mSlot 1) mNil)))))) (mRet (mCon (.bl false))) mSkip [some (.val (sy u.a u.b)), some (.val (.int u.ar)), some (.val (tupI l)), some (.val (.int n)), none] = (if l.length = cnt n u then .nx [some (.val (sy u.a u.b)), some (.val (.int u.ar)), some (.val (tupI l)), some (.val (.int n)), none] else .ret (.val (.bl false)) [some (.val (sy u.a u.b)), some (.val (.int u.ar)), some (.val (tupI l)), some (.val (.int n)), none]) := by
  by_cases hc : l.length = cnt n u
  · simp [runB, mSeq, mIfS, mTst, mOp2, PL.m2, oV, oP, mCon, getP, setP, ownP, frzs, frz, ixX, orD, ixD, at0, at1, at2, at3, ixN_30, ixN_32, cmpD, mPut, putO, intD, addD, lenD, mOp1, intF, modC, divC, mSet, mRet, mTake, maskE, mSlot, mRd, mAnd, mOr, mNot, mTr, truD, mTup, mNil, mCons, mCallF, mCall, xNil, xIn, xIo, fillIn, backIn, mSkip, mDrop, mRetN, isi_i, isi_t, isi_b, lenOk, mLst, mApp, appO, mFor, mRng, aName, mIt, seqOf, eqX_int, eqX_bl, neD_int, tupI, e1, hc]
  · have hc2 : ¬ ((l.length : Nat) : Int) = (cnt n u : Int) := by omega
    simp [runB, mSeq, mIfS, mTst, mOp2, PL.m2, oV, oP, mCon, getP, setP, ownP, frzs, frz, ixX, orD, ixD, at0, at1, at2, at3, ixN_30, ixN_32, cmpD, mPut, putO, intD, addD, lenD, mOp1, intF, modC, divC, mSet, mRet, mTake, maskE, mSlot, mRd, mAnd, mOr, mNot, mTr, truD, mTup, mNil, mCons, mCallF, mCall, xNil, xIn, xIo, fillIn, backIn, mSkip, mDrop, mRetN, isi_i, isi_t, isi_b, lenOk, mLst, mApp, appO, mFor, mRng, aName, mIt, seqOf, eqX_int, eqX_bl, neD_int, tupI, e1, hc, hc2]
theorem ptab7 (w : PySem.World) (cf cg : Nat → FM) {n : Nat} (u : Us) (l : List Int) (e1 : cf 10 [.val (.int n), .val (.int u.ar)] = .ok (.val (.int (cnt n u))) [none, none]) (e9 : mRet (mOp1 allF (oV (mLc [4] (mIt (mSlot 2)) (aName 4) mYes (e12_0 w cf cg)))) [some (.val (sy u.a u.b)), some (.val (.int u.ar)), some (.val (tupI l)), some (.val (.int n)), none] = .ret (.val (.bl (l.all (inB n u)))) [some (.val (sy u.a u.b)), some (.val (.int u.ar)), some (.val (tupI l)), some (.val (.int n)), none]) : m12 w cf cg [some (.val (sy u.a u.b)), some (.val (.int u.ar)), some (.val (tupI l)), some (.val (.int n)), none] = .ret (.val (.bl (fitB n u l))) [some (.val (sy u.a u.b)), some (.val (.int u.ar)), some (.val (tupI l)), some (.val (.int n)), none] := by
  have e2 := ptab6 cf u l e1
  unfold m12 mSeq
  rw [e2]
  by_cases hc : l.length = cnt n u
  · rw [if_pos hc]
    dsimp only
    rw [e9]
    simp [fitB, hc]
  · rw [if_neg hc]
    simp [fitB, hc]
theorem ptab (w : PySem.World) (k : Nat) {n : Nat} (h : n ≤ 3) (u : Us) (l : List Int) (hl : l.length < 1000) : callI (T w) (k + 3) 12 [.val (sy u.a u.b), .val (.int u.ar), .val (tupI l), .val (.int n)] = .ok (.val (.bl (fitB n u l))) [none, none, none, none] := by
  have e := ptab7 w (callI (T w) (k + 2)) (callI (T w) (k + 1)) (n := n) u l (pcnt w (k + 1) h u) (ptab5 w k (n := n) u l hl)
  rw [callK]
  simp only [T]
  rw [run_eq (n := 5) (p := 4) (M := []) (f := m12 w) (m := m12 w) [some (.val (sy u.a u.b)), some (.val (.int u.ar)), some (.val (tupI l)), some (.val (.int n)), none] rfl rfl]
  rw [show k + 2 - 1 = k + 1 from rfl, e]
  rfl
end K63
set_option Elab.async false
set_option linter.all false
set_option maxRecDepth 100000
set_option maxHeartbeats 4000000
namespace K63
open PL
theorem lfit0 (w : PySem.World) (cf cg : Nat → FM) {n : Nat} (u : Us) (a b x4 : Option O) (e1 : cf 24 [.val (sy u.a u.b), .val (.int n)] = .ok (.val (.int (lim n u))) [none, none]) (v : Int) : b26_0 w cf cg [a, some (.val (.int n)), some (.val (sy u.a u.b)), b, x4, some (.val (.int v))] = (if inB n u v = true then .nx [a, some (.val (.int n)), some (.val (sy u.a u.b)), b, x4, some (.val (.int v))] else .ret (.val (.bl false)) [a, some (.val (.int n)), some (.val (sy u.a u.b)), b, x4, some (.val (.int v))]) := by
  by_cases h1 : v < 0
  · have h2 : ¬ 0 ≤ v := by omega
    simp [runB, mSeq, mIfS, mTst, mOp2, PL.m2, oV, oP, mCon, getP, setP, ownP, frzs, frz, ixX, orD, ixD, at0, at1, at2, at3, ixN_30, ixN_32, cmpD, mPut, putO, intD, addD, lenD, mOp1, intF, modC, divC, mSet, mRet, mTake, maskE, mSlot, mRd, mAnd, mOr, mNot, mTr, truD, mTup, mNil, mCons, mCallF, mCall, xNil, xIn, xIo, fillIn, backIn, mSkip, mDrop, mRetN, isi_i, isi_t, isi_b, lenOk, mLst, mApp, appO, mFor, mRng, aName, mIt, seqOf, eqX_int, eqX_bl, neD_int, b26_0, e1, h1, inB, h2]
  · have h2 : 0 ≤ v := by omega
    by_cases h3 : v < lim n u
    · have h4 : ¬ (lim n u : Int) ≤ v := by omega
      simp [runB, mSeq, mIfS, mTst, mOp2, PL.m2, oV, oP, mCon, getP, setP, ownP, frzs, frz, ixX, orD, ixD, at0, at1, at2, at3, ixN_30, ixN_32, cmpD, mPut, putO, intD, addD, lenD, mOp1, intF, modC, divC, mSet, mRet, mTake, maskE, mSlot, mRd, mAnd, mOr, mNot, mTr, truD, mTup, mNil, mCons, mCallF, mCall, xNil, xIn, xIo, fillIn, backIn, mSkip, mDrop, mRetN, isi_i, isi_t, isi_b, lenOk, mLst, mApp, appO, mFor, mRng, aName, mIt, seqOf, eqX_int, eqX_bl, neD_int, b26_0, e1, h1, inB, h2, h3, h4]
    · have h4 : (lim n u : Int) ≤ v := by omega
      simp [runB, mSeq, mIfS, mTst, mOp2, PL.m2, oV, oP, mCon, getP, setP, ownP, frzs, frz, ixX, orD, ixD, at0, at1, at2, at3, ixN_30, ixN_32, cmpD, mPut, putO, intD, addD, lenD, mOp1, intF, modC, divC, mSet, mRet, mTake, maskE, mSlot, mRd, mAnd, mOr, mNot, mTr, truD, mTup, mNil, mCons, mCallF, mCall, xNil, xIn, xIo, fillIn, backIn, mSkip, mDrop, mRetN, isi_i, isi_t, isi_b, lenOk, mLst, mApp, appO, mFor, mRng, aName, mIt, seqOf, eqX_int, eqX_bl, neD_int, b26_0, e1, h1, inB, h2, h3, h4]
theorem lfit1 (w : PySem.World) (cf cg : Nat → FM) {n : Nat} (u : Us) (a b x4 : Option O) (e1 : cf 24 [.val (sy u.a u.b), .val (.int n)] = .ok (.val (.int (lim n u))) [none, none]) : ∀ (l : List Int) (x5 : Option O), ∃ y, loopF (aName 5) (b26_0 w cf cg) (l.map .int) [a, some (.val (.int n)), some (.val (sy u.a u.b)), b, x4, x5] = (if l.all (inB n u) = true then .nx [a, some (.val (.int n)), some (.val (sy u.a u.b)), b, x4, y] else .ret (.val (.bl false)) [a, some (.val (.int n)), some (.val (sy u.a u.b)), b, x4, y])
  | [], x5 => ⟨x5, rfl⟩
  | v :: l, x5 => by
    have h := lfit0 w cf cg u a b x4 e1 v
    rw [List.map_cons, loop_cons (r1 := [a, some (.val (.int n)), some (.val (sy u.a u.b)), b, x4, some (.val (.int v))]) rfl, h]
    by_cases hv : inB n u v = true
    · obtain ⟨y, hy⟩ := lfit1 w cf cg u a b x4 e1 l (some (.val (.int v)))
      refine ⟨y, ?_⟩
      rw [if_pos hv]
      dsimp only
      rw [hy, List.all_cons, hv, Bool.true_and]
    · refine ⟨some (.val (.int v)), ?_⟩
      rw [if_neg hv]
      have hv2 : inB n u v = false := by simpa using hv
      rw [List.all_cons, hv2, Bool.false_and]
      rfl
theorem lfit2 (w : PySem.World) (cf cg : Nat → FM) {n : Nat} (u : Us) (t : Tb) {l : List Int} (x4 x5 : Option O) (e1 : cf 24 [.val (sy u.a u.b), .val (.int n)] = .ok (.val (.int (lim n u))) [none, none]) (e2 : cf 23 [.val (.int n), .val (.int u.ar)] = .ok (.val (.int (cnt n u))) [none, none]) (hg : t.get u = some l) :
    ∃ y, b26_1 w cf cg [some (.val (.dct t.ks t.vs)), some (.val (.int n)), some (.val (sy u.a u.b)), some (.val (.int u.ar)), x4, x5] = (if fitB n u l = true then .nx [some (.val (.dct t.ks t.vs)), some (.val (.int n)), some (.val (sy u.a u.b)), some (.val (.int u.ar)), some (.val (tupI l)), y] else .ret (.val (.bl false)) [some (.val (.dct t.ks t.vs)), some (.val (.int n)), some (.val (sy u.a u.b)), some (.val (.int u.ar)), some (.val (tupI l)), y]) := by
  have k1 : ixX (.dct t.ks t.vs) (.tup [sy u.a u.b, .int u.ar]) = some (.val (tupI l)) := by
    have := ixX_tb u t
    rw [hg] at this
    exact this
  by_cases hc : l.length = cnt n u
  · obtain ⟨y, hy⟩ := lfit1 w cf cg u (some (.val (.dct t.ks t.vs))) (some (.val (.int u.ar))) (some (.val (tupI l))) e1 l x5
    refine ⟨y, ?_⟩
    have hf : fitB n u l = l.all (inB n u) := by simp [fitB, hc]
    rw [hf, ← hy]
    simp [runB, mSeq, mIfS, mTst, mOp2, PL.m2, oV, oP, mCon, getP, setP, ownP, frzs, frz, ixX_t, ixX_l, at0, at1, at2, at3, ixN_30, ixN_32, cmpD, mPut, intD, addD, lenD, mOp1, intF, modC, divC, mSet, mRet, mTake, maskE, mSlot, mRd, mAnd, mOr, mNot, mTr, truD, mTup, mNil, mCons, mCallF, mCall, xNil, xIn, xIo, fillIn, backIn, mSkip, mDrop, mRetN, isi_i, isi_t, isi_b, lenOk, mLst, mApp, appO, mFor, mRng, aName, mIt, seqOf, eqX_int, eqX_bl, neD_int, b26_1, k1, e2, tupI, hc]
  · refine ⟨x5, ?_⟩
    have hc2 : ¬ ((l.length : Nat) : Int) = (cnt n u : Int) := by omega
    simp [runB, mSeq, mIfS, mTst, mOp2, PL.m2, oV, oP, mCon, getP, setP, ownP, frzs, frz, ixX_t, ixX_l, at0, at1, at2, at3, ixN_30, ixN_32, cmpD, mPut, intD, addD, lenD, mOp1, intF, modC, divC, mSet, mRet, mTake, maskE, mSlot, mRd, mAnd, mOr, mNot, mTr, truD, mTup, mNil, mCons, mCallF, mCall, xNil, xIn, xIo, fillIn, backIn, mSkip, mDrop, mRetN, isi_i, isi_t, isi_b, lenOk, mLst, mApp, appO, mFor, mRng, aName, mIt, seqOf, eqX_int, eqX_bl, neD_int, b26_1, k1, e2, tupI, hc, hc2, fitB]
end K63
set_option Elab.async false
set_option linter.all false
set_option maxRecDepth 100000
set_option maxHeartbeats 4000000
namespace K63
open PL
theorem lfit3 (w : PySem.World) (cf cg : Nat → FM) {n : Nat} (t : Tb) (e1 : ∀ u : Us, cf 24 [.val (sy u.a u.b), .val (.int n)] = .ok (.val (.int (lim n u))) [none, none]) (e2 : ∀ u : Us, cf 23 [.val (.int n), .val (.int u.ar)] = .ok (.val (.int (cnt n u))) [none, none]) :
    ∀ (es : Tb), (∀ e ∈ es, t.get e.1 = some e.2) → ∀ x2 x3 x4 x5, ∃ y2 y3 y4 y5, loopF (aTup (aCons (aName 2) (aCons (aName 3) aNil))) (b26_1 w cf cg) es.ks [some (.val (.dct t.ks t.vs)), some (.val (.int n)), x2, x3, x4, x5] = (if es.all (fun e => fitB n e.1 e.2) = true then .nx [some (.val (.dct t.ks t.vs)), some (.val (.int n)), y2, y3, y4, y5] else .ret (.val (.bl false)) [some (.val (.dct t.ks t.vs)), some (.val (.int n)), y2, y3, y4, y5])
  | [], _, x2, x3, x4, x5 => ⟨x2, x3, x4, x5, rfl⟩
  | e :: es, h, x2, x3, x4, x5 => by
    obtain ⟨u, l⟩ := e
    obtain ⟨y, hy⟩ := lfit2 w cf cg u t x4 x5 (e1 u) (e2 u) (h _ (List.mem_cons_self ..))
    have hk : Tb.ks ((u, l) :: es) = u.d :: Tb.ks es := rfl
    rw [hk, loop_cons (r1 := [some (.val (.dct t.ks t.vs)), some (.val (.int n)), some (.val (sy u.a u.b)), some (.val (.int u.ar)), x4, x5]) rfl, hy]
    by_cases hf : fitB n u l = true
    · obtain ⟨y2, y3, y4, y5, ih⟩ := lfit3 w cf cg t e1 e2 es (fun e m => h e (List.mem_cons_of_mem _ m)) (some (.val (sy u.a u.b))) (some (.val (.int u.ar))) (some (.val (tupI l))) y
      refine ⟨y2, y3, y4, y5, ?_⟩
      rw [if_pos hf]
      dsimp only
      rw [ih, List.all_cons, hf, Bool.true_and]
    · have hf2 : fitB n u l = false := by simpa using hf
      refine ⟨some (.val (sy u.a u.b)), some (.val (.int u.ar)), some (.val (tupI l)), y, ?_⟩
      rw [if_neg hf, List.all_cons, hf2, Bool.false_and]
      rfl
def fitsB (n : Nat) (t : Tb) : Bool := t.all fun e => fitB n e.1 e.2
theorem lfit4 (w : PySem.World) (cf cg : Nat → FM) {n : Nat} (t : Tb) (e1 : ∀ u : Us, cf 24 [.val (sy u.a u.b), .val (.int n)] = .ok (.val (.int (lim n u))) [none, none]) (e2 : ∀ u : Us, cf 23 [.val (.int n), .val (.int u.ar)] = .ok (.val (.int (cnt n u))) [none, none]) (hg : ∀ e ∈ t, t.get e.1 = some e.2) :
    ∃ r, m26 w cf cg [some (.val (.dct t.ks t.vs)), some (.val (.int n)), none, none, none, none] = .ret (.val (.bl (fitsB n t))) r := by
  obtain ⟨y2, y3, y4, y5, h⟩ := lfit3 w cf cg t e1 e2 t hg none none none none
  have e0 : mRd FID 0 [] [some (.val (.dct t.ks t.vs)), some (.val (.int n)), none, none, none, none] = .ok (.val (.dct t.ks t.vs)) [some (.val (.dct t.ks t.vs)), some (.val (.int n)), none, none, none, none] := rfl
  unfold m26 mSeq mForD
  rw [e0]
  dsimp only
  rw [h]
  by_cases hf : (t.all fun e => fitB n e.1 e.2) = true
  · refine ⟨[some (.val (.dct t.ks t.vs)), some (.val (.int n)), y2, y3, y4, y5], ?_⟩
    rw [if_pos hf]
    unfold fitsB
    rw [hf]
    rfl
  · have hf2 : (t.all fun e => fitB n e.1 e.2) = false := by simpa using hf
    refine ⟨[some (.val (.dct t.ks t.vs)), some (.val (.int n)), y2, y3, y4, y5], ?_⟩
    rw [if_neg hf]
    unfold fitsB
    rw [hf2]
theorem lfits (w : PySem.World) (k : Nat) {n : Nat} (h : n ≤ 3) (t : Tb) (hg : ∀ e ∈ t, t.get e.1 = some e.2) : callI (T w) (k + 2) 26 [.val (.dct t.ks t.vs), .val (.int n)] = .ok (.val (.bl (fitsB n t))) [none, none] := by
  obtain ⟨r, e⟩ := lfit4 w (callI (T w) (k + 1)) (callI (T w) (k + 1 - 1)) t (fun u => llim w k n u) (fun u => lcnt w k h u) hg
  rw [callK]
  simp only [T]
  rw [run_eq (n := 6) (p := 2) (M := []) (f := m26 w) (m := m26 w) [some (.val (.dct t.ks t.vs)), some (.val (.int n)), none, none, none, none] rfl rfl, e]
  rfl
end K63
set_option Elab.async false
set_option linter.all false
set_option maxRecDepth 100000
set_option maxHeartbeats 4000000
namespace K63
open PL
/-! ### rows: the values of the bound variables -/
def rowK (n : Nat) : List D := (List.range n).map fun i => D.int (i : Nat)
def rowV (r : List Nat) : List D := r.map fun i => D.int (i : Nat)
theorem row_dIx {n i : Nat} (h : i < n) : dIx (rowK n) (.int i) = some i := by
  unfold dIx rowK
  rw [List.findIdx?_eq_some_iff_getElem]
  refine ⟨by simpa using h, by simp, fun j hj => ?_⟩
  have hj2 : ¬ ((j : Nat) : Int) = (i : Int) := by omega
  simp [hj2]
theorem row_hom (n : Nat) : homK false (rowK n) = true := by
  unfold homK rowK
  rw [List.all_map, List.all_eq_true]
  intro i _
  simp [kindK]
theorem ixX_row {r : List Nat} {i : Nat} (h : i < r.length) : ixX (.dct (rowK r.length) (rowV r)) (.int i) = some (.val (.int (r[i]'h : Nat))) := by
  have e : ixX (.dct (rowK r.length) (rowV r)) (.int i) = getD (.dct (rowK r.length) (rowV r)) (.int i) := rfl
  rw [e]
  unfold getD
  dsimp only
  have hk : kindK (.int (i : Int)) = some false := rfl
  rw [hk]
  dsimp only
  rw [if_pos (row_hom _)]
  unfold dGet
  rw [row_dIx h]
  simp [rowV, h]
def Tb.val (t : Tb) (u : Us) : List Int := (t.get u).getD []
def Ful (n : Nat) (t : Tb) (u : Us) : Prop := (t.get u).isSome = true ∧ fitB n u (t.val u) = true
def Tm.ev (t : Tb) (r : List Nat) : Tm → Int
  | .v i => (r.getD i 0 : Nat)
  | .c i => (t.val (cu i)).getD 0 0
  | .f s => (t.val .fn).getD (s.ev t r).toNat 0
def Tm.ful (n : Nat) (t : Tb) : Tm → Prop
  | .v _ => True
  | .c i => Ful n t (cu i)
  | .f s => Ful n t .fn ∧ s.ful n t
theorem ful_get {n : Nat} {t : Tb} {u : Us} (h : Ful n t u) : t.get u = some (t.val u) := by
  obtain ⟨h1, _⟩ := h
  unfold Tb.val
  cases e : t.get u with
  | none => rw [e] at h1; cases h1
  | some l => rfl
theorem ful_at {n : Nat} {t : Tb} {u : Us} (h : Ful n t u) {i : Nat} (hi : i < cnt n u) : L2.atI ((t.val u).map D.int) (i : Int) = some (.int ((t.val u).getD i 0)) ∧ 0 ≤ (t.val u).getD i 0 ∧ (t.val u).getD i 0 < lim n u := by
  obtain ⟨_, h2⟩ := h
  unfold fitB at h2
  rw [Bool.and_eq_true] at h2
  obtain ⟨h3, h4⟩ := h2
  have h3 := of_decide_eq_true h3
  have hl : i < (t.val u).length := by omega
  have h5 := List.all_eq_true.mp h4 ((t.val u)[i]) (List.getElem_mem hl)
  unfold inB at h5
  rw [Bool.and_eq_true] at h5
  rw [atI_nat (by rw [List.length_map]; exact hl)]
  have e : (t.val u).getD i 0 = (t.val u)[i] := by simp [List.getD, hl]
  rw [e]
  refine ⟨by simp [hl], of_decide_eq_true h5.1, of_decide_eq_true h5.2⟩
theorem ev_rng {n b : Nat} {t : Tb} {r : List Nat} (hr : ∀ x ∈ r, x < n) (hb : r.length = b) (hn : 0 < n) : ∀ {s : Tm}, s.ok b → s.ful n t → 0 ≤ s.ev t r ∧ s.ev t r < n
  | .v i, ok, _ => by
    have ok : i < b := ok
    have hi : i < r.length := by omega
    have h := hr (r[i]) (List.getElem_mem hi)
    have e : r.getD i 0 = r[i] := by simp [List.getD, hi]
    show 0 ≤ ((r.getD i 0 : Nat) : Int) ∧ ((r.getD i 0 : Nat) : Int) < n
    rw [e]
    omega
  | .c i, ok, h => by
    have ok : i < 2 := ok
    have hc : cnt n (cu i) = 1 := by
      have : i = 0 ∨ i = 1 := by omega
      rcases this with rfl | rfl <;> rfl
    have hl : lim n (cu i) = n := by
      have : i = 0 ∨ i = 1 := by omega
      rcases this with rfl | rfl <;> rfl
    have := ful_at h (i := 0) (by omega)
    rw [hl] at this
    exact this.2
  | .f s, ok, h => by
    obtain ⟨h1, h2⟩ := ev_rng hr hb hn (s := s) ok h.2
    have := ful_at h.1 (i := (s.ev t r).toNat) (by show _ < n; omega)
    exact this.2
end K63
set_option Elab.async false
set_option linter.all false
set_option maxRecDepth 100000
set_option maxHeartbeats 4000000
namespace K63
open PL
theorem ixF00 : ixF FID 0 0 = some 0 := rfl
theorem ixF01 : ixF FID 0 1 = some 1 := rfl
theorem mul0 {n : Nat} (h : n ≤ 3) : mulC 0 (n : Int) = true := mulC_bits (a := 1) (b := 2) (by decide) (by omega) (by decide)
theorem tb_c {n i : Nat} {t : Tb} (hi : i < 2) (h : Ful n t (cu i)) : ixX (.dct t.ks t.vs) (.tup [.tup [.int 2, .int i, .int 0], .int 0]) = some (.val (tupI (t.val (cu i)))) := by
  have := ixX_tb (cu i) t
  rw [ful_get h, cu_d hi] at this
  exact this
theorem tb_f {n : Nat} {t : Tb} (h : Ful n t .fn) : ixX (.dct t.ks t.vs) (.tup [.tup [.int 2, .int 2, .int 0], .int 1]) = some (.val (tupI (t.val .fn))) := by
  have := ixX_tb .fn t
  rw [ful_get h] at this
  exact this
theorem lval (w : PySem.World) {n b : Nat} {t : Tb} {r : List Nat} (hn3 : n ≤ 3) (hr : ∀ x ∈ r, x < n) (hb : r.length = b) (hn : 0 < n) : ∀ (s : Tm) (k : Nat), s.ok b → s.ful n t → callI (T w) (k + s.dp + 1) 19 [.val s.d, .val (.dct (rowK r.length) (rowV r)), .val (.int n), .val (.dct t.ks t.vs)] = .ok (.val (.int (s.ev t r))) [none, none, none, none]
  | .v i, k, ok, hf => by
    have ok : i < b := ok
    have hi : i < r.length := by omega
    have e := ixX_row hi
    have e2 : ((Tm.v i).ev t r) = ((r[i] : Nat) : Int) := by
      show ((r.getD i 0 : Nat) : Int) = _
      simp [List.getD, hi]
    rw [callK, e2]
    simp [runB, mSeq, mIfS, mTst, mOp2, PL.m2, oV, oP, mCon, getP, setP, ownP, frzs, frz, ixX_t, ixX_l, at0, at1, at2, at3, ixN_30, ixN_32, cmpD, mPut, intD, addD, lenD, mOp1, intF, modC, divC, mSet, mRet, mTake, maskE, mSlot, mRd, mAnd, mOr, mNot, mTr, truD, mTup, mNil, mCons, mCallF, mCall, xNil, xIn, xIo, fillIn, backIn, mSkip, mDrop, mRetN, isi_i, isi_t, isi_b, lenOk, mLst, mApp, appO, mFor, mRng, aName, mIt, seqOf, eqX_int, eqX_bl, neD_int, T, m19, Tm.d, e]
  | .c i, k, ok, hf => by
    have ok : i < 2 := ok
    have hc : cnt n (cu i) = 1 := by
      have : i = 0 ∨ i = 1 := by omega
      rcases this with rfl | rfl <;> rfl
    have e := tb_c ok hf
    obtain ⟨e2, _, _⟩ := ful_at hf (i := 0) (by omega)
    have e3 : (Tm.c i).ev t r = (t.val (cu i)).getD 0 0 := rfl
    have e4 : L2.atI ((t.val (cu i)).map D.int) 0 = some (.int ((t.val (cu i)).getD 0 0)) := e2
    rw [callK, e3]
    simp only [tupI] at e
    simp [runB, mSeq, mIfS, mTst, mOp2, PL.m2, oV, oP, mCon, getP, setP, ownP, frzs, frz, ixX_t, ixX_l, at0, at1, at2, at3, ixN_30, ixN_32, cmpD, mPut, intD, addD, lenD, mOp1, intF, modC, divC, mSet, mRet, mTake, maskE, mSlot, mRd, mAnd, mOr, mNot, mTr, truD, mTup, mNil, mCons, mCallF, mCall, xNil, xIn, xIo, fillIn, backIn, mSkip, mDrop, mRetN, isi_i, isi_t, isi_b, lenOk, mLst, mApp, appO, mFor, mRng, aName, mIt, seqOf, eqX_int, eqX_bl, neD_int, T, m19, Tm.d, sy, e, loop_nil, e4]
  | .f s, k, ok, hf => by
    have ih := lval w hn3 hr hb hn s k ok hf.2
    obtain ⟨h1, h2⟩ := ev_rng hr hb hn (s := s) ok hf.2
    obtain ⟨e2, _, _⟩ := ful_at hf.1 (i := (s.ev t r).toNat) (by show _ < n; omega)
    have e := tb_f hf.1
    have e3 : (Tm.f s).ev t r = (t.val .fn).getD (s.ev t r).toNat 0 := rfl
    have e4 : L2.atI ((t.val .fn).map D.int) (s.ev t r) = some (.int ((t.val .fn).getD (s.ev t r).toNat 0)) := by
      rw [← e2]
      congr 1
      omega
    have m := mul0 hn3
    show callI (T w) (k + s.dp + 1 + 1) 19 _ = _
    rw [callK, e3]
    generalize s.ev t r = x at *
    simp only [tupI] at e
    simp [runB, mSeq, mIfS, mTst, mOp2, PL.m2, oV, oP, mCon, getP, setP, ownP, frzs, frz, ixX_t, ixX_l, at0, at1, at2, at3, ixN_30, ixN_32, cmpD, mPut, intD, addD, lenD, mOp1, intF, modC, divC, mSet, mRet, mTake, maskE, mSlot, mRd, mAnd, mOr, mNot, mTr, truD, mTup, mNil, mCons, mCallF, mCall, xNil, xIn, xIo, fillIn, backIn, mSkip, mDrop, mRetN, isi_i, isi_t, isi_b, lenOk, mLst, mApp, appO, mFor, mRng, aName, mIt, seqOf, eqX_int, eqX_bl, neD_int, T, m19, b19_0, Tm.d, sy, e, loopF, e4, ih, mulX_int, m]
end K63
set_option Elab.async false
set_option linter.all false
set_option maxRecDepth 100000
set_option maxHeartbeats 4000000
namespace K63
open PL
theorem eq_c {i : Nat} (h : i < 2) : eqX (.tup [.tup [.int 2, .int i, .int 0], .tup []]) g_TRUTH = some (.val (.bl false)) := by
  unfold eqX orD eqD
  rw [tru_ok]
  rfl
theorem eq_f {t : Tm} (h : t.dp ≤ 19) : eqX (.tup [.tup [.int 2, .int 2, .int 0], .tup [t.d]]) g_TRUTH = some (.val (.bl false)) := by
  have e : okD (.tup [.tup [.int 2, .int 2, .int 0], .tup [t.d]]) = true := tm_okD (t := .f t) (Nat.succ_le_succ h)
  unfold eqX orD eqD
  rw [tru_ok, e]
  rfl
def wld (n : Nat) (t : Tb) : D := .ins 0 [.int n, .dct t.ks t.vs]
theorem pval (w : PySem.World) {n b : Nat} {t : Tb} {r : List Nat} (hn3 : n ≤ 3) (hr : ∀ x ∈ r, x < n) (hb : r.length = b) (hn : 0 < n) : ∀ (s : Tm) (k : Nat), s.ok b → s.ful n t → s.dp ≤ 10 → callI (T w) (k + s.dp + 2) 1 [.val s.d, .val (wld n t), .val (.dct (rowK r.length) (rowV r))] = .ok (.val (.int (s.ev t r))) [none, none, none]
  | .v i, k, ok, hf, hd => by
    have ok : i < b := ok
    have hi : i < r.length := by omega
    have e := ixX_row hi
    have e2 : ((Tm.v i).ev t r) = ((r[i] : Nat) : Int) := by
      show ((r.getD i 0 : Nat) : Int) = _
      simp [List.getD, hi]
    have ev := isv_i w k i
    rw [callK, e2]
    show (runB (T w 1) _ _) = _
    simp [runB, mSeq, mIfS, mTst, mOp2, PL.m2, oV, oP, mCon, getP, setP, ownP, frzs, frz, ixX_t, ixX_l, at0, at1, at2, at3, ixN_30, ixN_32, cmpD, mPut, intD, addD, lenD, mOp1, intF, modC, divC, mSet, mRet, mTake, maskE, mSlot, mRd, mAnd, mOr, mNot, mTr, truD, mTup, mNil, mCons, mCallF, mCall, xNil, xIn, xIo, fillIn, backIn, mSkip, mDrop, mRetN, isi_i, isi_t, isi_b, lenOk, mLst, mApp, appO, mFor, mRng, aName, mIt, seqOf, eqX_int, eqX_bl, neD_int, T, m1, Tm.d, Tm.dp, e, ev, wld]
  | .c i, k, ok, hf, hd => by
    have ok : i < 2 := ok
    have hc : cnt n (cu i) = 1 := by
      have : i = 0 ∨ i = 1 := by omega
      rcases this with rfl | rfl <;> rfl
    have e := tb_c ok hf
    obtain ⟨e2, _, _⟩ := ful_at hf (i := 0) (by omega)
    have e3 : (Tm.c i).ev t r = (t.val (cu i)).getD 0 0 := rfl
    have e4 : L2.atI ((t.val (cu i)).map D.int) 0 = some (.int ((t.val (cu i)).getD 0 0)) := e2
    have e5 := eq_c ok
    have ev := isv_t w k
    rw [callK, e3]
    simp only [tupI] at e
    simp [runB, mSeq, mIfS, mTst, mOp2, PL.m2, oV, oP, mCon, getP, setP, ownP, frzs, frz, ixX_t, ixX_l, at0, at1, at2, at3, ixN_30, ixN_32, cmpD, mPut, intD, addD, lenD, mOp1, intF, modC, divC, mSet, mRet, mTake, maskE, mSlot, mRd, mAnd, mOr, mNot, mTr, truD, mTup, mNil, mCons, mCallF, mCall, xNil, xIn, xIo, fillIn, backIn, mSkip, mDrop, mRetN, isi_i, isi_t, isi_b, lenOk, mLst, mApp, appO, mFor, mRng, aName, mIt, seqOf, eqX_int, eqX_bl, neD_int, T, m1, Tm.d, Tm.dp, sy, e, loop_nil, e4, e5, ev, wld, ixF00, ixF01]
  | .f s, k, ok, hf, hd => by
    have hd : s.dp + 1 ≤ 10 := hd
    have ih := pval w hn3 hr hb hn s k ok hf.2 (by omega)
    obtain ⟨h1, h2⟩ := ev_rng hr hb hn (s := s) ok hf.2
    obtain ⟨e2, _, _⟩ := ful_at hf.1 (i := (s.ev t r).toNat) (by show _ < n; omega)
    have e := tb_f hf.1
    have e3 : (Tm.f s).ev t r = (t.val .fn).getD (s.ev t r).toNat 0 := rfl
    have e4 : L2.atI ((t.val .fn).map D.int) (s.ev t r) = some (.int ((t.val .fn).getD (s.ev t r).toNat 0)) := by
      rw [← e2]
      congr 1
      omega
    have m := mul0 hn3
    have e5 := eq_f (t := s) (by omega)
    have ev := isv_t w (k + s.dp + 1)
    show callI (T w) (k + s.dp + 2 + 1) 1 _ = _
    rw [callK, e3]
    generalize s.ev t r = x at *
    simp only [tupI] at e
    simp only [wld] at ih
    simp [runB, mSeq, mIfS, mTst, mOp2, PL.m2, oV, oP, mCon, getP, setP, ownP, frzs, frz, ixX_t, ixX_l, at0, at1, at2, at3, ixN_30, ixN_32, cmpD, mPut, intD, addD, lenD, mOp1, intF, modC, divC, mSet, mRet, mTake, maskE, mSlot, mRd, mAnd, mOr, mNot, mTr, truD, mTup, mNil, mCons, mCallF, mCall, xNil, xIn, xIo, fillIn, backIn, mSkip, mDrop, mRetN, isi_i, isi_t, isi_b, lenOk, mLst, mApp, appO, mFor, mRng, aName, mIt, seqOf, eqX_int, eqX_bl, neD_int, T, m1, b1_0, Tm.d, sy, e, loopF, e4, ih, mulX_int, m, e5, ev, wld, ixF00, ixF01]
end K63
set_option Elab.async false
set_option linter.all false
set_option maxRecDepth 100000
set_option maxHeartbeats 4000000
namespace K63
open PL
def Fm.tv (n : Nat) (t : Tb) : List Nat → Fm → Bool
  | _, .q => decide ((t.val .q).getD 0 0 = 1)
  | r, .p s => decide ((t.val .p).getD (s.ev t r).toNat 0 = 1)
  | r, .eq s u => decide (s.ev t r = u.ev t r)
  | r, .no f => !f.tv n t r
  | r, .qu true _ f => (List.range n).any fun i => f.tv n t (r ++ [i])
  | r, .qu false _ f => (List.range n).all fun i => f.tv n t (r ++ [i])
  | r, .bi .a f g => f.tv n t r && g.tv n t r
  | r, .bi .o f g => f.tv n t r || g.tv n t r
  | r, .bi .i f g => !f.tv n t r || g.tv n t r
  | r, .bi .f f g => f.tv n t r == g.tv n t r
def Fm.ful (n : Nat) (t : Tb) : Fm → Prop
  | .q => Ful n t .q
  | .p s => Ful n t .p ∧ s.ful n t
  | .eq s u => s.ful n t ∧ u.ful n t
  | .no f => f.ful n t
  | .qu _ _ f => f.ful n t
  | .bi _ f g => f.ful n t ∧ g.ful n t
theorem dctF_row (w : PySem.World) (r : List Nat) : dctF w (.dct (rowK r.length) (rowV r)) = some (.dct (rowK r.length) (rowV r)) := by
  unfold dctF
  dsimp only
  rw [if_pos (row_hom _)]
theorem row_none (n : Nat) : dIx (rowK n) (.int n) = none := by
  unfold dIx rowK
  rw [List.findIdx?_eq_none_iff]
  intro x hx
  obtain ⟨j, hj, rfl⟩ := List.mem_map.mp hx
  have hj := List.mem_range.mp hj
  have hj2 : ¬ ((j : Nat) : Int) = (n : Int) := by omega
  simp [hj2]
theorem putO_row {r : List Nat} {i : Nat} (h : r.length < 1000) : putO (.dct (rowK r.length) (rowV r)) (.int r.length) (.val (.int i)) = some (.dct (rowK (r ++ [i]).length) (rowV (r ++ [i]))) := by
  have h7 : lenOk ((rowV r).length + 1) = true := lenOk_lt (by unfold rowV; rw [List.length_map]; omega)
  have e : putO (.dct (rowK r.length) (rowV r)) (.int r.length) (.val (.int i)) = (if homK false (rowK r.length) = true then (if lenOk ((rowV r).length + 1) = true then some (.dct (dPut (rowK r.length) (rowV r) (.int r.length) (.int i)).1 (dPut (rowK r.length) (rowV r) (.int r.length) (.int i)).2) else none) else none) := rfl
  rw [e, if_pos (row_hom _), if_pos h7]
  unfold dPut
  rw [row_none]
  simp [rowK, rowV, List.range_succ]
end K63
set_option Elab.async false
set_option linter.all false
set_option maxRecDepth 100000
set_option maxHeartbeats 4000000
namespace K63
open PL
def qw (s : Bool) : D := .str (if s = true then "some" else "all")
theorem q20 (w : PySem.World) (cf cg : Nat → FM) {s : Bool} {i : Nat} {r : List Nat} {f : D} {v : Bool} {z tb x6 x7 x8 : Option O} {n : Nat} {td : D} (hz : z = some (.val (.int n))) (htb : tb = some (.val td)) (h : r.length < 1000)
    (e : cf 20 [.val f, .val (.dct (rowK (r ++ [i]).length) (rowV (r ++ [i]))), .val (.int n), .val td] = .ok (.val (.bl v)) [none, none, none, none]) :
    ∃ y, b20_0 w cf cg [some (.val (.tup [qw s, .int r.length, f])), some (.val (.dct (rowK r.length) (rowV r))), z, tb, some (.val (qw s)), some (.val (.int i)), x6, x7, x8] = (if v = s then .ret (.val (.bl s)) [some (.val (.tup [qw s, .int r.length, f])), some (.val (.dct (rowK r.length) (rowV r))), z, tb, some (.val (qw s)), some (.val (.int i)), y, x7, x8] else .nx [some (.val (.tup [qw s, .int r.length, f])), some (.val (.dct (rowK r.length) (rowV r))), z, tb, some (.val (qw s)), some (.val (.int i)), y, x7, x8]) := by
  subst hz htb
  refine ⟨some (.val (.dct (rowK (r ++ [i]).length) (rowV (r ++ [i])))), ?_⟩
  have e1 := dctF_row w r
  have e2 := putO_row (r := r) (i := i) h
  simp only [List.length_append, List.length_singleton] at e e2 ⊢
  cases s
  · cases v
    · simp [runB, mSeq, mIfS, mTst, mOp2, PL.m2, oV, oP, mCon, getP, setP, ownP, frzs, frz, ixX_t, ixX_l, at0, at1, at2, at3, ixN_30, ixN_32, cmpD, mPut, intD, addD, lenD, mOp1, intF, modC, divC, mSet, mRet, mTake, maskE, mSlot, mRd, mAnd, mOr, mNot, mTr, truD, mTup, mNil, mCons, mCallF, mCall, xNil, xIn, xIo, fillIn, backIn, mSkip, mDrop, mRetN, isi_i, isi_t, isi_b, lenOk, mLst, mApp, appO, mFor, mRng, aName, mIt, seqOf, eqX_int, eqX_bl, neD_int, q_atom_atom, q_atom_equal, q_atom_not, q_atom_and, q_atom_or, q_atom_implies, q_atom_iff, q_atom_all, q_atom_some, q_equal_atom, q_equal_equal, q_equal_not, q_equal_and, q_equal_or, q_equal_implies, q_equal_iff, q_equal_all, q_equal_some, q_not_atom, q_not_equal, q_not_not, q_not_and, q_not_or, q_not_implies, q_not_iff, q_not_all, q_not_some, q_and_atom, q_and_equal, q_and_not, q_and_and, q_and_or, q_and_implies, q_and_iff, q_and_all, q_and_some, q_or_atom, q_or_equal, q_or_not, q_or_and, q_or_or, q_or_implies, q_or_iff, q_or_all, q_or_some, q_implies_atom, q_implies_equal, q_implies_not, q_implies_and, q_implies_or, q_implies_implies, q_implies_iff, q_implies_all, q_implies_some, q_iff_atom, q_iff_equal, q_iff_not, q_iff_and, q_iff_or, q_iff_implies, q_iff_iff, q_iff_all, q_iff_some, q_all_atom, q_all_equal, q_all_not, q_all_and, q_all_or, q_all_implies, q_all_iff, q_all_all, q_all_some, q_some_atom, q_some_equal, q_some_not, q_some_and, q_some_or, q_some_implies, q_some_iff, q_some_all, q_some_some, b20_0, qw, e1, e2, e]
    · simp [runB, mSeq, mIfS, mTst, mOp2, PL.m2, oV, oP, mCon, getP, setP, ownP, frzs, frz, ixX_t, ixX_l, at0, at1, at2, at3, ixN_30, ixN_32, cmpD, mPut, intD, addD, lenD, mOp1, intF, modC, divC, mSet, mRet, mTake, maskE, mSlot, mRd, mAnd, mOr, mNot, mTr, truD, mTup, mNil, mCons, mCallF, mCall, xNil, xIn, xIo, fillIn, backIn, mSkip, mDrop, mRetN, isi_i, isi_t, isi_b, lenOk, mLst, mApp, appO, mFor, mRng, aName, mIt, seqOf, eqX_int, eqX_bl, neD_int, q_atom_atom, q_atom_equal, q_atom_not, q_atom_and, q_atom_or, q_atom_implies, q_atom_iff, q_atom_all, q_atom_some, q_equal_atom, q_equal_equal, q_equal_not, q_equal_and, q_equal_or, q_equal_implies, q_equal_iff, q_equal_all, q_equal_some, q_not_atom, q_not_equal, q_not_not, q_not_and, q_not_or, q_not_implies, q_not_iff, q_not_all, q_not_some, q_and_atom, q_and_equal, q_and_not, q_and_and, q_and_or, q_and_implies, q_and_iff, q_and_all, q_and_some, q_or_atom, q_or_equal, q_or_not, q_or_and, q_or_or, q_or_implies, q_or_iff, q_or_all, q_or_some, q_implies_atom, q_implies_equal, q_implies_not, q_implies_and, q_implies_or, q_implies_implies, q_implies_iff, q_implies_all, q_implies_some, q_iff_atom, q_iff_equal, q_iff_not, q_iff_and, q_iff_or, q_iff_implies, q_iff_iff, q_iff_all, q_iff_some, q_all_atom, q_all_equal, q_all_not, q_all_and, q_all_or, q_all_implies, q_all_iff, q_all_all, q_all_some, q_some_atom, q_some_equal, q_some_not, q_some_and, q_some_or, q_some_implies, q_some_iff, q_some_all, q_some_some, b20_0, qw, e1, e2, e]
  · cases v
    · simp [runB, mSeq, mIfS, mTst, mOp2, PL.m2, oV, oP, mCon, getP, setP, ownP, frzs, frz, ixX_t, ixX_l, at0, at1, at2, at3, ixN_30, ixN_32, cmpD, mPut, intD, addD, lenD, mOp1, intF, modC, divC, mSet, mRet, mTake, maskE, mSlot, mRd, mAnd, mOr, mNot, mTr, truD, mTup, mNil, mCons, mCallF, mCall, xNil, xIn, xIo, fillIn, backIn, mSkip, mDrop, mRetN, isi_i, isi_t, isi_b, lenOk, mLst, mApp, appO, mFor, mRng, aName, mIt, seqOf, eqX_int, eqX_bl, neD_int, q_atom_atom, q_atom_equal, q_atom_not, q_atom_and, q_atom_or, q_atom_implies, q_atom_iff, q_atom_all, q_atom_some, q_equal_atom, q_equal_equal, q_equal_not, q_equal_and, q_equal_or, q_equal_implies, q_equal_iff, q_equal_all, q_equal_some, q_not_atom, q_not_equal, q_not_not, q_not_and, q_not_or, q_not_implies, q_not_iff, q_not_all, q_not_some, q_and_atom, q_and_equal, q_and_not, q_and_and, q_and_or, q_and_implies, q_and_iff, q_and_all, q_and_some, q_or_atom, q_or_equal, q_or_not, q_or_and, q_or_or, q_or_implies, q_or_iff, q_or_all, q_or_some, q_implies_atom, q_implies_equal, q_implies_not, q_implies_and, q_implies_or, q_implies_implies, q_implies_iff, q_implies_all, q_implies_some, q_iff_atom, q_iff_equal, q_iff_not, q_iff_and, q_iff_or, q_iff_implies, q_iff_iff, q_iff_all, q_iff_some, q_all_atom, q_all_equal, q_all_not, q_all_and, q_all_or, q_all_implies, q_all_iff, q_all_all, q_all_some, q_some_atom, q_some_equal, q_some_not, q_some_and, q_some_or, q_some_implies, q_some_iff, q_some_all, q_some_some, b20_0, qw, e1, e2, e]
    · simp [runB, mSeq, mIfS, mTst, mOp2, PL.m2, oV, oP, mCon, getP, setP, ownP, frzs, frz, ixX_t, ixX_l, at0, at1, at2, at3, ixN_30, ixN_32, cmpD, mPut, intD, addD, lenD, mOp1, intF, modC, divC, mSet, mRet, mTake, maskE, mSlot, mRd, mAnd, mOr, mNot, mTr, truD, mTup, mNil, mCons, mCallF, mCall, xNil, xIn, xIo, fillIn, backIn, mSkip, mDrop, mRetN, isi_i, isi_t, isi_b, lenOk, mLst, mApp, appO, mFor, mRng, aName, mIt, seqOf, eqX_int, eqX_bl, neD_int, q_atom_atom, q_atom_equal, q_atom_not, q_atom_and, q_atom_or, q_atom_implies, q_atom_iff, q_atom_all, q_atom_some, q_equal_atom, q_equal_equal, q_equal_not, q_equal_and, q_equal_or, q_equal_implies, q_equal_iff, q_equal_all, q_equal_some, q_not_atom, q_not_equal, q_not_not, q_not_and, q_not_or, q_not_implies, q_not_iff, q_not_all, q_not_some, q_and_atom, q_and_equal, q_and_not, q_and_and, q_and_or, q_and_implies, q_and_iff, q_and_all, q_and_some, q_or_atom, q_or_equal, q_or_not, q_or_and, q_or_or, q_or_implies, q_or_iff, q_or_all, q_or_some, q_implies_atom, q_implies_equal, q_implies_not, q_implies_and, q_implies_or, q_implies_implies, q_implies_iff, q_implies_all, q_implies_some, q_iff_atom, q_iff_equal, q_iff_not, q_iff_and, q_iff_or, q_iff_implies, q_iff_iff, q_iff_all, q_iff_some, q_all_atom, q_all_equal, q_all_not, q_all_and, q_all_or, q_all_implies, q_all_iff, q_all_all, q_all_some, q_some_atom, q_some_equal, q_some_not, q_some_and, q_some_or, q_some_implies, q_some_iff, q_some_all, q_some_some, b20_0, qw, e1, e2, e]
theorem q20l (w : PySem.World) (cf cg : Nat → FM) {s : Bool} {r : List Nat} {f : D} {V : Nat → Bool} {z tb x7 x8 : Option O} {n : Nat} {td : D} (hz : z = some (.val (.int n))) (htb : tb = some (.val td)) (h : r.length < 1000)
    (e : ∀ i, i < n → cf 20 [.val f, .val (.dct (rowK (r ++ [i]).length) (rowV (r ++ [i]))), .val (.int n), .val td] = .ok (.val (.bl (V i))) [none, none, none, none]) :
    ∀ (js : List Nat), (∀ j ∈ js, j < n) → ∀ x5 x6, ∃ y5 y6, loopF (aName 5) (b20_0 w cf cg) (js.map fun i => D.int (i : Nat)) [some (.val (.tup [qw s, .int r.length, f])), some (.val (.dct (rowK r.length) (rowV r))), z, tb, some (.val (qw s)), x5, x6, x7, x8] = (if js.any (fun i => V i == s) = true then .ret (.val (.bl s)) [some (.val (.tup [qw s, .int r.length, f])), some (.val (.dct (rowK r.length) (rowV r))), z, tb, some (.val (qw s)), y5, y6, x7, x8] else .nx [some (.val (.tup [qw s, .int r.length, f])), some (.val (.dct (rowK r.length) (rowV r))), z, tb, some (.val (qw s)), y5, y6, x7, x8])
  | [], _, x5, x6 => ⟨x5, x6, rfl⟩
  | j :: js, hj, x5, x6 => by
    obtain ⟨y, hy⟩ := q20 w cf cg (s := s) (i := j) (x6 := x6) (x7 := x7) (x8 := x8) hz htb h (e j (hj j (List.mem_cons_self ..)))
    rw [List.map_cons, loop_cons (r1 := [some (.val (.tup [qw s, .int r.length, f])), some (.val (.dct (rowK r.length) (rowV r))), z, tb, some (.val (qw s)), some (.val (.int j)), x6, x7, x8]) rfl, hy]
    by_cases hv : V j = s
    · refine ⟨some (.val (.int j)), y, ?_⟩
      have : (V j == s) = true := by simp [hv]
      rw [if_pos hv, List.any_cons, this, Bool.true_or]
      rfl
    · obtain ⟨y5, y6, ih⟩ := q20l w cf cg hz htb h e js (fun j m => hj j (List.mem_cons_of_mem _ m)) (some (.val (.int j))) y
      refine ⟨y5, y6, ?_⟩
      have : (V j == s) = false := by simp [hv]
      rw [if_neg hv, List.any_cons, this, Bool.false_or]
      exact ih
theorem rngD_map (n : Nat) : rngD n = (List.range n).map fun i => D.int (i : Nat) := rfl
theorem lvq (w : PySem.World) (k : Nat) {n : Nat} {t : Tb} (h : Ful n t .q) (row : D) : callI (T w) (k + 1) 19 [.val (.tup [sy 1 4, .tup []]), .val row, .val (.int n), .val (.dct t.ks t.vs)] = .ok (.val (.int ((t.val .q).getD 0 0))) [none, none, none, none] := by
  have e : ixX (.dct t.ks t.vs) (.tup [.tup [.int 1, .int 4, .int 0], .int 0]) = some (.val (tupI (t.val .q))) := by
    have := ixX_tb .q t
    rw [ful_get h] at this
    exact this
  obtain ⟨e2, _, _⟩ := ful_at h (i := 0) (show 0 < 1 by decide)
  have e4 : L2.atI ((t.val .q).map D.int) 0 = some (.int ((t.val .q).getD 0 0)) := e2
  rw [callK]
  simp only [tupI] at e
  simp [runB, mSeq, mIfS, mTst, mOp2, PL.m2, oV, oP, mCon, getP, setP, ownP, frzs, frz, ixX_t, ixX_l, at0, at1, at2, at3, ixN_30, ixN_32, cmpD, mPut, intD, addD, lenD, mOp1, intF, modC, divC, mSet, mRet, mTake, maskE, mSlot, mRd, mAnd, mOr, mNot, mTr, truD, mTup, mNil, mCons, mCallF, mCall, xNil, xIn, xIo, fillIn, backIn, mSkip, mDrop, mRetN, isi_i, isi_t, isi_b, lenOk, mLst, mApp, appO, mFor, mRng, aName, mIt, seqOf, eqX_int, eqX_bl, neD_int, T, m19, sy, e, loop_nil, e4]
theorem lvp (w : PySem.World) {n b : Nat} {t : Tb} {r : List Nat} (hn3 : n ≤ 3) (hr : ∀ x ∈ r, x < n) (hb : r.length = b) (hn : 0 < n) {s : Tm} (k : Nat) (ok : s.ok b) (hf : s.ful n t) (hp : Ful n t .p) : callI (T w) (k + s.dp + 2) 19 [.val (.tup [sy 1 5, .tup [s.d]]), .val (.dct (rowK r.length) (rowV r)), .val (.int n), .val (.dct t.ks t.vs)] = .ok (.val (.int ((t.val .p).getD (s.ev t r).toNat 0))) [none, none, none, none] := by
  have ih := lval w hn3 hr hb hn s k ok hf
  obtain ⟨h1, h2⟩ := ev_rng hr hb hn (s := s) ok hf
  obtain ⟨e2, _, _⟩ := ful_at hp (i := (s.ev t r).toNat) (by show _ < n; omega)
  have e : ixX (.dct t.ks t.vs) (.tup [.tup [.int 1, .int 5, .int 0], .int 1]) = some (.val (tupI (t.val .p))) := by
    have := ixX_tb .p t
    rw [ful_get hp] at this
    exact this
  have e4 : L2.atI ((t.val .p).map D.int) (s.ev t r) = some (.int ((t.val .p).getD (s.ev t r).toNat 0)) := by
    rw [← e2]
    congr 1
    omega
  have m := mul0 hn3
  rw [callK]
  generalize s.ev t r = x at *
  simp only [tupI] at e
  simp [runB, mSeq, mIfS, mTst, mOp2, PL.m2, oV, oP, mCon, getP, setP, ownP, frzs, frz, ixX_t, ixX_l, at0, at1, at2, at3, ixN_30, ixN_32, cmpD, mPut, intD, addD, lenD, mOp1, intF, modC, divC, mSet, mRet, mTake, maskE, mSlot, mRd, mAnd, mOr, mNot, mTr, truD, mTup, mNil, mCons, mCallF, mCall, xNil, xIn, xIo, fillIn, backIn, mSkip, mDrop, mRetN, isi_i, isi_t, isi_b, lenOk, mLst, mApp, appO, mFor, mRng, aName, mIt, seqOf, eqX_int, eqX_bl, neD_int, T, m19, b19_0, sy, e, loopF, e4, ih, mulX_int, m]
end K63
set_option Elab.async false
set_option linter.all false
set_option maxRecDepth 100000
set_option maxHeartbeats 4000000
namespace K63
open PL
def isRet (o : O) : Out → Prop
  | .ret o' _ => o' = o
  | _ => False
theorem mask_nil : ∀ (p i : Nat) (r : Env), maskE [] i p r = List.replicate p none
  | 0, i, r => rfl
  | p + 1, i, r => by
    rw [maskE, mask_nil p (i + 1) r.tail]
    rfl
theorem run_ret {n p : Nat} {f m : (Nat → FM) → (Nat → FM) → SM} {cf cg : Nat → FM} {os : List O} {o : O} (env : Env) (h1 : os.length = p) (h2 : os.map some ++ List.replicate (n - p) none = env) (h : isRet o (m cf cg env)) : runB ⟨n, p, [], f⟩ (m cf cg) os = .ok o (List.replicate p none) := by
  rw [run_eq env h1 h2]
  unfold isRet at h
  unfold outF
  cases e : m cf cg env <;> rw [e] at h
  case ret o' r =>
    dsimp only at h ⊢
    rw [h, mask_nil]
  all_goals exact h.elim
def Bo.ev : Bo → Bool → Bool → Bool
  | .a, x, y => x && y
  | .o, x, y => x || y
  | .i, x, y => !x || y
  | .f, x, y => x == y
theorem tv_bi {n : Nat} {t : Tb} {r : List Nat} {o : Bo} {f g : Fm} : (Fm.bi o f g).tv n t r = o.ev (f.tv n t r) (g.tv n t r) := by cases o <;> rfl
section
variable (w : PySem.World) (cf cg : Nat → FM) {row nn td : D}
theorem h20_atom {x : D} {v : Int} (e : cf 19 [.val x, .val row, .val nn, .val td] = .ok (.val (.int v)) [none, none, none, none]) : isRet (.val (.bl (decide (v = 1)))) (m20 w cf cg [some (.val (.tup [.str "atom", x])), some (.val row), some (.val nn), some (.val td), none, none, none, none, none]) := by
  simp [runB, mSeq, mIfS, mTst, mOp2, PL.m2, oV, oP, mCon, getP, setP, ownP, frzs, frz, ixX_t, ixX_l, at0, at1, at2, at3, ixN_30, ixN_32, cmpD, mPut, intD, addD, lenD, mOp1, intF, modC, divC, mSet, mRet, mTake, maskE, mSlot, mRd, mAnd, mOr, mNot, mTr, truD, mTup, mNil, mCons, mCallF, mCall, xNil, xIn, xIo, fillIn, backIn, mSkip, mDrop, mRetN, isi_i, isi_t, isi_b, lenOk, mLst, mApp, appO, mFor, mRng, aName, mIt, seqOf, eqX_int, eqX_bl, neD_int, q_atom_atom, q_atom_equal, q_atom_not, q_atom_and, q_atom_or, q_atom_implies, q_atom_iff, q_atom_all, q_atom_some, q_equal_atom, q_equal_equal, q_equal_not, q_equal_and, q_equal_or, q_equal_implies, q_equal_iff, q_equal_all, q_equal_some, q_not_atom, q_not_equal, q_not_not, q_not_and, q_not_or, q_not_implies, q_not_iff, q_not_all, q_not_some, q_and_atom, q_and_equal, q_and_not, q_and_and, q_and_or, q_and_implies, q_and_iff, q_and_all, q_and_some, q_or_atom, q_or_equal, q_or_not, q_or_and, q_or_or, q_or_implies, q_or_iff, q_or_all, q_or_some, q_implies_atom, q_implies_equal, q_implies_not, q_implies_and, q_implies_or, q_implies_implies, q_implies_iff, q_implies_all, q_implies_some, q_iff_atom, q_iff_equal, q_iff_not, q_iff_and, q_iff_or, q_iff_implies, q_iff_iff, q_iff_all, q_iff_some, q_all_atom, q_all_equal, q_all_not, q_all_and, q_all_or, q_all_implies, q_all_iff, q_all_all, q_all_some, q_some_atom, q_some_equal, q_some_not, q_some_and, q_some_or, q_some_implies, q_some_iff, q_some_all, q_some_some, m20, e, isRet]
theorem h20_eq {x y : D} {v u : Int} (e : cf 19 [.val x, .val row, .val nn, .val td] = .ok (.val (.int v)) [none, none, none, none]) (e2 : cf 19 [.val y, .val row, .val nn, .val td] = .ok (.val (.int u)) [none, none, none, none]) : isRet (.val (.bl (decide (v = u)))) (m20 w cf cg [some (.val (.tup [.str "equal", x, y])), some (.val row), some (.val nn), some (.val td), none, none, none, none, none]) := by
  simp [runB, mSeq, mIfS, mTst, mOp2, PL.m2, oV, oP, mCon, getP, setP, ownP, frzs, frz, ixX_t, ixX_l, at0, at1, at2, at3, ixN_30, ixN_32, cmpD, mPut, intD, addD, lenD, mOp1, intF, modC, divC, mSet, mRet, mTake, maskE, mSlot, mRd, mAnd, mOr, mNot, mTr, truD, mTup, mNil, mCons, mCallF, mCall, xNil, xIn, xIo, fillIn, backIn, mSkip, mDrop, mRetN, isi_i, isi_t, isi_b, lenOk, mLst, mApp, appO, mFor, mRng, aName, mIt, seqOf, eqX_int, eqX_bl, neD_int, q_atom_atom, q_atom_equal, q_atom_not, q_atom_and, q_atom_or, q_atom_implies, q_atom_iff, q_atom_all, q_atom_some, q_equal_atom, q_equal_equal, q_equal_not, q_equal_and, q_equal_or, q_equal_implies, q_equal_iff, q_equal_all, q_equal_some, q_not_atom, q_not_equal, q_not_not, q_not_and, q_not_or, q_not_implies, q_not_iff, q_not_all, q_not_some, q_and_atom, q_and_equal, q_and_not, q_and_and, q_and_or, q_and_implies, q_and_iff, q_and_all, q_and_some, q_or_atom, q_or_equal, q_or_not, q_or_and, q_or_or, q_or_implies, q_or_iff, q_or_all, q_or_some, q_implies_atom, q_implies_equal, q_implies_not, q_implies_and, q_implies_or, q_implies_implies, q_implies_iff, q_implies_all, q_implies_some, q_iff_atom, q_iff_equal, q_iff_not, q_iff_and, q_iff_or, q_iff_implies, q_iff_iff, q_iff_all, q_iff_some, q_all_atom, q_all_equal, q_all_not, q_all_and, q_all_or, q_all_implies, q_all_iff, q_all_all, q_all_some, q_some_atom, q_some_equal, q_some_not, q_some_and, q_some_or, q_some_implies, q_some_iff, q_some_all, q_some_some, m20, e, e2, isRet]
theorem h20_no {x : D} {v : Bool} (e : cf 20 [.val x, .val row, .val nn, .val td] = .ok (.val (.bl v)) [none, none, none, none]) : isRet (.val (.bl (!v))) (m20 w cf cg [some (.val (.tup [.str "not", x])), some (.val row), some (.val nn), some (.val td), none, none, none, none, none]) := by
  cases v <;> simp [runB, mSeq, mIfS, mTst, mOp2, PL.m2, oV, oP, mCon, getP, setP, ownP, frzs, frz, ixX_t, ixX_l, at0, at1, at2, at3, ixN_30, ixN_32, cmpD, mPut, intD, addD, lenD, mOp1, intF, modC, divC, mSet, mRet, mTake, maskE, mSlot, mRd, mAnd, mOr, mNot, mTr, truD, mTup, mNil, mCons, mCallF, mCall, xNil, xIn, xIo, fillIn, backIn, mSkip, mDrop, mRetN, isi_i, isi_t, isi_b, lenOk, mLst, mApp, appO, mFor, mRng, aName, mIt, seqOf, eqX_int, eqX_bl, neD_int, q_atom_atom, q_atom_equal, q_atom_not, q_atom_and, q_atom_or, q_atom_implies, q_atom_iff, q_atom_all, q_atom_some, q_equal_atom, q_equal_equal, q_equal_not, q_equal_and, q_equal_or, q_equal_implies, q_equal_iff, q_equal_all, q_equal_some, q_not_atom, q_not_equal, q_not_not, q_not_and, q_not_or, q_not_implies, q_not_iff, q_not_all, q_not_some, q_and_atom, q_and_equal, q_and_not, q_and_and, q_and_or, q_and_implies, q_and_iff, q_and_all, q_and_some, q_or_atom, q_or_equal, q_or_not, q_or_and, q_or_or, q_or_implies, q_or_iff, q_or_all, q_or_some, q_implies_atom, q_implies_equal, q_implies_not, q_implies_and, q_implies_or, q_implies_implies, q_implies_iff, q_implies_all, q_implies_some, q_iff_atom, q_iff_equal, q_iff_not, q_iff_and, q_iff_or, q_iff_implies, q_iff_iff, q_iff_all, q_iff_some, q_all_atom, q_all_equal, q_all_not, q_all_and, q_all_or, q_all_implies, q_all_iff, q_all_all, q_all_some, q_some_atom, q_some_equal, q_some_not, q_some_and, q_some_or, q_some_implies, q_some_iff, q_some_all, q_some_some, m20, e, isRet, mNotV]
theorem h20_bi {o : Bo} {x y : D} {v u : Bool} (e : cf 20 [.val x, .val row, .val nn, .val td] = .ok (.val (.bl v)) [none, none, none, none]) (e2 : cf 20 [.val y, .val row, .val nn, .val td] = .ok (.val (.bl u)) [none, none, none, none]) : isRet (.val (.bl (o.ev v u))) (m20 w cf cg [some (.val (.tup [.str o.s, x, y])), some (.val row), some (.val nn), some (.val td), none, none, none, none, none]) := by
  cases o <;> cases v <;> cases u <;> simp [runB, mSeq, mIfS, mTst, mOp2, PL.m2, oV, oP, mCon, getP, setP, ownP, frzs, frz, ixX_t, ixX_l, at0, at1, at2, at3, ixN_30, ixN_32, cmpD, mPut, intD, addD, lenD, mOp1, intF, modC, divC, mSet, mRet, mTake, maskE, mSlot, mRd, mAnd, mOr, mNot, mTr, truD, mTup, mNil, mCons, mCallF, mCall, xNil, xIn, xIo, fillIn, backIn, mSkip, mDrop, mRetN, isi_i, isi_t, isi_b, lenOk, mLst, mApp, appO, mFor, mRng, aName, mIt, seqOf, eqX_int, eqX_bl, neD_int, q_atom_atom, q_atom_equal, q_atom_not, q_atom_and, q_atom_or, q_atom_implies, q_atom_iff, q_atom_all, q_atom_some, q_equal_atom, q_equal_equal, q_equal_not, q_equal_and, q_equal_or, q_equal_implies, q_equal_iff, q_equal_all, q_equal_some, q_not_atom, q_not_equal, q_not_not, q_not_and, q_not_or, q_not_implies, q_not_iff, q_not_all, q_not_some, q_and_atom, q_and_equal, q_and_not, q_and_and, q_and_or, q_and_implies, q_and_iff, q_and_all, q_and_some, q_or_atom, q_or_equal, q_or_not, q_or_and, q_or_or, q_or_implies, q_or_iff, q_or_all, q_or_some, q_implies_atom, q_implies_equal, q_implies_not, q_implies_and, q_implies_or, q_implies_implies, q_implies_iff, q_implies_all, q_implies_some, q_iff_atom, q_iff_equal, q_iff_not, q_iff_and, q_iff_or, q_iff_implies, q_iff_iff, q_iff_all, q_iff_some, q_all_atom, q_all_equal, q_all_not, q_all_and, q_all_or, q_all_implies, q_all_iff, q_all_all, q_all_some, q_some_atom, q_some_equal, q_some_not, q_some_and, q_some_or, q_some_implies, q_some_iff, q_some_all, q_some_some, m20, e, e2, isRet, mNotV, mAndV, mOrV, Bo.s, Bo.ev]
end
theorem rng_ok {a : OM} {n : Nat} (hn : n < 1000000) {r r1 : Env} (e : a r = .ok (.int n) r1) : mRng a r = .ok (rngD n) r1 := by
  unfold mRng
  rw [e]
  dsimp only
  have h1 : decide (-(2 ^ 62) ≤ (n : Int)) = true := decide_eq_true (by omega)
  have h2 : decide ((n : Int) < 2 ^ 62) = true := decide_eq_true (by omega)
  rw [h1, h2]
  rfl
theorem for_ok {it : Env → R (List D)} {a : AM} {b : SM} {r r1 : Env} {ds : List D} (e : it r = .ok ds r1) : mFor it a b r = loopF a b ds r1 := by
  unfold mFor
  rw [e]
theorem mSeq_nx {m ms : SM} {r r1 : Env} (h : m r = .nx r1) : mSeq m ms r = ms r1 := by
  unfold mSeq; rw [h]
theorem qw_all : qw false = .str "all" := rfl
theorem qw_some : qw true = .str "some" := rfl
section
variable {row td ln f nn : D} {s : Bool} {y5 y6 : Option O} {L Z : SM}
theorem z20_nx (hy : L [some (.val (.tup [qw s, ln, f])), some (.val row), some (.val nn), some (.val td), some (.val (qw s)), none, none, none, none] = .nx [some (.val (.tup [qw s, ln, f])), some (.val row), some (.val nn), some (.val td), some (.val (qw s)), y5, y6, none, none]) : isRet (.val (.bl (!s))) (mSeq (mIfS (mOr (mTst (mOp2 eqX (oP FID 4 []) (oV (mCon (.str "all"))))) (mTst (mOp2 eqX (oP FID 4 []) (oV (mCon (.str "some")))))) (mSeq L
  (mRet (mOp2 eqX (oP FID 4 []) (oV (mCon (.str "all")))))) mSkip) Z [some (.val (.tup [qw s, ln, f])), some (.val row), some (.val nn), some (.val td), some (.val (qw s)), none, none, none, none]) := by
  cases s
  · rw [qw_all] at *
    simp [runB, mSeq, mIfS, mTst, mOp2, PL.m2, oV, oP, mCon, getP, setP, ownP, frzs, frz, ixX_t, ixX_l, at0, at1, at2, at3, ixN_30, ixN_32, cmpD, mPut, intD, addD, lenD, mOp1, intF, modC, divC, mSet, mRet, mTake, maskE, mSlot, mRd, mAnd, mOr, mNot, mTr, truD, mTup, mNil, mCons, mCallF, mCall, xNil, xIn, xIo, fillIn, backIn, mSkip, mDrop, mRetN, isi_i, isi_t, isi_b, lenOk, mLst, mApp, appO, mFor, mRng, aName, mIt, seqOf, eqX_int, eqX_bl, neD_int, q_atom_atom, q_atom_equal, q_atom_not, q_atom_and, q_atom_or, q_atom_implies, q_atom_iff, q_atom_all, q_atom_some, q_equal_atom, q_equal_equal, q_equal_not, q_equal_and, q_equal_or, q_equal_implies, q_equal_iff, q_equal_all, q_equal_some, q_not_atom, q_not_equal, q_not_not, q_not_and, q_not_or, q_not_implies, q_not_iff, q_not_all, q_not_some, q_and_atom, q_and_equal, q_and_not, q_and_and, q_and_or, q_and_implies, q_and_iff, q_and_all, q_and_some, q_or_atom, q_or_equal, q_or_not, q_or_and, q_or_or, q_or_implies, q_or_iff, q_or_all, q_or_some, q_implies_atom, q_implies_equal, q_implies_not, q_implies_and, q_implies_or, q_implies_implies, q_implies_iff, q_implies_all, q_implies_some, q_iff_atom, q_iff_equal, q_iff_not, q_iff_and, q_iff_or, q_iff_implies, q_iff_iff, q_iff_all, q_iff_some, q_all_atom, q_all_equal, q_all_not, q_all_and, q_all_or, q_all_implies, q_all_iff, q_all_all, q_all_some, q_some_atom, q_some_equal, q_some_not, q_some_and, q_some_or, q_some_implies, q_some_iff, q_some_all, q_some_some, hy, isRet]
  · rw [qw_some] at *
    simp [runB, mSeq, mIfS, mTst, mOp2, PL.m2, oV, oP, mCon, getP, setP, ownP, frzs, frz, ixX_t, ixX_l, at0, at1, at2, at3, ixN_30, ixN_32, cmpD, mPut, intD, addD, lenD, mOp1, intF, modC, divC, mSet, mRet, mTake, maskE, mSlot, mRd, mAnd, mOr, mNot, mTr, truD, mTup, mNil, mCons, mCallF, mCall, xNil, xIn, xIo, fillIn, backIn, mSkip, mDrop, mRetN, isi_i, isi_t, isi_b, lenOk, mLst, mApp, appO, mFor, mRng, aName, mIt, seqOf, eqX_int, eqX_bl, neD_int, q_atom_atom, q_atom_equal, q_atom_not, q_atom_and, q_atom_or, q_atom_implies, q_atom_iff, q_atom_all, q_atom_some, q_equal_atom, q_equal_equal, q_equal_not, q_equal_and, q_equal_or, q_equal_implies, q_equal_iff, q_equal_all, q_equal_some, q_not_atom, q_not_equal, q_not_not, q_not_and, q_not_or, q_not_implies, q_not_iff, q_not_all, q_not_some, q_and_atom, q_and_equal, q_and_not, q_and_and, q_and_or, q_and_implies, q_and_iff, q_and_all, q_and_some, q_or_atom, q_or_equal, q_or_not, q_or_and, q_or_or, q_or_implies, q_or_iff, q_or_all, q_or_some, q_implies_atom, q_implies_equal, q_implies_not, q_implies_and, q_implies_or, q_implies_implies, q_implies_iff, q_implies_all, q_implies_some, q_iff_atom, q_iff_equal, q_iff_not, q_iff_and, q_iff_or, q_iff_implies, q_iff_iff, q_iff_all, q_iff_some, q_all_atom, q_all_equal, q_all_not, q_all_and, q_all_or, q_all_implies, q_all_iff, q_all_all, q_all_some, q_some_atom, q_some_equal, q_some_not, q_some_and, q_some_or, q_some_implies, q_some_iff, q_some_all, q_some_some, hy, isRet]
theorem z20_ret {q : Bool} (hy : L [some (.val (.tup [qw s, ln, f])), some (.val row), some (.val nn), some (.val td), some (.val (qw s)), none, none, none, none] = .ret (.val (.bl q)) [some (.val (.tup [qw s, ln, f])), some (.val row), some (.val nn), some (.val td), some (.val (qw s)), y5, y6, none, none]) : isRet (.val (.bl q)) (mSeq (mIfS (mOr (mTst (mOp2 eqX (oP FID 4 []) (oV (mCon (.str "all"))))) (mTst (mOp2 eqX (oP FID 4 []) (oV (mCon (.str "some")))))) (mSeq L
  (mRet (mOp2 eqX (oP FID 4 []) (oV (mCon (.str "all")))))) mSkip) Z [some (.val (.tup [qw s, ln, f])), some (.val row), some (.val nn), some (.val td), some (.val (qw s)), none, none, none, none]) := by
  cases s
  · rw [qw_all] at *
    simp [runB, mSeq, mIfS, mTst, mOp2, PL.m2, oV, oP, mCon, getP, setP, ownP, frzs, frz, ixX_t, ixX_l, at0, at1, at2, at3, ixN_30, ixN_32, cmpD, mPut, intD, addD, lenD, mOp1, intF, modC, divC, mSet, mRet, mTake, maskE, mSlot, mRd, mAnd, mOr, mNot, mTr, truD, mTup, mNil, mCons, mCallF, mCall, xNil, xIn, xIo, fillIn, backIn, mSkip, mDrop, mRetN, isi_i, isi_t, isi_b, lenOk, mLst, mApp, appO, mFor, mRng, aName, mIt, seqOf, eqX_int, eqX_bl, neD_int, q_atom_atom, q_atom_equal, q_atom_not, q_atom_and, q_atom_or, q_atom_implies, q_atom_iff, q_atom_all, q_atom_some, q_equal_atom, q_equal_equal, q_equal_not, q_equal_and, q_equal_or, q_equal_implies, q_equal_iff, q_equal_all, q_equal_some, q_not_atom, q_not_equal, q_not_not, q_not_and, q_not_or, q_not_implies, q_not_iff, q_not_all, q_not_some, q_and_atom, q_and_equal, q_and_not, q_and_and, q_and_or, q_and_implies, q_and_iff, q_and_all, q_and_some, q_or_atom, q_or_equal, q_or_not, q_or_and, q_or_or, q_or_implies, q_or_iff, q_or_all, q_or_some, q_implies_atom, q_implies_equal, q_implies_not, q_implies_and, q_implies_or, q_implies_implies, q_implies_iff, q_implies_all, q_implies_some, q_iff_atom, q_iff_equal, q_iff_not, q_iff_and, q_iff_or, q_iff_implies, q_iff_iff, q_iff_all, q_iff_some, q_all_atom, q_all_equal, q_all_not, q_all_and, q_all_or, q_all_implies, q_all_iff, q_all_all, q_all_some, q_some_atom, q_some_equal, q_some_not, q_some_and, q_some_or, q_some_implies, q_some_iff, q_some_all, q_some_some, hy, isRet]
  · rw [qw_some] at *
    simp [runB, mSeq, mIfS, mTst, mOp2, PL.m2, oV, oP, mCon, getP, setP, ownP, frzs, frz, ixX_t, ixX_l, at0, at1, at2, at3, ixN_30, ixN_32, cmpD, mPut, intD, addD, lenD, mOp1, intF, modC, divC, mSet, mRet, mTake, maskE, mSlot, mRd, mAnd, mOr, mNot, mTr, truD, mTup, mNil, mCons, mCallF, mCall, xNil, xIn, xIo, fillIn, backIn, mSkip, mDrop, mRetN, isi_i, isi_t, isi_b, lenOk, mLst, mApp, appO, mFor, mRng, aName, mIt, seqOf, eqX_int, eqX_bl, neD_int, q_atom_atom, q_atom_equal, q_atom_not, q_atom_and, q_atom_or, q_atom_implies, q_atom_iff, q_atom_all, q_atom_some, q_equal_atom, q_equal_equal, q_equal_not, q_equal_and, q_equal_or, q_equal_implies, q_equal_iff, q_equal_all, q_equal_some, q_not_atom, q_not_equal, q_not_not, q_not_and, q_not_or, q_not_implies, q_not_iff, q_not_all, q_not_some, q_and_atom, q_and_equal, q_and_not, q_and_and, q_and_or, q_and_implies, q_and_iff, q_and_all, q_and_some, q_or_atom, q_or_equal, q_or_not, q_or_and, q_or_or, q_or_implies, q_or_iff, q_or_all, q_or_some, q_implies_atom, q_implies_equal, q_implies_not, q_implies_and, q_implies_or, q_implies_implies, q_implies_iff, q_implies_all, q_implies_some, q_iff_atom, q_iff_equal, q_iff_not, q_iff_and, q_iff_or, q_iff_implies, q_iff_iff, q_iff_all, q_iff_some, q_all_atom, q_all_equal, q_all_not, q_all_and, q_all_or, q_all_implies, q_all_iff, q_all_all, q_all_some, q_some_atom, q_some_equal, q_some_not, q_some_and, q_some_or, q_some_implies, q_some_iff, q_some_all, q_some_some, hy, isRet]
/-- the steps ahead of the quantifier -/
theorem z20_pre {w : PySem.World} {cf cg : Nat → FM} : ∃ Z, m20 w cf cg [some (.val (.tup [qw s, ln, f])), some (.val row), some (.val nn), some (.val td), none, none, none, none, none] = mSeq (mIfS (mOr (mTst (mOp2 eqX (oP FID 4 []) (oV (mCon (.str "all"))))) (mTst (mOp2 eqX (oP FID 4 []) (oV (mCon (.str "some")))))) (mSeq (mFor (mRng (oP FID 2 [])) (aName 5) (b20_0 w cf cg))
  (mRet (mOp2 eqX (oP FID 4 []) (oV (mCon (.str "all")))))) mSkip) Z [some (.val (.tup [qw s, ln, f])), some (.val row), some (.val nn), some (.val td), some (.val (qw s)), none, none, none, none] := by
  unfold m20
  have h0 : mSet 4 (mOp2 ixX (oP FID 0 []) (oV (mCon (.int 0)))) [some (.val (.tup [qw s, ln, f])), some (.val row), some (.val nn), some (.val td), none, none, none, none, none] = .nx [some (.val (.tup [qw s, ln, f])), some (.val row), some (.val nn), some (.val td), some (.val (qw s)), none, none, none, none] := by simp [runB, mSeq, mIfS, mTst, mOp2, PL.m2, oV, oP, mCon, getP, setP, ownP, frzs, frz, ixX_t, ixX_l, at0, at1, at2, at3, ixN_30, ixN_32, cmpD, mPut, intD, addD, lenD, mOp1, intF, modC, divC, mSet, mRet, mTake, maskE, mSlot, mRd, mAnd, mOr, mNot, mTr, truD, mTup, mNil, mCons, mCallF, mCall, xNil, xIn, xIo, fillIn, backIn, mSkip, mDrop, mRetN, isi_i, isi_t, isi_b, lenOk, mLst, mApp, appO, mFor, mRng, aName, mIt, seqOf, eqX_int, eqX_bl, neD_int]
  have h1 : ∀ A : SM, mIfS (mTst (mOp2 eqX (oP FID 4 []) (oV (mCon (.str "atom"))))) A mSkip [some (.val (.tup [qw s, ln, f])), some (.val row), some (.val nn), some (.val td), some (.val (qw s)), none, none, none, none] = .nx [some (.val (.tup [qw s, ln, f])), some (.val row), some (.val nn), some (.val td), some (.val (qw s)), none, none, none, none] := fun A => by
    cases s
    · rw [qw_all] at *
      simp [runB, mSeq, mIfS, mTst, mOp2, PL.m2, oV, oP, mCon, getP, setP, ownP, frzs, frz, ixX_t, ixX_l, at0, at1, at2, at3, ixN_30, ixN_32, cmpD, mPut, intD, addD, lenD, mOp1, intF, modC, divC, mSet, mRet, mTake, maskE, mSlot, mRd, mAnd, mOr, mNot, mTr, truD, mTup, mNil, mCons, mCallF, mCall, xNil, xIn, xIo, fillIn, backIn, mSkip, mDrop, mRetN, isi_i, isi_t, isi_b, lenOk, mLst, mApp, appO, mFor, mRng, aName, mIt, seqOf, eqX_int, eqX_bl, neD_int, q_atom_atom, q_atom_equal, q_atom_not, q_atom_and, q_atom_or, q_atom_implies, q_atom_iff, q_atom_all, q_atom_some, q_equal_atom, q_equal_equal, q_equal_not, q_equal_and, q_equal_or, q_equal_implies, q_equal_iff, q_equal_all, q_equal_some, q_not_atom, q_not_equal, q_not_not, q_not_and, q_not_or, q_not_implies, q_not_iff, q_not_all, q_not_some, q_and_atom, q_and_equal, q_and_not, q_and_and, q_and_or, q_and_implies, q_and_iff, q_and_all, q_and_some, q_or_atom, q_or_equal, q_or_not, q_or_and, q_or_or, q_or_implies, q_or_iff, q_or_all, q_or_some, q_implies_atom, q_implies_equal, q_implies_not, q_implies_and, q_implies_or, q_implies_implies, q_implies_iff, q_implies_all, q_implies_some, q_iff_atom, q_iff_equal, q_iff_not, q_iff_and, q_iff_or, q_iff_implies, q_iff_iff, q_iff_all, q_iff_some, q_all_atom, q_all_equal, q_all_not, q_all_and, q_all_or, q_all_implies, q_all_iff, q_all_all, q_all_some, q_some_atom, q_some_equal, q_some_not, q_some_and, q_some_or, q_some_implies, q_some_iff, q_some_all, q_some_some]
    · rw [qw_some] at *
      simp [runB, mSeq, mIfS, mTst, mOp2, PL.m2, oV, oP, mCon, getP, setP, ownP, frzs, frz, ixX_t, ixX_l, at0, at1, at2, at3, ixN_30, ixN_32, cmpD, mPut, intD, addD, lenD, mOp1, intF, modC, divC, mSet, mRet, mTake, maskE, mSlot, mRd, mAnd, mOr, mNot, mTr, truD, mTup, mNil, mCons, mCallF, mCall, xNil, xIn, xIo, fillIn, backIn, mSkip, mDrop, mRetN, isi_i, isi_t, isi_b, lenOk, mLst, mApp, appO, mFor, mRng, aName, mIt, seqOf, eqX_int, eqX_bl, neD_int, q_atom_atom, q_atom_equal, q_atom_not, q_atom_and, q_atom_or, q_atom_implies, q_atom_iff, q_atom_all, q_atom_some, q_equal_atom, q_equal_equal, q_equal_not, q_equal_and, q_equal_or, q_equal_implies, q_equal_iff, q_equal_all, q_equal_some, q_not_atom, q_not_equal, q_not_not, q_not_and, q_not_or, q_not_implies, q_not_iff, q_not_all, q_not_some, q_and_atom, q_and_equal, q_and_not, q_and_and, q_and_or, q_and_implies, q_and_iff, q_and_all, q_and_some, q_or_atom, q_or_equal, q_or_not, q_or_and, q_or_or, q_or_implies, q_or_iff, q_or_all, q_or_some, q_implies_atom, q_implies_equal, q_implies_not, q_implies_and, q_implies_or, q_implies_implies, q_implies_iff, q_implies_all, q_implies_some, q_iff_atom, q_iff_equal, q_iff_not, q_iff_and, q_iff_or, q_iff_implies, q_iff_iff, q_iff_all, q_iff_some, q_all_atom, q_all_equal, q_all_not, q_all_and, q_all_or, q_all_implies, q_all_iff, q_all_all, q_all_some, q_some_atom, q_some_equal, q_some_not, q_some_and, q_some_or, q_some_implies, q_some_iff, q_some_all, q_some_some]
  have h2 : ∀ A : SM, mIfS (mTst (mOp2 eqX (oP FID 4 []) (oV (mCon (.str "equal"))))) A mSkip [some (.val (.tup [qw s, ln, f])), some (.val row), some (.val nn), some (.val td), some (.val (qw s)), none, none, none, none] = .nx [some (.val (.tup [qw s, ln, f])), some (.val row), some (.val nn), some (.val td), some (.val (qw s)), none, none, none, none] := fun A => by
    cases s
    · rw [qw_all] at *
      simp [runB, mSeq, mIfS, mTst, mOp2, PL.m2, oV, oP, mCon, getP, setP, ownP, frzs, frz, ixX_t, ixX_l, at0, at1, at2, at3, ixN_30, ixN_32, cmpD, mPut, intD, addD, lenD, mOp1, intF, modC, divC, mSet, mRet, mTake, maskE, mSlot, mRd, mAnd, mOr, mNot, mTr, truD, mTup, mNil, mCons, mCallF, mCall, xNil, xIn, xIo, fillIn, backIn, mSkip, mDrop, mRetN, isi_i, isi_t, isi_b, lenOk, mLst, mApp, appO, mFor, mRng, aName, mIt, seqOf, eqX_int, eqX_bl, neD_int, q_atom_atom, q_atom_equal, q_atom_not, q_atom_and, q_atom_or, q_atom_implies, q_atom_iff, q_atom_all, q_atom_some, q_equal_atom, q_equal_equal, q_equal_not, q_equal_and, q_equal_or, q_equal_implies, q_equal_iff, q_equal_all, q_equal_some, q_not_atom, q_not_equal, q_not_not, q_not_and, q_not_or, q_not_implies, q_not_iff, q_not_all, q_not_some, q_and_atom, q_and_equal, q_and_not, q_and_and, q_and_or, q_and_implies, q_and_iff, q_and_all, q_and_some, q_or_atom, q_or_equal, q_or_not, q_or_and, q_or_or, q_or_implies, q_or_iff, q_or_all, q_or_some, q_implies_atom, q_implies_equal, q_implies_not, q_implies_and, q_implies_or, q_implies_implies, q_implies_iff, q_implies_all, q_implies_some, q_iff_atom, q_iff_equal, q_iff_not, q_iff_and, q_iff_or, q_iff_implies, q_iff_iff, q_iff_all, q_iff_some, q_all_atom, q_all_equal, q_all_not, q_all_and, q_all_or, q_all_implies, q_all_iff, q_all_all, q_all_some, q_some_atom, q_some_equal, q_some_not, q_some_and, q_some_or, q_some_implies, q_some_iff, q_some_all, q_some_some]
    · rw [qw_some] at *
      simp [runB, mSeq, mIfS, mTst, mOp2, PL.m2, oV, oP, mCon, getP, setP, ownP, frzs, frz, ixX_t, ixX_l, at0, at1, at2, at3, ixN_30, ixN_32, cmpD, mPut, intD, addD, lenD, mOp1, intF, modC, divC, mSet, mRet, mTake, maskE, mSlot, mRd, mAnd, mOr, mNot, mTr, truD, mTup, mNil, mCons, mCallF, mCall, xNil, xIn, xIo, fillIn, backIn, mSkip, mDrop, mRetN, isi_i, isi_t, isi_b, lenOk, mLst, mApp, appO, mFor, mRng, aName, mIt, seqOf, eqX_int, eqX_bl, neD_int, q_atom_atom, q_atom_equal, q_atom_not, q_atom_and, q_atom_or, q_atom_implies, q_atom_iff, q_atom_all, q_atom_some, q_equal_atom, q_equal_equal, q_equal_not, q_equal_and, q_equal_or, q_equal_implies, q_equal_iff, q_equal_all, q_equal_some, q_not_atom, q_not_equal, q_not_not, q_not_and, q_not_or, q_not_implies, q_not_iff, q_not_all, q_not_some, q_and_atom, q_and_equal, q_and_not, q_and_and, q_and_or, q_and_implies, q_and_iff, q_and_all, q_and_some, q_or_atom, q_or_equal, q_or_not, q_or_and, q_or_or, q_or_implies, q_or_iff, q_or_all, q_or_some, q_implies_atom, q_implies_equal, q_implies_not, q_implies_and, q_implies_or, q_implies_implies, q_implies_iff, q_implies_all, q_implies_some, q_iff_atom, q_iff_equal, q_iff_not, q_iff_and, q_iff_or, q_iff_implies, q_iff_iff, q_iff_all, q_iff_some, q_all_atom, q_all_equal, q_all_not, q_all_and, q_all_or, q_all_implies, q_all_iff, q_all_all, q_all_some, q_some_atom, q_some_equal, q_some_not, q_some_and, q_some_or, q_some_implies, q_some_iff, q_some_all, q_some_some]
  have h3 : ∀ A : SM, mIfS (mTst (mOp2 eqX (oP FID 4 []) (oV (mCon (.str "not"))))) A mSkip [some (.val (.tup [qw s, ln, f])), some (.val row), some (.val nn), some (.val td), some (.val (qw s)), none, none, none, none] = .nx [some (.val (.tup [qw s, ln, f])), some (.val row), some (.val nn), some (.val td), some (.val (qw s)), none, none, none, none] := fun A => by
    cases s
    · rw [qw_all] at *
      simp [runB, mSeq, mIfS, mTst, mOp2, PL.m2, oV, oP, mCon, getP, setP, ownP, frzs, frz, ixX_t, ixX_l, at0, at1, at2, at3, ixN_30, ixN_32, cmpD, mPut, intD, addD, lenD, mOp1, intF, modC, divC, mSet, mRet, mTake, maskE, mSlot, mRd, mAnd, mOr, mNot, mTr, truD, mTup, mNil, mCons, mCallF, mCall, xNil, xIn, xIo, fillIn, backIn, mSkip, mDrop, mRetN, isi_i, isi_t, isi_b, lenOk, mLst, mApp, appO, mFor, mRng, aName, mIt, seqOf, eqX_int, eqX_bl, neD_int, q_atom_atom, q_atom_equal, q_atom_not, q_atom_and, q_atom_or, q_atom_implies, q_atom_iff, q_atom_all, q_atom_some, q_equal_atom, q_equal_equal, q_equal_not, q_equal_and, q_equal_or, q_equal_implies, q_equal_iff, q_equal_all, q_equal_some, q_not_atom, q_not_equal, q_not_not, q_not_and, q_not_or, q_not_implies, q_not_iff, q_not_all, q_not_some, q_and_atom, q_and_equal, q_and_not, q_and_and, q_and_or, q_and_implies, q_and_iff, q_and_all, q_and_some, q_or_atom, q_or_equal, q_or_not, q_or_and, q_or_or, q_or_implies, q_or_iff, q_or_all, q_or_some, q_implies_atom, q_implies_equal, q_implies_not, q_implies_and, q_implies_or, q_implies_implies, q_implies_iff, q_implies_all, q_implies_some, q_iff_atom, q_iff_equal, q_iff_not, q_iff_and, q_iff_or, q_iff_implies, q_iff_iff, q_iff_all, q_iff_some, q_all_atom, q_all_equal, q_all_not, q_all_and, q_all_or, q_all_implies, q_all_iff, q_all_all, q_all_some, q_some_atom, q_some_equal, q_some_not, q_some_and, q_some_or, q_some_implies, q_some_iff, q_some_all, q_some_some]
    · rw [qw_some] at *
      simp [runB, mSeq, mIfS, mTst, mOp2, PL.m2, oV, oP, mCon, getP, setP, ownP, frzs, frz, ixX_t, ixX_l, at0, at1, at2, at3, ixN_30, ixN_32, cmpD, mPut, intD, addD, lenD, mOp1, intF, modC, divC, mSet, mRet, mTake, maskE, mSlot, mRd, mAnd, mOr, mNot, mTr, truD, mTup, mNil, mCons, mCallF, mCall, xNil, xIn, xIo, fillIn, backIn, mSkip, mDrop, mRetN, isi_i, isi_t, isi_b, lenOk, mLst, mApp, appO, mFor, mRng, aName, mIt, seqOf, eqX_int, eqX_bl, neD_int, q_atom_atom, q_atom_equal, q_atom_not, q_atom_and, q_atom_or, q_atom_implies, q_atom_iff, q_atom_all, q_atom_some, q_equal_atom, q_equal_equal, q_equal_not, q_equal_and, q_equal_or, q_equal_implies, q_equal_iff, q_equal_all, q_equal_some, q_not_atom, q_not_equal, q_not_not, q_not_and, q_not_or, q_not_implies, q_not_iff, q_not_all, q_not_some, q_and_atom, q_and_equal, q_and_not, q_and_and, q_and_or, q_and_implies, q_and_iff, q_and_all, q_and_some, q_or_atom, q_or_equal, q_or_not, q_or_and, q_or_or, q_or_implies, q_or_iff, q_or_all, q_or_some, q_implies_atom, q_implies_equal, q_implies_not, q_implies_and, q_implies_or, q_implies_implies, q_implies_iff, q_implies_all, q_implies_some, q_iff_atom, q_iff_equal, q_iff_not, q_iff_and, q_iff_or, q_iff_implies, q_iff_iff, q_iff_all, q_iff_some, q_all_atom, q_all_equal, q_all_not, q_all_and, q_all_or, q_all_implies, q_all_iff, q_all_all, q_all_some, q_some_atom, q_some_equal, q_some_not, q_some_and, q_some_or, q_some_implies, q_some_iff, q_some_all, q_some_some]
  rw [mSeq_nx h0, mSeq_nx (h1 _), mSeq_nx (h2 _), mSeq_nx (h3 _)]
  exact ⟨_, rfl⟩
end
theorem h20_qu (w : PySem.World) (cf cg : Nat → FM) {s : Bool} {r : List Nat} {f : D} {V : Nat → Bool} {n : Nat} (hn3 : n ≤ 3) {td : D} (h : r.length < 1000)
    (e : ∀ i, i < n → cf 20 [.val f, .val (.dct (rowK (r ++ [i]).length) (rowV (r ++ [i]))), .val (.int n), .val td] = .ok (.val (.bl (V i))) [none, none, none, none]) :
    isRet (.val (.bl (if s = true then (List.range n).any V else (List.range n).all V))) (m20 w cf cg [some (.val (.tup [qw s, .int r.length, f])), some (.val (.dct (rowK r.length) (rowV r))), some (.val (.int n)), some (.val td), none, none, none, none, none]) := by
  obtain ⟨y5, y6, hy⟩ := q20l w cf cg (s := s) (x7 := none) (x8 := none) (z := some (.val (.int n))) (tb := some (.val td)) rfl rfl h e (List.range n) (fun j hj => List.mem_range.mp hj) none none
  rw [← rngD_map] at hy
  obtain ⟨Z, hZ⟩ := z20_pre (s := s) (ln := .int r.length) (f := f) (row := .dct (rowK r.length) (rowV r)) (nn := .int n) (td := td) (w := w) (cf := cf) (cg := cg)
  rw [hZ]
  generalize D.dct (rowK r.length) (rowV r) = row at *
  generalize D.int (r.length : Int) = ln at *
  have e1 : mRng (oP FID 2 []) [some (.val (.tup [qw s, ln, f])), some (.val row), some (.val (.int n)), some (.val td), some (.val (qw s)), none, none, none, none] = .ok (rngD n) [some (.val (.tup [qw s, ln, f])), some (.val row), some (.val (.int n)), some (.val td), some (.val (qw s)), none, none, none, none] := rng_ok (n := n) (by omega) rfl
  have e2 := (for_ok (a := aName 5) (b := b20_0 w cf cg) e1).trans hy
  have ha : (if s = true then (List.range n).any V else (List.range n).all V) = (if (List.range n).any (fun i => V i == s) = true then s else !s) := by
    cases s
    · simp only [Bool.false_eq_true, if_false]
      rw [List.all_eq_not_any_not]
      have hb : (fun i => !V i) = fun i => V i == false := by
        funext i
        cases V i <;> rfl
      rw [hb]
      cases (List.range n).any fun i => V i == false <;> rfl
    · have hb : V = fun i => V i == true := by
        funext i
        cases V i <;> rfl
      simp only [if_true]
      rw [← hb]
      cases (List.range n).any V <;> rfl
  rw [ha]
  by_cases hb : (List.range n).any (fun i => V i == s) = true
  · rw [if_pos hb] at e2 ⊢
    exact z20_ret e2
  · rw [if_neg hb] at e2 ⊢
    exact z20_nx e2
end K63
set_option Elab.async false
set_option linter.all false
set_option maxRecDepth 100000
set_option maxHeartbeats 4000000
namespace K63
open PL
theorem lhold (w : PySem.World) {n : Nat} {t : Tb} (hn3 : n ≤ 3) (hn : 0 < n) : ∀ (f : Fm) (m : Nat) (r : List Nat), f.ok r.length → f.ful n t → (∀ x ∈ r, x < n) → f.dp + 4 ≤ m → r.length + f.dp < 900 → callI (T w) m 20 [.val f.d, .val (.dct (rowK r.length) (rowV r)), .val (.int n), .val (.dct t.ks t.vs)] = .ok (.val (.bl (f.tv n t r))) [none, none, none, none]
  | f, 0, r, ok, hf, hr, hm, hl => by omega
  | .q, m + 1, r, ok, hf, hr, hm, hl => by
    obtain ⟨j, rfl⟩ : ∃ j, m = j + 1 := ⟨m - 1, by omega⟩
    have e := lvq w j hf (.dct (rowK r.length) (rowV r))
    rw [callK]
    exact run_ret _ rfl rfl (h20_atom w _ _ e)
  | .p s, m + 1, r, ok, hf, hr, hm, hl => by
    have h1 := ok.2
    have hm : 0 + 4 ≤ m + 1 := hm
    have e := lvp w hn3 hr rfl hn (m - s.dp - 2) ok.1 hf.2 hf.1
    rw [show m - s.dp - 2 + s.dp + 2 = m by omega] at e
    rw [callK]
    exact run_ret _ rfl rfl (h20_atom w _ _ e)
  | .eq s u, m + 1, r, ok, hf, hr, hm, hl => by
    obtain ⟨o1, o2, o3, o4⟩ := ok
    have hm : 0 + 4 ≤ m + 1 := hm
    have e := lval w hn3 hr rfl hn s (m - s.dp - 1) o1 hf.1
    have e2 := lval w hn3 hr rfl hn u (m - u.dp - 1) o2 hf.2
    rw [show m - s.dp - 1 + s.dp + 1 = m by omega] at e
    rw [show m - u.dp - 1 + u.dp + 1 = m by omega] at e2
    rw [callK]
    exact run_ret _ rfl rfl (h20_eq w _ _ e e2)
  | .no f, m + 1, r, ok, hf, hr, hm, hl => by
    have hm : f.dp + 1 + 4 ≤ m + 1 := hm
    have hl : r.length + (f.dp + 1) < 900 := hl
    have e := lhold w hn3 hn f m r ok hf hr (by omega) (by omega)
    rw [callK]
    exact run_ret _ rfl rfl (h20_no w _ _ e)
  | .bi o f g, m + 1, r, ok, hf, hr, hm, hl => by
    have hm : max f.dp g.dp + 1 + 4 ≤ m + 1 := hm
    have hl : r.length + (max f.dp g.dp + 1) < 900 := hl
    have e := lhold w hn3 hn f m r ok.1 hf.1 hr (by omega) (by omega)
    have e2 := lhold w hn3 hn g m r ok.2 hf.2 hr (by omega) (by omega)
    rw [callK, tv_bi]
    exact run_ret _ rfl rfl (h20_bi w _ _ e e2)
  | .qu s b f, m + 1, r, ok, hf, hr, hm, hl => by
    have hm : f.dp + 1 + 4 ≤ m + 1 := hm
    have hl : r.length + (f.dp + 1) < 900 := hl
    obtain ⟨hb, ok⟩ := ok
    subst hb
    have e : ∀ i, i < n → callI (T w) m 20 [.val f.d, .val (.dct (rowK (r ++ [i]).length) (rowV (r ++ [i]))), .val (.int n), .val (.dct t.ks t.vs)] = .ok (.val (.bl (f.tv n t (r ++ [i])))) [none, none, none, none] := fun i hi => by
      refine lhold w hn3 hn f m (r ++ [i]) (by rw [List.length_append]; exact ok) hf (fun x hx => ?_) (by omega) (by rw [List.length_append, List.length_singleton]; omega)
      rcases List.mem_append.mp hx with hx | hx
      · exact hr x hx
      · rw [List.mem_singleton] at hx; omega
    have h := h20_qu w (callI (T w) m) (callI (T w) (m - 1)) (s := s) hn3 (V := fun i => f.tv n t (r ++ [i])) (by omega) e
    rw [callK]
    cases s
    · exact run_ret _ rfl rfl h
    · exact run_ret _ rfl rfl h
end K63
set_option Elab.async false
set_option linter.all false
set_option maxRecDepth 100000
set_option maxHeartbeats 4000000
namespace K63
open PL
theorem q3 (w : PySem.World) (cf cg : Nat → FM) {s : Bool} {i : Nat} {r : List Nat} {f : D} {v : Bool} {z x4 x5 x7 : Option O} {W : D} (hz : z = some (.val W)) (h : r.length < 1000)
    (e : cf 3 [.val f, .val W, .val (.dct (rowK (r ++ [i]).length) (rowV (r ++ [i])))] = .ok (.val (.bl v)) [none, none, none]) :
    ∃ y, b3_0 w cf cg [some (.val (.tup [qw s, .int r.length, f])), z, some (.val (.dct (rowK r.length) (rowV r))), some (.val (qw s)), x4, x5, some (.val (.int i)), x7] = (if v = s then .ret (.val (.bl s)) [some (.val (.tup [qw s, .int r.length, f])), z, some (.val (.dct (rowK r.length) (rowV r))), some (.val (qw s)), x4, x5, some (.val (.int i)), y] else .nx [some (.val (.tup [qw s, .int r.length, f])), z, some (.val (.dct (rowK r.length) (rowV r))), some (.val (qw s)), x4, x5, some (.val (.int i)), y]) := by
  subst hz
  refine ⟨some (.val (.dct (rowK (r ++ [i]).length) (rowV (r ++ [i])))), ?_⟩
  have e1 := dctF_row w r
  have e2 := putO_row (r := r) (i := i) h
  simp only [List.length_append, List.length_singleton] at e e2 ⊢
  cases s
  · cases v
    · simp [runB, mSeq, mIfS, mTst, mOp2, PL.m2, oV, oP, mCon, getP, setP, ownP, frzs, frz, ixX_t, ixX_l, at0, at1, at2, at3, ixN_30, ixN_32, cmpD, mPut, intD, addD, lenD, mOp1, intF, modC, divC, mSet, mRet, mTake, maskE, mSlot, mRd, mAnd, mOr, mNot, mTr, truD, mTup, mNil, mCons, mCallF, mCall, xNil, xIn, xIo, fillIn, backIn, mSkip, mDrop, mRetN, isi_i, isi_t, isi_b, lenOk, mLst, mApp, appO, mFor, mRng, aName, mIt, seqOf, eqX_int, eqX_bl, neD_int, q_atom_atom, q_atom_equal, q_atom_not, q_atom_and, q_atom_or, q_atom_implies, q_atom_iff, q_atom_all, q_atom_some, q_equal_atom, q_equal_equal, q_equal_not, q_equal_and, q_equal_or, q_equal_implies, q_equal_iff, q_equal_all, q_equal_some, q_not_atom, q_not_equal, q_not_not, q_not_and, q_not_or, q_not_implies, q_not_iff, q_not_all, q_not_some, q_and_atom, q_and_equal, q_and_not, q_and_and, q_and_or, q_and_implies, q_and_iff, q_and_all, q_and_some, q_or_atom, q_or_equal, q_or_not, q_or_and, q_or_or, q_or_implies, q_or_iff, q_or_all, q_or_some, q_implies_atom, q_implies_equal, q_implies_not, q_implies_and, q_implies_or, q_implies_implies, q_implies_iff, q_implies_all, q_implies_some, q_iff_atom, q_iff_equal, q_iff_not, q_iff_and, q_iff_or, q_iff_implies, q_iff_iff, q_iff_all, q_iff_some, q_all_atom, q_all_equal, q_all_not, q_all_and, q_all_or, q_all_implies, q_all_iff, q_all_all, q_all_some, q_some_atom, q_some_equal, q_some_not, q_some_and, q_some_or, q_some_implies, q_some_iff, q_some_all, q_some_some, b3_0, qw, e1, e2, e]
    · simp [runB, mSeq, mIfS, mTst, mOp2, PL.m2, oV, oP, mCon, getP, setP, ownP, frzs, frz, ixX_t, ixX_l, at0, at1, at2, at3, ixN_30, ixN_32, cmpD, mPut, intD, addD, lenD, mOp1, intF, modC, divC, mSet, mRet, mTake, maskE, mSlot, mRd, mAnd, mOr, mNot, mTr, truD, mTup, mNil, mCons, mCallF, mCall, xNil, xIn, xIo, fillIn, backIn, mSkip, mDrop, mRetN, isi_i, isi_t, isi_b, lenOk, mLst, mApp, appO, mFor, mRng, aName, mIt, seqOf, eqX_int, eqX_bl, neD_int, q_atom_atom, q_atom_equal, q_atom_not, q_atom_and, q_atom_or, q_atom_implies, q_atom_iff, q_atom_all, q_atom_some, q_equal_atom, q_equal_equal, q_equal_not, q_equal_and, q_equal_or, q_equal_implies, q_equal_iff, q_equal_all, q_equal_some, q_not_atom, q_not_equal, q_not_not, q_not_and, q_not_or, q_not_implies, q_not_iff, q_not_all, q_not_some, q_and_atom, q_and_equal, q_and_not, q_and_and, q_and_or, q_and_implies, q_and_iff, q_and_all, q_and_some, q_or_atom, q_or_equal, q_or_not, q_or_and, q_or_or, q_or_implies, q_or_iff, q_or_all, q_or_some, q_implies_atom, q_implies_equal, q_implies_not, q_implies_and, q_implies_or, q_implies_implies, q_implies_iff, q_implies_all, q_implies_some, q_iff_atom, q_iff_equal, q_iff_not, q_iff_and, q_iff_or, q_iff_implies, q_iff_iff, q_iff_all, q_iff_some, q_all_atom, q_all_equal, q_all_not, q_all_and, q_all_or, q_all_implies, q_all_iff, q_all_all, q_all_some, q_some_atom, q_some_equal, q_some_not, q_some_and, q_some_or, q_some_implies, q_some_iff, q_some_all, q_some_some, b3_0, qw, e1, e2, e]
  · cases v
    · simp [runB, mSeq, mIfS, mTst, mOp2, PL.m2, oV, oP, mCon, getP, setP, ownP, frzs, frz, ixX_t, ixX_l, at0, at1, at2, at3, ixN_30, ixN_32, cmpD, mPut, intD, addD, lenD, mOp1, intF, modC, divC, mSet, mRet, mTake, maskE, mSlot, mRd, mAnd, mOr, mNot, mTr, truD, mTup, mNil, mCons, mCallF, mCall, xNil, xIn, xIo, fillIn, backIn, mSkip, mDrop, mRetN, isi_i, isi_t, isi_b, lenOk, mLst, mApp, appO, mFor, mRng, aName, mIt, seqOf, eqX_int, eqX_bl, neD_int, q_atom_atom, q_atom_equal, q_atom_not, q_atom_and, q_atom_or, q_atom_implies, q_atom_iff, q_atom_all, q_atom_some, q_equal_atom, q_equal_equal, q_equal_not, q_equal_and, q_equal_or, q_equal_implies, q_equal_iff, q_equal_all, q_equal_some, q_not_atom, q_not_equal, q_not_not, q_not_and, q_not_or, q_not_implies, q_not_iff, q_not_all, q_not_some, q_and_atom, q_and_equal, q_and_not, q_and_and, q_and_or, q_and_implies, q_and_iff, q_and_all, q_and_some, q_or_atom, q_or_equal, q_or_not, q_or_and, q_or_or, q_or_implies, q_or_iff, q_or_all, q_or_some, q_implies_atom, q_implies_equal, q_implies_not, q_implies_and, q_implies_or, q_implies_implies, q_implies_iff, q_implies_all, q_implies_some, q_iff_atom, q_iff_equal, q_iff_not, q_iff_and, q_iff_or, q_iff_implies, q_iff_iff, q_iff_all, q_iff_some, q_all_atom, q_all_equal, q_all_not, q_all_and, q_all_or, q_all_implies, q_all_iff, q_all_all, q_all_some, q_some_atom, q_some_equal, q_some_not, q_some_and, q_some_or, q_some_implies, q_some_iff, q_some_all, q_some_some, b3_0, qw, e1, e2, e]
    · simp [runB, mSeq, mIfS, mTst, mOp2, PL.m2, oV, oP, mCon, getP, setP, ownP, frzs, frz, ixX_t, ixX_l, at0, at1, at2, at3, ixN_30, ixN_32, cmpD, mPut, intD, addD, lenD, mOp1, intF, modC, divC, mSet, mRet, mTake, maskE, mSlot, mRd, mAnd, mOr, mNot, mTr, truD, mTup, mNil, mCons, mCallF, mCall, xNil, xIn, xIo, fillIn, backIn, mSkip, mDrop, mRetN, isi_i, isi_t, isi_b, lenOk, mLst, mApp, appO, mFor, mRng, aName, mIt, seqOf, eqX_int, eqX_bl, neD_int, q_atom_atom, q_atom_equal, q_atom_not, q_atom_and, q_atom_or, q_atom_implies, q_atom_iff, q_atom_all, q_atom_some, q_equal_atom, q_equal_equal, q_equal_not, q_equal_and, q_equal_or, q_equal_implies, q_equal_iff, q_equal_all, q_equal_some, q_not_atom, q_not_equal, q_not_not, q_not_and, q_not_or, q_not_implies, q_not_iff, q_not_all, q_not_some, q_and_atom, q_and_equal, q_and_not, q_and_and, q_and_or, q_and_implies, q_and_iff, q_and_all, q_and_some, q_or_atom, q_or_equal, q_or_not, q_or_and, q_or_or, q_or_implies, q_or_iff, q_or_all, q_or_some, q_implies_atom, q_implies_equal, q_implies_not, q_implies_and, q_implies_or, q_implies_implies, q_implies_iff, q_implies_all, q_implies_some, q_iff_atom, q_iff_equal, q_iff_not, q_iff_and, q_iff_or, q_iff_implies, q_iff_iff, q_iff_all, q_iff_some, q_all_atom, q_all_equal, q_all_not, q_all_and, q_all_or, q_all_implies, q_all_iff, q_all_all, q_all_some, q_some_atom, q_some_equal, q_some_not, q_some_and, q_some_or, q_some_implies, q_some_iff, q_some_all, q_some_some, b3_0, qw, e1, e2, e]
theorem q3l (w : PySem.World) (cf cg : Nat → FM) {s : Bool} {r : List Nat} {f : D} {V : Nat → Bool} {z x4 x5 : Option O} {W : D} {n : Nat} (hz : z = some (.val W)) (h : r.length < 1000)
    (e : ∀ i, i < n → cf 3 [.val f, .val W, .val (.dct (rowK (r ++ [i]).length) (rowV (r ++ [i])))] = .ok (.val (.bl (V i))) [none, none, none]) :
    ∀ (js : List Nat), (∀ j ∈ js, j < n) → ∀ x6 x7, ∃ y6 y7, loopF (aName 6) (b3_0 w cf cg) (js.map fun i => D.int (i : Nat)) [some (.val (.tup [qw s, .int r.length, f])), z, some (.val (.dct (rowK r.length) (rowV r))), some (.val (qw s)), x4, x5, x6, x7] = (if js.any (fun i => V i == s) = true then .ret (.val (.bl s)) [some (.val (.tup [qw s, .int r.length, f])), z, some (.val (.dct (rowK r.length) (rowV r))), some (.val (qw s)), x4, x5, y6, y7] else .nx [some (.val (.tup [qw s, .int r.length, f])), z, some (.val (.dct (rowK r.length) (rowV r))), some (.val (qw s)), x4, x5, y6, y7])
  | [], _, x5, x6 => ⟨x5, x6, rfl⟩
  | j :: js, hj, x6, x7 => by
    obtain ⟨y, hy⟩ := q3 w cf cg (s := s) (i := j) (x4 := x4) (x5 := x5) (x7 := x7) hz h (e j (hj j (List.mem_cons_self ..)))
    rw [List.map_cons, loop_cons (r1 := [some (.val (.tup [qw s, .int r.length, f])), z, some (.val (.dct (rowK r.length) (rowV r))), some (.val (qw s)), x4, x5, some (.val (.int j)), x7]) rfl, hy]
    by_cases hv : V j = s
    · refine ⟨some (.val (.int j)), y, ?_⟩
      have : (V j == s) = true := by simp [hv]
      rw [if_pos hv, List.any_cons, this, Bool.true_or]
      rfl
    · obtain ⟨y5, y6, ih⟩ := q3l w cf cg hz h e js (fun j m => hj j (List.mem_cons_of_mem _ m)) (some (.val (.int j))) y
      refine ⟨y5, y6, ?_⟩
      have : (V j == s) = false := by simp [hv]
      rw [if_neg hv, List.any_cons, this, Bool.false_or]
      exact ih
theorem h2_j (w : PySem.World) (cf cg : Nat → FM) (o : Bo) (v u : Bool) : isRet (.val (.bl (o.ev v u))) (m2 w cf cg [some (.val (.str o.s)), some (.val (.bl v)), some (.val (.bl u))]) := by
  cases o <;> cases v <;> cases u <;> simp [runB, mSeq, mIfS, mTst, mOp2, PL.m2, oV, oP, mCon, getP, setP, ownP, frzs, frz, ixX_t, ixX_l, at0, at1, at2, at3, ixN_30, ixN_32, cmpD, mPut, intD, addD, lenD, mOp1, intF, modC, divC, mSet, mRet, mTake, maskE, mSlot, mRd, mAnd, mOr, mNot, mTr, truD, mTup, mNil, mCons, mCallF, mCall, xNil, xIn, xIo, fillIn, backIn, mSkip, mDrop, mRetN, isi_i, isi_t, isi_b, lenOk, mLst, mApp, appO, mFor, mRng, aName, mIt, seqOf, eqX_int, eqX_bl, neD_int, q_atom_atom, q_atom_equal, q_atom_not, q_atom_and, q_atom_or, q_atom_implies, q_atom_iff, q_atom_all, q_atom_some, q_equal_atom, q_equal_equal, q_equal_not, q_equal_and, q_equal_or, q_equal_implies, q_equal_iff, q_equal_all, q_equal_some, q_not_atom, q_not_equal, q_not_not, q_not_and, q_not_or, q_not_implies, q_not_iff, q_not_all, q_not_some, q_and_atom, q_and_equal, q_and_not, q_and_and, q_and_or, q_and_implies, q_and_iff, q_and_all, q_and_some, q_or_atom, q_or_equal, q_or_not, q_or_and, q_or_or, q_or_implies, q_or_iff, q_or_all, q_or_some, q_implies_atom, q_implies_equal, q_implies_not, q_implies_and, q_implies_or, q_implies_implies, q_implies_iff, q_implies_all, q_implies_some, q_iff_atom, q_iff_equal, q_iff_not, q_iff_and, q_iff_or, q_iff_implies, q_iff_iff, q_iff_all, q_iff_some, q_all_atom, q_all_equal, q_all_not, q_all_and, q_all_or, q_all_implies, q_all_iff, q_all_all, q_all_some, q_some_atom, q_some_equal, q_some_not, q_some_and, q_some_or, q_some_implies, q_some_iff, q_some_all, q_some_some, m2, isRet, mNotV, mAndV, mOrV, Bo.s, Bo.ev]
theorem jnd (w : PySem.World) (k : Nat) (o : Bo) (v u : Bool) : callI (T w) (k + 1) 2 [.val (.str o.s), .val (.bl v), .val (.bl u)] = .ok (.val (.bl (o.ev v u))) [none, none, none] := by
  rw [callK]
  exact run_ret _ rfl rfl (h2_j w (callI (T w) k) (callI (T w) (k - 1)) o v u)
section
variable (w : PySem.World) (cf cg : Nat → FM) {W row : D}
theorem h3_atom {x : D} {v : Int} (e : cf 1 [.val x, .val W, .val row] = .ok (.val (.int v)) [none, none, none]) : isRet (.val (.bl (decide (v = 1)))) (m3 w cf cg [some (.val (.tup [.str "atom", x])), some (.val W), some (.val row), none, none, none, none, none]) := by
  simp [runB, mSeq, mIfS, mTst, mOp2, PL.m2, oV, oP, mCon, getP, setP, ownP, frzs, frz, ixX_t, ixX_l, at0, at1, at2, at3, ixN_30, ixN_32, cmpD, mPut, intD, addD, lenD, mOp1, intF, modC, divC, mSet, mRet, mTake, maskE, mSlot, mRd, mAnd, mOr, mNot, mTr, truD, mTup, mNil, mCons, mCallF, mCall, xNil, xIn, xIo, fillIn, backIn, mSkip, mDrop, mRetN, isi_i, isi_t, isi_b, lenOk, mLst, mApp, appO, mFor, mRng, aName, mIt, seqOf, eqX_int, eqX_bl, neD_int, q_atom_atom, q_atom_equal, q_atom_not, q_atom_and, q_atom_or, q_atom_implies, q_atom_iff, q_atom_all, q_atom_some, q_equal_atom, q_equal_equal, q_equal_not, q_equal_and, q_equal_or, q_equal_implies, q_equal_iff, q_equal_all, q_equal_some, q_not_atom, q_not_equal, q_not_not, q_not_and, q_not_or, q_not_implies, q_not_iff, q_not_all, q_not_some, q_and_atom, q_and_equal, q_and_not, q_and_and, q_and_or, q_and_implies, q_and_iff, q_and_all, q_and_some, q_or_atom, q_or_equal, q_or_not, q_or_and, q_or_or, q_or_implies, q_or_iff, q_or_all, q_or_some, q_implies_atom, q_implies_equal, q_implies_not, q_implies_and, q_implies_or, q_implies_implies, q_implies_iff, q_implies_all, q_implies_some, q_iff_atom, q_iff_equal, q_iff_not, q_iff_and, q_iff_or, q_iff_implies, q_iff_iff, q_iff_all, q_iff_some, q_all_atom, q_all_equal, q_all_not, q_all_and, q_all_or, q_all_implies, q_all_iff, q_all_all, q_all_some, q_some_atom, q_some_equal, q_some_not, q_some_and, q_some_or, q_some_implies, q_some_iff, q_some_all, q_some_some, m3, e, isRet]
theorem h3_eq {x y : D} {v u : Int} (e : cf 1 [.val x, .val W, .val row] = .ok (.val (.int v)) [none, none, none]) (e2 : cf 1 [.val y, .val W, .val row] = .ok (.val (.int u)) [none, none, none]) : isRet (.val (.bl (decide (v = u)))) (m3 w cf cg [some (.val (.tup [.str "equal", x, y])), some (.val W), some (.val row), none, none, none, none, none]) := by
  simp [runB, mSeq, mIfS, mTst, mOp2, PL.m2, oV, oP, mCon, getP, setP, ownP, frzs, frz, ixX_t, ixX_l, at0, at1, at2, at3, ixN_30, ixN_32, cmpD, mPut, intD, addD, lenD, mOp1, intF, modC, divC, mSet, mRet, mTake, maskE, mSlot, mRd, mAnd, mOr, mNot, mTr, truD, mTup, mNil, mCons, mCallF, mCall, xNil, xIn, xIo, fillIn, backIn, mSkip, mDrop, mRetN, isi_i, isi_t, isi_b, lenOk, mLst, mApp, appO, mFor, mRng, aName, mIt, seqOf, eqX_int, eqX_bl, neD_int, q_atom_atom, q_atom_equal, q_atom_not, q_atom_and, q_atom_or, q_atom_implies, q_atom_iff, q_atom_all, q_atom_some, q_equal_atom, q_equal_equal, q_equal_not, q_equal_and, q_equal_or, q_equal_implies, q_equal_iff, q_equal_all, q_equal_some, q_not_atom, q_not_equal, q_not_not, q_not_and, q_not_or, q_not_implies, q_not_iff, q_not_all, q_not_some, q_and_atom, q_and_equal, q_and_not, q_and_and, q_and_or, q_and_implies, q_and_iff, q_and_all, q_and_some, q_or_atom, q_or_equal, q_or_not, q_or_and, q_or_or, q_or_implies, q_or_iff, q_or_all, q_or_some, q_implies_atom, q_implies_equal, q_implies_not, q_implies_and, q_implies_or, q_implies_implies, q_implies_iff, q_implies_all, q_implies_some, q_iff_atom, q_iff_equal, q_iff_not, q_iff_and, q_iff_or, q_iff_implies, q_iff_iff, q_iff_all, q_iff_some, q_all_atom, q_all_equal, q_all_not, q_all_and, q_all_or, q_all_implies, q_all_iff, q_all_all, q_all_some, q_some_atom, q_some_equal, q_some_not, q_some_and, q_some_or, q_some_implies, q_some_iff, q_some_all, q_some_some, m3, e, e2, isRet]
theorem h3_no {x : D} {v : Bool} (e : cf 3 [.val x, .val W, .val row] = .ok (.val (.bl v)) [none, none, none]) : isRet (.val (.bl (!v))) (m3 w cf cg [some (.val (.tup [.str "not", x])), some (.val W), some (.val row), none, none, none, none, none]) := by
  cases v <;> simp [runB, mSeq, mIfS, mTst, mOp2, PL.m2, oV, oP, mCon, getP, setP, ownP, frzs, frz, ixX_t, ixX_l, at0, at1, at2, at3, ixN_30, ixN_32, cmpD, mPut, intD, addD, lenD, mOp1, intF, modC, divC, mSet, mRet, mTake, maskE, mSlot, mRd, mAnd, mOr, mNot, mTr, truD, mTup, mNil, mCons, mCallF, mCall, xNil, xIn, xIo, fillIn, backIn, mSkip, mDrop, mRetN, isi_i, isi_t, isi_b, lenOk, mLst, mApp, appO, mFor, mRng, aName, mIt, seqOf, eqX_int, eqX_bl, neD_int, q_atom_atom, q_atom_equal, q_atom_not, q_atom_and, q_atom_or, q_atom_implies, q_atom_iff, q_atom_all, q_atom_some, q_equal_atom, q_equal_equal, q_equal_not, q_equal_and, q_equal_or, q_equal_implies, q_equal_iff, q_equal_all, q_equal_some, q_not_atom, q_not_equal, q_not_not, q_not_and, q_not_or, q_not_implies, q_not_iff, q_not_all, q_not_some, q_and_atom, q_and_equal, q_and_not, q_and_and, q_and_or, q_and_implies, q_and_iff, q_and_all, q_and_some, q_or_atom, q_or_equal, q_or_not, q_or_and, q_or_or, q_or_implies, q_or_iff, q_or_all, q_or_some, q_implies_atom, q_implies_equal, q_implies_not, q_implies_and, q_implies_or, q_implies_implies, q_implies_iff, q_implies_all, q_implies_some, q_iff_atom, q_iff_equal, q_iff_not, q_iff_and, q_iff_or, q_iff_implies, q_iff_iff, q_iff_all, q_iff_some, q_all_atom, q_all_equal, q_all_not, q_all_and, q_all_or, q_all_implies, q_all_iff, q_all_all, q_all_some, q_some_atom, q_some_equal, q_some_not, q_some_and, q_some_or, q_some_implies, q_some_iff, q_some_all, q_some_some, m3, e, isRet, mNotV]
theorem jn_of (o : Bo) : inX false (.str o.s) g_JOINTS = some (.val (.bl true)) := by
  cases o
  · exact jn_a
  · exact jn_o
  · exact jn_i
  · exact jn_f
theorem h3_bi {o : Bo} {x y : D} {v u : Bool} (e : cf 3 [.val x, .val W, .val row] = .ok (.val (.bl v)) [none, none, none]) (e2 : cf 3 [.val y, .val W, .val row] = .ok (.val (.bl u)) [none, none, none]) (e3 : cf 2 [.val (.str o.s), .val (.bl v), .val (.bl u)] = .ok (.val (.bl (o.ev v u))) [none, none, none]) : isRet (.val (.bl (o.ev v u))) (m3 w cf cg [some (.val (.tup [.str o.s, x, y])), some (.val W), some (.val row), none, none, none, none, none]) := by
  have e4 := jn_of o
  cases o
  all_goals
    simp only [Bo.s] at e3 e4
    simp [runB, mSeq, mIfS, mTst, mOp2, PL.m2, oV, oP, mCon, getP, setP, ownP, frzs, frz, ixX_t, ixX_l, at0, at1, at2, at3, ixN_30, ixN_32, cmpD, mPut, intD, addD, lenD, mOp1, intF, modC, divC, mSet, mRet, mTake, maskE, mSlot, mRd, mAnd, mOr, mNot, mTr, truD, mTup, mNil, mCons, mCallF, mCall, xNil, xIn, xIo, fillIn, backIn, mSkip, mDrop, mRetN, isi_i, isi_t, isi_b, lenOk, mLst, mApp, appO, mFor, mRng, aName, mIt, seqOf, eqX_int, eqX_bl, neD_int, q_atom_atom, q_atom_equal, q_atom_not, q_atom_and, q_atom_or, q_atom_implies, q_atom_iff, q_atom_all, q_atom_some, q_equal_atom, q_equal_equal, q_equal_not, q_equal_and, q_equal_or, q_equal_implies, q_equal_iff, q_equal_all, q_equal_some, q_not_atom, q_not_equal, q_not_not, q_not_and, q_not_or, q_not_implies, q_not_iff, q_not_all, q_not_some, q_and_atom, q_and_equal, q_and_not, q_and_and, q_and_or, q_and_implies, q_and_iff, q_and_all, q_and_some, q_or_atom, q_or_equal, q_or_not, q_or_and, q_or_or, q_or_implies, q_or_iff, q_or_all, q_or_some, q_implies_atom, q_implies_equal, q_implies_not, q_implies_and, q_implies_or, q_implies_implies, q_implies_iff, q_implies_all, q_implies_some, q_iff_atom, q_iff_equal, q_iff_not, q_iff_and, q_iff_or, q_iff_implies, q_iff_iff, q_iff_all, q_iff_some, q_all_atom, q_all_equal, q_all_not, q_all_and, q_all_or, q_all_implies, q_all_iff, q_all_all, q_all_some, q_some_atom, q_some_equal, q_some_not, q_some_and, q_some_or, q_some_implies, q_some_iff, q_some_all, q_some_some, m3, e, e2, e3, e4, isRet, Bo.s]
end
section
variable {row f ln W : D} {s : Bool} {y5 y6 : Option O} {L : SM}
theorem z3_nx (hy : L [some (.val (.tup [qw s, ln, f])), some (.val W), some (.val row), some (.val (qw s)), none, none, none, none] = .nx [some (.val (.tup [qw s, ln, f])), some (.val W), some (.val row), some (.val (qw s)), none, none, y5, y6]) : isRet (.val (.bl (!s))) (mSeq L (mRet (mOp2 eqX (oP FID 3 []) (oV (mCon (.str "all"))))) [some (.val (.tup [qw s, ln, f])), some (.val W), some (.val row), some (.val (qw s)), none, none, none, none]) := by
  rw [mSeq_nx hy]
  cases s
  · rw [qw_all] at *
    simp [runB, mSeq, mIfS, mTst, mOp2, PL.m2, oV, oP, mCon, getP, setP, ownP, frzs, frz, ixX_t, ixX_l, at0, at1, at2, at3, ixN_30, ixN_32, cmpD, mPut, intD, addD, lenD, mOp1, intF, modC, divC, mSet, mRet, mTake, maskE, mSlot, mRd, mAnd, mOr, mNot, mTr, truD, mTup, mNil, mCons, mCallF, mCall, xNil, xIn, xIo, fillIn, backIn, mSkip, mDrop, mRetN, isi_i, isi_t, isi_b, lenOk, mLst, mApp, appO, mFor, mRng, aName, mIt, seqOf, eqX_int, eqX_bl, neD_int, q_atom_atom, q_atom_equal, q_atom_not, q_atom_and, q_atom_or, q_atom_implies, q_atom_iff, q_atom_all, q_atom_some, q_equal_atom, q_equal_equal, q_equal_not, q_equal_and, q_equal_or, q_equal_implies, q_equal_iff, q_equal_all, q_equal_some, q_not_atom, q_not_equal, q_not_not, q_not_and, q_not_or, q_not_implies, q_not_iff, q_not_all, q_not_some, q_and_atom, q_and_equal, q_and_not, q_and_and, q_and_or, q_and_implies, q_and_iff, q_and_all, q_and_some, q_or_atom, q_or_equal, q_or_not, q_or_and, q_or_or, q_or_implies, q_or_iff, q_or_all, q_or_some, q_implies_atom, q_implies_equal, q_implies_not, q_implies_and, q_implies_or, q_implies_implies, q_implies_iff, q_implies_all, q_implies_some, q_iff_atom, q_iff_equal, q_iff_not, q_iff_and, q_iff_or, q_iff_implies, q_iff_iff, q_iff_all, q_iff_some, q_all_atom, q_all_equal, q_all_not, q_all_and, q_all_or, q_all_implies, q_all_iff, q_all_all, q_all_some, q_some_atom, q_some_equal, q_some_not, q_some_and, q_some_or, q_some_implies, q_some_iff, q_some_all, q_some_some, isRet]
  · rw [qw_some] at *
    simp [runB, mSeq, mIfS, mTst, mOp2, PL.m2, oV, oP, mCon, getP, setP, ownP, frzs, frz, ixX_t, ixX_l, at0, at1, at2, at3, ixN_30, ixN_32, cmpD, mPut, intD, addD, lenD, mOp1, intF, modC, divC, mSet, mRet, mTake, maskE, mSlot, mRd, mAnd, mOr, mNot, mTr, truD, mTup, mNil, mCons, mCallF, mCall, xNil, xIn, xIo, fillIn, backIn, mSkip, mDrop, mRetN, isi_i, isi_t, isi_b, lenOk, mLst, mApp, appO, mFor, mRng, aName, mIt, seqOf, eqX_int, eqX_bl, neD_int, q_atom_atom, q_atom_equal, q_atom_not, q_atom_and, q_atom_or, q_atom_implies, q_atom_iff, q_atom_all, q_atom_some, q_equal_atom, q_equal_equal, q_equal_not, q_equal_and, q_equal_or, q_equal_implies, q_equal_iff, q_equal_all, q_equal_some, q_not_atom, q_not_equal, q_not_not, q_not_and, q_not_or, q_not_implies, q_not_iff, q_not_all, q_not_some, q_and_atom, q_and_equal, q_and_not, q_and_and, q_and_or, q_and_implies, q_and_iff, q_and_all, q_and_some, q_or_atom, q_or_equal, q_or_not, q_or_and, q_or_or, q_or_implies, q_or_iff, q_or_all, q_or_some, q_implies_atom, q_implies_equal, q_implies_not, q_implies_and, q_implies_or, q_implies_implies, q_implies_iff, q_implies_all, q_implies_some, q_iff_atom, q_iff_equal, q_iff_not, q_iff_and, q_iff_or, q_iff_implies, q_iff_iff, q_iff_all, q_iff_some, q_all_atom, q_all_equal, q_all_not, q_all_and, q_all_or, q_all_implies, q_all_iff, q_all_all, q_all_some, q_some_atom, q_some_equal, q_some_not, q_some_and, q_some_or, q_some_implies, q_some_iff, q_some_all, q_some_some, isRet]

theorem z3_ret {q : Bool} (hy : L [some (.val (.tup [qw s, ln, f])), some (.val W), some (.val row), some (.val (qw s)), none, none, none, none] = .ret (.val (.bl q)) [some (.val (.tup [qw s, ln, f])), some (.val W), some (.val row), some (.val (qw s)), none, none, y5, y6]) : isRet (.val (.bl q)) (mSeq L (mRet (mOp2 eqX (oP FID 3 []) (oV (mCon (.str "all"))))) [some (.val (.tup [qw s, ln, f])), some (.val W), some (.val row), some (.val (qw s)), none, none, none, none]) := by
  unfold mSeq
  rw [hy]
  rfl
theorem z3_pre {w : PySem.World} {cf cg : Nat → FM} : m3 w cf cg [some (.val (.tup [qw s, ln, f])), some (.val W), some (.val row), none, none, none, none, none] = mSeq (mFor (mRng (oP FID 1 [0])) (aName 6) (b3_0 w cf cg)) (mRet (mOp2 eqX (oP FID 3 []) (oV (mCon (.str "all"))))) [some (.val (.tup [qw s, ln, f])), some (.val W), some (.val row), some (.val (qw s)), none, none, none, none] := by
  unfold m3
  have h0 : mSet 3 (mOp2 ixX (oP FID 0 []) (oV (mCon (.int 0)))) [some (.val (.tup [qw s, ln, f])), some (.val W), some (.val row), none, none, none, none, none] = .nx [some (.val (.tup [qw s, ln, f])), some (.val W), some (.val row), some (.val (qw s)), none, none, none, none] := by simp [runB, mSeq, mIfS, mTst, mOp2, PL.m2, oV, oP, mCon, getP, setP, ownP, frzs, frz, ixX_t, ixX_l, at0, at1, at2, at3, ixN_30, ixN_32, cmpD, mPut, intD, addD, lenD, mOp1, intF, modC, divC, mSet, mRet, mTake, maskE, mSlot, mRd, mAnd, mOr, mNot, mTr, truD, mTup, mNil, mCons, mCallF, mCall, xNil, xIn, xIo, fillIn, backIn, mSkip, mDrop, mRetN, isi_i, isi_t, isi_b, lenOk, mLst, mApp, appO, mFor, mRng, aName, mIt, seqOf, eqX_int, eqX_bl, neD_int]
  have h1 : ∀ A : SM, mIfS (mTst (mOp2 eqX (oP FID 3 []) (oV (mCon (.str "atom"))))) A mSkip [some (.val (.tup [qw s, ln, f])), some (.val W), some (.val row), some (.val (qw s)), none, none, none, none] = .nx [some (.val (.tup [qw s, ln, f])), some (.val W), some (.val row), some (.val (qw s)), none, none, none, none] := fun A => by
    cases s
    · rw [qw_all] at *
      simp [runB, mSeq, mIfS, mTst, mOp2, PL.m2, oV, oP, mCon, getP, setP, ownP, frzs, frz, ixX_t, ixX_l, at0, at1, at2, at3, ixN_30, ixN_32, cmpD, mPut, intD, addD, lenD, mOp1, intF, modC, divC, mSet, mRet, mTake, maskE, mSlot, mRd, mAnd, mOr, mNot, mTr, truD, mTup, mNil, mCons, mCallF, mCall, xNil, xIn, xIo, fillIn, backIn, mSkip, mDrop, mRetN, isi_i, isi_t, isi_b, lenOk, mLst, mApp, appO, mFor, mRng, aName, mIt, seqOf, eqX_int, eqX_bl, neD_int, q_atom_atom, q_atom_equal, q_atom_not, q_atom_and, q_atom_or, q_atom_implies, q_atom_iff, q_atom_all, q_atom_some, q_equal_atom, q_equal_equal, q_equal_not, q_equal_and, q_equal_or, q_equal_implies, q_equal_iff, q_equal_all, q_equal_some, q_not_atom, q_not_equal, q_not_not, q_not_and, q_not_or, q_not_implies, q_not_iff, q_not_all, q_not_some, q_and_atom, q_and_equal, q_and_not, q_and_and, q_and_or, q_and_implies, q_and_iff, q_and_all, q_and_some, q_or_atom, q_or_equal, q_or_not, q_or_and, q_or_or, q_or_implies, q_or_iff, q_or_all, q_or_some, q_implies_atom, q_implies_equal, q_implies_not, q_implies_and, q_implies_or, q_implies_implies, q_implies_iff, q_implies_all, q_implies_some, q_iff_atom, q_iff_equal, q_iff_not, q_iff_and, q_iff_or, q_iff_implies, q_iff_iff, q_iff_all, q_iff_some, q_all_atom, q_all_equal, q_all_not, q_all_and, q_all_or, q_all_implies, q_all_iff, q_all_all, q_all_some, q_some_atom, q_some_equal, q_some_not, q_some_and, q_some_or, q_some_implies, q_some_iff, q_some_all, q_some_some]
    · rw [qw_some] at *
      simp [runB, mSeq, mIfS, mTst, mOp2, PL.m2, oV, oP, mCon, getP, setP, ownP, frzs, frz, ixX_t, ixX_l, at0, at1, at2, at3, ixN_30, ixN_32, cmpD, mPut, intD, addD, lenD, mOp1, intF, modC, divC, mSet, mRet, mTake, maskE, mSlot, mRd, mAnd, mOr, mNot, mTr, truD, mTup, mNil, mCons, mCallF, mCall, xNil, xIn, xIo, fillIn, backIn, mSkip, mDrop, mRetN, isi_i, isi_t, isi_b, lenOk, mLst, mApp, appO, mFor, mRng, aName, mIt, seqOf, eqX_int, eqX_bl, neD_int, q_atom_atom, q_atom_equal, q_atom_not, q_atom_and, q_atom_or, q_atom_implies, q_atom_iff, q_atom_all, q_atom_some, q_equal_atom, q_equal_equal, q_equal_not, q_equal_and, q_equal_or, q_equal_implies, q_equal_iff, q_equal_all, q_equal_some, q_not_atom, q_not_equal, q_not_not, q_not_and, q_not_or, q_not_implies, q_not_iff, q_not_all, q_not_some, q_and_atom, q_and_equal, q_and_not, q_and_and, q_and_or, q_and_implies, q_and_iff, q_and_all, q_and_some, q_or_atom, q_or_equal, q_or_not, q_or_and, q_or_or, q_or_implies, q_or_iff, q_or_all, q_or_some, q_implies_atom, q_implies_equal, q_implies_not, q_implies_and, q_implies_or, q_implies_implies, q_implies_iff, q_implies_all, q_implies_some, q_iff_atom, q_iff_equal, q_iff_not, q_iff_and, q_iff_or, q_iff_implies, q_iff_iff, q_iff_all, q_iff_some, q_all_atom, q_all_equal, q_all_not, q_all_and, q_all_or, q_all_implies, q_all_iff, q_all_all, q_all_some, q_some_atom, q_some_equal, q_some_not, q_some_and, q_some_or, q_some_implies, q_some_iff, q_some_all, q_some_some]
  have h2 : ∀ A : SM, mIfS (mTst (mOp2 eqX (oP FID 3 []) (oV (mCon (.str "equal"))))) A mSkip [some (.val (.tup [qw s, ln, f])), some (.val W), some (.val row), some (.val (qw s)), none, none, none, none] = .nx [some (.val (.tup [qw s, ln, f])), some (.val W), some (.val row), some (.val (qw s)), none, none, none, none] := fun A => by
    cases s
    · rw [qw_all] at *
      simp [runB, mSeq, mIfS, mTst, mOp2, PL.m2, oV, oP, mCon, getP, setP, ownP, frzs, frz, ixX_t, ixX_l, at0, at1, at2, at3, ixN_30, ixN_32, cmpD, mPut, intD, addD, lenD, mOp1, intF, modC, divC, mSet, mRet, mTake, maskE, mSlot, mRd, mAnd, mOr, mNot, mTr, truD, mTup, mNil, mCons, mCallF, mCall, xNil, xIn, xIo, fillIn, backIn, mSkip, mDrop, mRetN, isi_i, isi_t, isi_b, lenOk, mLst, mApp, appO, mFor, mRng, aName, mIt, seqOf, eqX_int, eqX_bl, neD_int, q_atom_atom, q_atom_equal, q_atom_not, q_atom_and, q_atom_or, q_atom_implies, q_atom_iff, q_atom_all, q_atom_some, q_equal_atom, q_equal_equal, q_equal_not, q_equal_and, q_equal_or, q_equal_implies, q_equal_iff, q_equal_all, q_equal_some, q_not_atom, q_not_equal, q_not_not, q_not_and, q_not_or, q_not_implies, q_not_iff, q_not_all, q_not_some, q_and_atom, q_and_equal, q_and_not, q_and_and, q_and_or, q_and_implies, q_and_iff, q_and_all, q_and_some, q_or_atom, q_or_equal, q_or_not, q_or_and, q_or_or, q_or_implies, q_or_iff, q_or_all, q_or_some, q_implies_atom, q_implies_equal, q_implies_not, q_implies_and, q_implies_or, q_implies_implies, q_implies_iff, q_implies_all, q_implies_some, q_iff_atom, q_iff_equal, q_iff_not, q_iff_and, q_iff_or, q_iff_implies, q_iff_iff, q_iff_all, q_iff_some, q_all_atom, q_all_equal, q_all_not, q_all_and, q_all_or, q_all_implies, q_all_iff, q_all_all, q_all_some, q_some_atom, q_some_equal, q_some_not, q_some_and, q_some_or, q_some_implies, q_some_iff, q_some_all, q_some_some]
    · rw [qw_some] at *
      simp [runB, mSeq, mIfS, mTst, mOp2, PL.m2, oV, oP, mCon, getP, setP, ownP, frzs, frz, ixX_t, ixX_l, at0, at1, at2, at3, ixN_30, ixN_32, cmpD, mPut, intD, addD, lenD, mOp1, intF, modC, divC, mSet, mRet, mTake, maskE, mSlot, mRd, mAnd, mOr, mNot, mTr, truD, mTup, mNil, mCons, mCallF, mCall, xNil, xIn, xIo, fillIn, backIn, mSkip, mDrop, mRetN, isi_i, isi_t, isi_b, lenOk, mLst, mApp, appO, mFor, mRng, aName, mIt, seqOf, eqX_int, eqX_bl, neD_int, q_atom_atom, q_atom_equal, q_atom_not, q_atom_and, q_atom_or, q_atom_implies, q_atom_iff, q_atom_all, q_atom_some, q_equal_atom, q_equal_equal, q_equal_not, q_equal_and, q_equal_or, q_equal_implies, q_equal_iff, q_equal_all, q_equal_some, q_not_atom, q_not_equal, q_not_not, q_not_and, q_not_or, q_not_implies, q_not_iff, q_not_all, q_not_some, q_and_atom, q_and_equal, q_and_not, q_and_and, q_and_or, q_and_implies, q_and_iff, q_and_all, q_and_some, q_or_atom, q_or_equal, q_or_not, q_or_and, q_or_or, q_or_implies, q_or_iff, q_or_all, q_or_some, q_implies_atom, q_implies_equal, q_implies_not, q_implies_and, q_implies_or, q_implies_implies, q_implies_iff, q_implies_all, q_implies_some, q_iff_atom, q_iff_equal, q_iff_not, q_iff_and, q_iff_or, q_iff_implies, q_iff_iff, q_iff_all, q_iff_some, q_all_atom, q_all_equal, q_all_not, q_all_and, q_all_or, q_all_implies, q_all_iff, q_all_all, q_all_some, q_some_atom, q_some_equal, q_some_not, q_some_and, q_some_or, q_some_implies, q_some_iff, q_some_all, q_some_some]
  have h3 : ∀ A : SM, mIfS (mTst (mOp2 eqX (oP FID 3 []) (oV (mCon (.str "not"))))) A mSkip [some (.val (.tup [qw s, ln, f])), some (.val W), some (.val row), some (.val (qw s)), none, none, none, none] = .nx [some (.val (.tup [qw s, ln, f])), some (.val W), some (.val row), some (.val (qw s)), none, none, none, none] := fun A => by
    cases s
    · rw [qw_all] at *
      simp [runB, mSeq, mIfS, mTst, mOp2, PL.m2, oV, oP, mCon, getP, setP, ownP, frzs, frz, ixX_t, ixX_l, at0, at1, at2, at3, ixN_30, ixN_32, cmpD, mPut, intD, addD, lenD, mOp1, intF, modC, divC, mSet, mRet, mTake, maskE, mSlot, mRd, mAnd, mOr, mNot, mTr, truD, mTup, mNil, mCons, mCallF, mCall, xNil, xIn, xIo, fillIn, backIn, mSkip, mDrop, mRetN, isi_i, isi_t, isi_b, lenOk, mLst, mApp, appO, mFor, mRng, aName, mIt, seqOf, eqX_int, eqX_bl, neD_int, q_atom_atom, q_atom_equal, q_atom_not, q_atom_and, q_atom_or, q_atom_implies, q_atom_iff, q_atom_all, q_atom_some, q_equal_atom, q_equal_equal, q_equal_not, q_equal_and, q_equal_or, q_equal_implies, q_equal_iff, q_equal_all, q_equal_some, q_not_atom, q_not_equal, q_not_not, q_not_and, q_not_or, q_not_implies, q_not_iff, q_not_all, q_not_some, q_and_atom, q_and_equal, q_and_not, q_and_and, q_and_or, q_and_implies, q_and_iff, q_and_all, q_and_some, q_or_atom, q_or_equal, q_or_not, q_or_and, q_or_or, q_or_implies, q_or_iff, q_or_all, q_or_some, q_implies_atom, q_implies_equal, q_implies_not, q_implies_and, q_implies_or, q_implies_implies, q_implies_iff, q_implies_all, q_implies_some, q_iff_atom, q_iff_equal, q_iff_not, q_iff_and, q_iff_or, q_iff_implies, q_iff_iff, q_iff_all, q_iff_some, q_all_atom, q_all_equal, q_all_not, q_all_and, q_all_or, q_all_implies, q_all_iff, q_all_all, q_all_some, q_some_atom, q_some_equal, q_some_not, q_some_and, q_some_or, q_some_implies, q_some_iff, q_some_all, q_some_some]
    · rw [qw_some] at *
      simp [runB, mSeq, mIfS, mTst, mOp2, PL.m2, oV, oP, mCon, getP, setP, ownP, frzs, frz, ixX_t, ixX_l, at0, at1, at2, at3, ixN_30, ixN_32, cmpD, mPut, intD, addD, lenD, mOp1, intF, modC, divC, mSet, mRet, mTake, maskE, mSlot, mRd, mAnd, mOr, mNot, mTr, truD, mTup, mNil, mCons, mCallF, mCall, xNil, xIn, xIo, fillIn, backIn, mSkip, mDrop, mRetN, isi_i, isi_t, isi_b, lenOk, mLst, mApp, appO, mFor, mRng, aName, mIt, seqOf, eqX_int, eqX_bl, neD_int, q_atom_atom, q_atom_equal, q_atom_not, q_atom_and, q_atom_or, q_atom_implies, q_atom_iff, q_atom_all, q_atom_some, q_equal_atom, q_equal_equal, q_equal_not, q_equal_and, q_equal_or, q_equal_implies, q_equal_iff, q_equal_all, q_equal_some, q_not_atom, q_not_equal, q_not_not, q_not_and, q_not_or, q_not_implies, q_not_iff, q_not_all, q_not_some, q_and_atom, q_and_equal, q_and_not, q_and_and, q_and_or, q_and_implies, q_and_iff, q_and_all, q_and_some, q_or_atom, q_or_equal, q_or_not, q_or_and, q_or_or, q_or_implies, q_or_iff, q_or_all, q_or_some, q_implies_atom, q_implies_equal, q_implies_not, q_implies_and, q_implies_or, q_implies_implies, q_implies_iff, q_implies_all, q_implies_some, q_iff_atom, q_iff_equal, q_iff_not, q_iff_and, q_iff_or, q_iff_implies, q_iff_iff, q_iff_all, q_iff_some, q_all_atom, q_all_equal, q_all_not, q_all_and, q_all_or, q_all_implies, q_all_iff, q_all_all, q_all_some, q_some_atom, q_some_equal, q_some_not, q_some_and, q_some_or, q_some_implies, q_some_iff, q_some_all, q_some_some]
  have h4 : ∀ A : SM, mIfS (mTst (mOp2 (inX false) (oP FID 3 []) (oV (mCon g_JOINTS)))) A mSkip [some (.val (.tup [qw s, ln, f])), some (.val W), some (.val row), some (.val (qw s)), none, none, none, none] = .nx [some (.val (.tup [qw s, ln, f])), some (.val W), some (.val row), some (.val (qw s)), none, none, none, none] := fun A => by
    cases s
    · rw [qw_all] at *
      simp [runB, mSeq, mIfS, mTst, mOp2, PL.m2, oV, oP, mCon, getP, setP, ownP, frzs, frz, ixX_t, ixX_l, at0, at1, at2, at3, ixN_30, ixN_32, cmpD, mPut, intD, addD, lenD, mOp1, intF, modC, divC, mSet, mRet, mTake, maskE, mSlot, mRd, mAnd, mOr, mNot, mTr, truD, mTup, mNil, mCons, mCallF, mCall, xNil, xIn, xIo, fillIn, backIn, mSkip, mDrop, mRetN, isi_i, isi_t, isi_b, lenOk, mLst, mApp, appO, mFor, mRng, aName, mIt, seqOf, eqX_int, eqX_bl, neD_int, q_atom_atom, q_atom_equal, q_atom_not, q_atom_and, q_atom_or, q_atom_implies, q_atom_iff, q_atom_all, q_atom_some, q_equal_atom, q_equal_equal, q_equal_not, q_equal_and, q_equal_or, q_equal_implies, q_equal_iff, q_equal_all, q_equal_some, q_not_atom, q_not_equal, q_not_not, q_not_and, q_not_or, q_not_implies, q_not_iff, q_not_all, q_not_some, q_and_atom, q_and_equal, q_and_not, q_and_and, q_and_or, q_and_implies, q_and_iff, q_and_all, q_and_some, q_or_atom, q_or_equal, q_or_not, q_or_and, q_or_or, q_or_implies, q_or_iff, q_or_all, q_or_some, q_implies_atom, q_implies_equal, q_implies_not, q_implies_and, q_implies_or, q_implies_implies, q_implies_iff, q_implies_all, q_implies_some, q_iff_atom, q_iff_equal, q_iff_not, q_iff_and, q_iff_or, q_iff_implies, q_iff_iff, q_iff_all, q_iff_some, q_all_atom, q_all_equal, q_all_not, q_all_and, q_all_or, q_all_implies, q_all_iff, q_all_all, q_all_some, q_some_atom, q_some_equal, q_some_not, q_some_and, q_some_or, q_some_implies, q_some_iff, q_some_all, q_some_some, jn_all]
    · rw [qw_some] at *
      simp [runB, mSeq, mIfS, mTst, mOp2, PL.m2, oV, oP, mCon, getP, setP, ownP, frzs, frz, ixX_t, ixX_l, at0, at1, at2, at3, ixN_30, ixN_32, cmpD, mPut, intD, addD, lenD, mOp1, intF, modC, divC, mSet, mRet, mTake, maskE, mSlot, mRd, mAnd, mOr, mNot, mTr, truD, mTup, mNil, mCons, mCallF, mCall, xNil, xIn, xIo, fillIn, backIn, mSkip, mDrop, mRetN, isi_i, isi_t, isi_b, lenOk, mLst, mApp, appO, mFor, mRng, aName, mIt, seqOf, eqX_int, eqX_bl, neD_int, q_atom_atom, q_atom_equal, q_atom_not, q_atom_and, q_atom_or, q_atom_implies, q_atom_iff, q_atom_all, q_atom_some, q_equal_atom, q_equal_equal, q_equal_not, q_equal_and, q_equal_or, q_equal_implies, q_equal_iff, q_equal_all, q_equal_some, q_not_atom, q_not_equal, q_not_not, q_not_and, q_not_or, q_not_implies, q_not_iff, q_not_all, q_not_some, q_and_atom, q_and_equal, q_and_not, q_and_and, q_and_or, q_and_implies, q_and_iff, q_and_all, q_and_some, q_or_atom, q_or_equal, q_or_not, q_or_and, q_or_or, q_or_implies, q_or_iff, q_or_all, q_or_some, q_implies_atom, q_implies_equal, q_implies_not, q_implies_and, q_implies_or, q_implies_implies, q_implies_iff, q_implies_all, q_implies_some, q_iff_atom, q_iff_equal, q_iff_not, q_iff_and, q_iff_or, q_iff_implies, q_iff_iff, q_iff_all, q_iff_some, q_all_atom, q_all_equal, q_all_not, q_all_and, q_all_or, q_all_implies, q_all_iff, q_all_all, q_all_some, q_some_atom, q_some_equal, q_some_not, q_some_and, q_some_or, q_some_implies, q_some_iff, q_some_all, q_some_some, jn_some]
  rw [mSeq_nx h0, mSeq_nx (h1 _), mSeq_nx (h2 _), mSeq_nx (h3 _), mSeq_nx (h4 _)]
end
theorem h3_qu (w : PySem.World) (cf cg : Nat → FM) {s : Bool} {r : List Nat} {f : D} {V : Nat → Bool} {n : Nat} (hn3 : n ≤ 3) {tbl : D} (h : r.length < 1000)
    (e : ∀ i, i < n → cf 3 [.val f, .val (.ins 0 [.int n, tbl]), .val (.dct (rowK (r ++ [i]).length) (rowV (r ++ [i])))] = .ok (.val (.bl (V i))) [none, none, none]) :
    isRet (.val (.bl (if s = true then (List.range n).any V else (List.range n).all V))) (m3 w cf cg [some (.val (.tup [qw s, .int r.length, f])), some (.val (.ins 0 [.int n, tbl])), some (.val (.dct (rowK r.length) (rowV r))), none, none, none, none, none]) := by
  obtain ⟨y5, y6, hy⟩ := q3l w cf cg (s := s) (x4 := none) (x5 := none) rfl h e (List.range n) (fun j hj => List.mem_range.mp hj) none none
  rw [← rngD_map] at hy
  have hp := z3_pre (row := .dct (rowK r.length) (rowV r)) (f := f) (ln := .int r.length) (W := .ins 0 [.int n, tbl]) (s := s) (w := w) (cf := cf) (cg := cg)
  rw [hp]
  clear hp
  generalize D.dct (rowK r.length) (rowV r) = row at *
  generalize D.int (r.length : Int) = ln at *
  have e1 : mRng (oP FID 1 [0]) [some (.val (.tup [qw s, ln, f])), some (.val (.ins 0 [.int n, tbl])), some (.val row), some (.val (qw s)), none, none, none, none] = .ok (rngD n) [some (.val (.tup [qw s, ln, f])), some (.val (.ins 0 [.int n, tbl])), some (.val row), some (.val (qw s)), none, none, none, none] := rng_ok (n := n) (by omega) rfl
  have e2 := (for_ok (a := aName 6) (b := b3_0 w cf cg) e1).trans hy
  have ha : (if s = true then (List.range n).any V else (List.range n).all V) = (if (List.range n).any (fun i => V i == s) = true then s else !s) := by
    cases s
    · simp only [Bool.false_eq_true, if_false]
      rw [List.all_eq_not_any_not]
      have hb : (fun i => !V i) = fun i => V i == false := by
        funext i
        cases V i <;> rfl
      rw [hb]
      cases (List.range n).any fun i => V i == false <;> rfl
    · have hb : V = fun i => V i == true := by
        funext i
        cases V i <;> rfl
      simp only [if_true]
      rw [← hb]
      cases (List.range n).any V <;> rfl
  rw [ha]
  clear e1 hy
  generalize mFor (mRng (oP FID 1 [0])) (aName 6) (b3_0 w cf cg) = L at e2 ⊢
  generalize D.ins 0 [.int n, tbl] = W at e2 ⊢
  revert e2
  cases hb : (List.range n).any (fun i => V i == s) with
  | true =>
    rw [if_pos rfl, if_pos rfl]
    exact fun e2 => z3_ret e2
  | false =>
    rw [if_neg Bool.false_ne_true, if_neg Bool.false_ne_true]
    exact fun e2 => z3_nx e2
end K63
set_option Elab.async false
set_option linter.all false
set_option maxRecDepth 100000
set_option maxHeartbeats 4000000
namespace K63
open PL
theorem pvq (w : PySem.World) (k : Nat) {n : Nat} {t : Tb} (h : Ful n t .q) (row : D) : callI (T w) (k + 2) 1 [.val (.tup [sy 1 4, .tup []]), .val (wld n t), .val row] = .ok (.val (.int ((t.val .q).getD 0 0))) [none, none, none] := by
  have e : ixX (.dct t.ks t.vs) (.tup [.tup [.int 1, .int 4, .int 0], .int 0]) = some (.val (tupI (t.val .q))) := by
    have := ixX_tb .q t
    rw [ful_get h] at this
    exact this
  obtain ⟨e2, _, _⟩ := ful_at h (i := 0) (show 0 < 1 by decide)
  have e4 : L2.atI ((t.val .q).map D.int) 0 = some (.int ((t.val .q).getD 0 0)) := e2
  have e5 : eqX (.tup [.tup [.int 1, .int 4, .int 0], .tup []]) g_TRUTH = some (.val (.bl false)) := by
    unfold eqX orD eqD
    rw [tru_ok]
    rfl
  have ev := isv_t w k
  rw [callK]
  refine run_ret _ rfl rfl ?_
  simp only [T]
  simp only [tupI] at e
  simp [runB, mSeq, mIfS, mTst, mOp2, PL.m2, oV, oP, mCon, getP, setP, ownP, frzs, frz, ixX_t, ixX_l, at0, at1, at2, at3, ixN_30, ixN_32, cmpD, mPut, intD, addD, lenD, mOp1, intF, modC, divC, mSet, mRet, mTake, maskE, mSlot, mRd, mAnd, mOr, mNot, mTr, truD, mTup, mNil, mCons, mCallF, mCall, xNil, xIn, xIo, fillIn, backIn, mSkip, mDrop, mRetN, isi_i, isi_t, isi_b, lenOk, mLst, mApp, appO, mFor, mRng, aName, mIt, seqOf, eqX_int, eqX_bl, neD_int, m1, sy, e, loop_nil, e4, e5, ev, wld, ixF00, ixF01, isRet]
theorem eq_p {t : Tm} (h : t.dp ≤ 19) : eqX (.tup [.tup [.int 1, .int 5, .int 0], .tup [t.d]]) g_TRUTH = some (.val (.bl false)) := by
  have e : okD (.tup [.tup [.int 1, .int 5, .int 0], .tup [t.d]]) = true := by
    obtain ⟨h1, h2, h3⟩ := tm_lay (.f t)
    unfold okD PySem.SeqAt.shaped
    have e1 : seqD (.tup [.tup [.int 1, .int 5, .int 0], .tup [t.d]]) = true := h1
    have e2 : PySem.PyData.canLay0 (toP (.tup [.tup [.int 1, .int 5, .int 0], .tup [t.d]])) = true := h2
    have e3 : PySem.PyData.depth (toP (.tup [.tup [.int 1, .int 5, .int 0], .tup [t.d]])) ≤ 2 * (t.dp + 1) + 2 := h3
    rw [e1, e2]
    simp only [Bool.true_and, decide_eq_true_eq]
    omega
  unfold eqX orD eqD
  rw [tru_ok, e]
  rfl
theorem pvp (w : PySem.World) {n b : Nat} {t : Tb} {r : List Nat} (hn3 : n ≤ 3) (hr : ∀ x ∈ r, x < n) (hb : r.length = b) (hn : 0 < n) {s : Tm} (k : Nat) (ok : s.ok b) (hd : s.dp ≤ 10) (hf : s.ful n t) (hp : Ful n t .p) : callI (T w) (k + s.dp + 3) 1 [.val (.tup [sy 1 5, .tup [s.d]]), .val (wld n t), .val (.dct (rowK r.length) (rowV r))] = .ok (.val (.int ((t.val .p).getD (s.ev t r).toNat 0))) [none, none, none] := by
  have ih := pval w hn3 hr hb hn s k ok hf hd
  obtain ⟨h1, h2⟩ := ev_rng hr hb hn (s := s) ok hf
  obtain ⟨e2, _, _⟩ := ful_at hp (i := (s.ev t r).toNat) (by show _ < n; omega)
  have e : ixX (.dct t.ks t.vs) (.tup [.tup [.int 1, .int 5, .int 0], .int 1]) = some (.val (tupI (t.val .p))) := by
    have := ixX_tb .p t
    rw [ful_get hp] at this
    exact this
  have e4 : L2.atI ((t.val .p).map D.int) (s.ev t r) = some (.int ((t.val .p).getD (s.ev t r).toNat 0)) := by
    rw [← e2]
    congr 1
    omega
  have m := mul0 hn3
  have e5 := eq_p (t := s) (by omega)
  have ev := isv_t w (k + s.dp + 1)
  rw [callK]
  refine run_ret _ rfl rfl ?_
  simp only [T]
  generalize s.ev t r = x at *
  simp only [tupI] at e
  simp only [wld] at ih
  generalize callI (T w) (k + s.dp + 2 - 1) = cg at *
  have ev2 : callI (T w) (k + s.dp + 2) 0 [.val (.tup [.tup [.int 1, .int 5, .int 0], .tup [s.d]])] = .ok (.val (.bl false)) [none] := ev _
  generalize callI (T w) (k + s.dp + 2) = cf at *
  simp [runB, mSeq, mIfS, mTst, mOp2, PL.m2, oV, oP, mCon, getP, setP, ownP, frzs, frz, ixX_t, ixX_l, at0, at1, at2, at3, ixN_30, ixN_32, cmpD, mPut, intD, addD, lenD, mOp1, intF, modC, divC, mSet, mRet, mTake, maskE, mSlot, mRd, mAnd, mOr, mNot, mTr, truD, mTup, mNil, mCons, mCallF, mCall, xNil, xIn, xIo, fillIn, backIn, mSkip, mDrop, mRetN, isi_i, isi_t, isi_b, lenOk, mLst, mApp, appO, mFor, mRng, aName, mIt, seqOf, eqX_int, eqX_bl, neD_int, m1, b1_0, sy, e, loopF, e4, ih, mulX_int, m, e5, ev2, wld, ixF00, ixF01, isRet]
theorem phold (w : PySem.World) {n : Nat} {t : Tb} (hn3 : n ≤ 3) (hn : 0 < n) : ∀ (f : Fm) (m : Nat) (r : List Nat), f.ok r.length → f.ful n t → (∀ x ∈ r, x < n) → f.dp + 5 ≤ m → r.length + f.dp < 900 → callI (T w) m 3 [.val f.d, .val (wld n t), .val (.dct (rowK r.length) (rowV r))] = .ok (.val (.bl (f.tv n t r))) [none, none, none]
  | f, 0, r, ok, hf, hr, hm, hl => by omega
  | .q, m + 1, r, ok, hf, hr, hm, hl => by
    obtain ⟨j, rfl⟩ : ∃ j, m = j + 2 := ⟨m - 2, by omega⟩
    have e := pvq w j hf (.dct (rowK r.length) (rowV r))
    rw [callK]
    exact run_ret _ rfl rfl (h3_atom w _ _ e)
  | .p s, m + 1, r, ok, hf, hr, hm, hl => by
    have h1 := ok.2
    have hm : 0 + 5 ≤ m + 1 := hm
    have e := pvp w hn3 hr rfl hn (m - s.dp - 3) ok.1 (by omega) hf.2 hf.1
    rw [show m - s.dp - 3 + s.dp + 3 = m by omega] at e
    rw [callK]
    exact run_ret _ rfl rfl (h3_atom w _ _ e)
  | .eq s u, m + 1, r, ok, hf, hr, hm, hl => by
    obtain ⟨o1, o2, o3, o4⟩ := ok
    have hm : 0 + 5 ≤ m + 1 := hm
    have e := pval w hn3 hr rfl hn s (m - s.dp - 2) o1 hf.1 (by omega)
    have e2 := pval w hn3 hr rfl hn u (m - u.dp - 2) o2 hf.2 (by omega)
    rw [show m - s.dp - 2 + s.dp + 2 = m by omega] at e
    rw [show m - u.dp - 2 + u.dp + 2 = m by omega] at e2
    rw [callK]
    exact run_ret _ rfl rfl (h3_eq w _ _ e e2)
  | .no f, m + 1, r, ok, hf, hr, hm, hl => by
    have hm : f.dp + 1 + 5 ≤ m + 1 := hm
    have hl : r.length + (f.dp + 1) < 900 := hl
    have e := phold w hn3 hn f m r ok hf hr (by omega) (by omega)
    rw [callK]
    exact run_ret _ rfl rfl (h3_no w _ _ e)
  | .bi o f g, m + 1, r, ok, hf, hr, hm, hl => by
    have hm : max f.dp g.dp + 1 + 5 ≤ m + 1 := hm
    have hl : r.length + (max f.dp g.dp + 1) < 900 := hl
    have e := phold w hn3 hn f m r ok.1 hf.1 hr (by omega) (by omega)
    have e2 := phold w hn3 hn g m r ok.2 hf.2 hr (by omega) (by omega)
    obtain ⟨j, rfl⟩ : ∃ j, m = j + 1 := ⟨m - 1, by omega⟩
    rw [callK, tv_bi]
    exact run_ret _ rfl rfl (h3_bi w _ _ e e2 (jnd w j o _ _))
  | .qu s b f, m + 1, r, ok, hf, hr, hm, hl => by
    have hm : f.dp + 1 + 5 ≤ m + 1 := hm
    have hl : r.length + (f.dp + 1) < 900 := hl
    obtain ⟨hb, ok⟩ := ok
    subst hb
    have e : ∀ i, i < n → callI (T w) m 3 [.val f.d, .val (wld n t), .val (.dct (rowK (r ++ [i]).length) (rowV (r ++ [i])))] = .ok (.val (.bl (f.tv n t (r ++ [i])))) [none, none, none] := fun i hi => by
      refine phold w hn3 hn f m (r ++ [i]) (by rw [List.length_append]; exact ok) hf (fun x hx => ?_) (by omega) (by rw [List.length_append, List.length_singleton]; omega)
      rcases List.mem_append.mp hx with hx | hx
      · exact hr x hx
      · rw [List.mem_singleton] at hx; omega
    have h := h3_qu w (callI (T w) m) (callI (T w) (m - 1)) (s := s) hn3 (V := fun i => f.tv n t (r ++ [i])) (by omega) e
    rw [callK]
    cases s
    · exact run_ret _ rfl rfl h
    · exact run_ret _ rfl rfl h
theorem pholds (w : PySem.World) {n : Nat} {t : Tb} (hn3 : n ≤ 3) (hn : 0 < n) {f : Fm} {m : Nat} (ok : f.ok 0) (hf : f.ful n t) (hm : f.dp + 6 ≤ m) (hd : f.dp < 900) : callI (T w) m 4 [.val f.d, .val (wld n t)] = .ok (.val (.bl (f.tv n t []))) [none, none] := by
  obtain ⟨j, rfl⟩ : ∃ j, m = j + 1 := ⟨m - 1, by omega⟩
  have e := phold w hn3 hn f j [] ok hf (fun x hx => nomatch hx) (by omega) (by simpa using hd)
  have e2 : D.dct (rowK ([] : List Nat).length) (rowV []) = .dct [] [] := rfl
  rw [e2] at e
  rw [callK]
  refine run_ret _ rfl rfl ?_
  show isRet _ (m4 w (callI (T w) j) (callI (T w) (j - 1)) _)
  generalize callI (T w) j = cf at *
  generalize wld n t = W at *
  simp [runB, mSeq, mIfS, mTst, mOp2, PL.m2, oV, oP, mCon, getP, setP, ownP, frzs, frz, ixX_t, ixX_l, at0, at1, at2, at3, ixN_30, ixN_32, cmpD, mPut, intD, addD, lenD, mOp1, intF, modC, divC, mSet, mRet, mTake, maskE, mSlot, mRd, mAnd, mOr, mNot, mTr, truD, mTup, mNil, mCons, mCallF, mCall, xNil, xIn, xIo, fillIn, backIn, mSkip, mDrop, mRetN, isi_i, isi_t, isi_b, lenOk, mLst, mApp, appO, mFor, mRng, aName, mIt, seqOf, eqX_int, eqX_bl, neD_int, m4, mDnew, frz, e, isRet]
end K63
set_option Elab.async false
set_option linter.all false
set_option maxRecDepth 100000
set_option maxHeartbeats 4000000
namespace K63
open PL
/-! ### the tables drawn -/
abbrev DigOk (cf : Nat → FM) (rs : List Int) : Prop := ∀ (a c n : Int), 0 < n → n < 1000000 → ∃ d a' c', 0 ≤ d ∧ d < n ∧ cf 15 [St a rs c, .val (.int n)] = .ok (.val (.int d)) [some (St a' rs c'), none]
section
variable (w : PySem.World) (cf cg : Nat → FM) {rs : List Int} {us tb : Option O} {n : Nat} (hn : n ≤ 3) (hd : DigOk cf rs) (u : Us)
def E25 (rs : List Int) (us tb : Option O) (n : Nat) (u : Us) (a c : Int) (x6 : Option O) : Env := [some (St a rs c), us, some (.val (.int n)), tb, some (.val (sy u.a u.b)), some (.val (.int u.ar)), x6, none]
theorem lim_le (n : Nat) (hn : n ≤ 3) (u : Us) : lim n u ≤ 3 := by unfold lim; split <;> omega
theorem cnt_le (n : Nat) (hn : n ≤ 3) (u : Us) : cnt n u ≤ 3 := by unfold cnt; split <;> omega
include hn hd in
theorem te25 (e24 : cf 24 [.val (sy u.a u.b), .val (.int n)] = .ok (.val (.int (lim n u))) [none, none]) (a c : Int) (x6 : Option O) (j : D) : ∃ d a' c', e25_0 w cf cg [some (St a rs c), us, some (.val (.int n)), tb, some (.val (sy u.a u.b)), some (.val (.int u.ar)), x6, some (.val j)] = .ok (.val (.int d)) [some (St a' rs c'), us, some (.val (.int n)), tb, some (.val (sy u.a u.b)), some (.val (.int u.ar)), x6, some (.val j)] := by
  have hl := lim_le n hn u
  obtain ⟨d, a', c', h0, h1, e⟩ := hd a c (if (lim n u : Int) > 1 then lim n u else 1) (by split <;> omega) (by split <;> omega)
  refine ⟨d, a', c', ?_⟩
  simp [runB, mSeq, mIfS, mTst, mOp2, PL.m2, oV, oP, mCon, getP, setP, ownP, frzs, frz, ixX_t, ixX_l, at0, at1, at2, at3, ixN_30, ixN_32, cmpD, mPut, intD, addD, lenD, mOp1, intF, modC, divC, mSet, mRet, mTake, maskE, mSlot, mRd, mAnd, mOr, mNot, mTr, truD, mTup, mNil, mCons, mCallF, mCall, xNil, xIn, xIo, fillIn, backIn, mSkip, mDrop, mRetN, isi_i, isi_t, isi_b, lenOk, mLst, mApp, appO, mFor, mRng, aName, mIt, seqOf, eqX_int, eqX_bl, neD_int, e25_0, maxF, e24, e]
theorem ints_of : ∀ {os : List O}, (∀ o ∈ os, ∃ z : Int, o = .val (.int z)) → ∃ l : List Int, os = l.map fun i => .val (.int i)
  | [], _ => ⟨[], rfl⟩
  | o :: os, h => by
    obtain ⟨z, rfl⟩ := h o (List.mem_cons_self ..)
    obtain ⟨l, rfl⟩ := ints_of (os := os) fun o m => h o (List.mem_cons_of_mem _ m)
    exact ⟨z :: l, rfl⟩
include hn hd in
theorem ta25 (e24 : cf 24 [.val (sy u.a u.b), .val (.int n)] = .ok (.val (.int (lim n u))) [none, none]) (e23 : cf 23 [.val (.int n), .val (.int u.ar)] = .ok (.val (.int (cnt n u))) [none, none]) (a c : Int) (x6 : Option O) :
    ∃ l a' c', l.length ≤ 3 ∧ mSet 6 (mLc [7] (mRng (oV (mCallF (cf 23) (mCons (mSlot 2) (mCons (mSlot 5) mNil))))) (aName 7) mYes (e25_0 w cf cg)) (E25 rs us tb n u a c x6) = .nx (E25 rs us tb n u a' c' (some (intsO l))) := by
  have hc := cnt_le n hn u
  obtain ⟨os, r', h1, ⟨a', c', h2⟩, h3, h4⟩ := lc_inv (own := [7]) (a := aName 7) (m := e25_0 w cf cg) (fun r => ∃ a c, r = E25 rs us tb n u a c x6) (fun o => ∃ z : Int, o = .val (.int z)) (ds := rngD (cnt n u)) (r := E25 rs us tb n u a c x6) (fun d _ r ⟨a, c, hr⟩ => by
    subst hr
    obtain ⟨z, a', c', e⟩ := te25 w cf cg hn hd u (us := us) (tb := tb) e24 a c x6 d
    exact ⟨_, _, _, rfl, e, ⟨a', c', rfl⟩, z, rfl⟩) ⟨a, c, rfl⟩
  obtain ⟨l, rfl⟩ := ints_of h4
  rw [rng_len, List.length_map] at h3
  refine ⟨l, a', c', by omega, ?_⟩
  have e1 : mRng (oV (mCallF (cf 23) (mCons (mSlot 2) (mCons (mSlot 5) mNil)))) (E25 rs us tb n u a c x6) = .ok (rngD (cnt n u)) (E25 rs us tb n u a c x6) := by
    have hb1 : (-4611686018427387904 : Int) ≤ (cnt n u : Int) := by omega
    have hb2 : (cnt n u : Int) < 4611686018427387904 := by omega
    simp [runB, mSeq, mIfS, mTst, mOp2, PL.m2, oV, oP, mCon, getP, setP, ownP, frzs, frz, ixX_t, ixX_l, at0, at1, at2, at3, ixN_30, ixN_32, cmpD, mPut, intD, addD, lenD, mOp1, intF, modC, divC, mSet, mRet, mTake, maskE, mSlot, mRd, mAnd, mOr, mNot, mTr, truD, mTup, mNil, mCons, mCallF, mCall, xNil, xIn, xIo, fillIn, backIn, mSkip, mDrop, mRetN, isi_i, isi_t, isi_b, lenOk, mLst, mApp, appO, mFor, mRng, aName, mIt, seqOf, eqX_int, eqX_bl, neD_int, E25, e23, hb1, hb2]
  have e2 : wipeE (E25 rs us tb n u a c x6) [7] = E25 rs us tb n u a c x6 := rfl
  have e3 : lenOk ((l.map fun i => O.val (.int i)).length + 1) = true := lenOk_lt (by rw [List.length_map]; omega)
  unfold mSet mLc
  rw [e1]
  dsimp only
  rw [e2, h1]
  dsimp only
  rw [if_pos e3, h2]
  rfl
theorem frzs_in (l : List Int) : frzs (l.map (O.val ∘ D.int)) = l.map .int := frzs_ints l
include hd in
theorem tb25 (a c : Int) {l : List Int} (hl : l.length < 1000) : ∃ l' a' c', l'.length ≤ l.length + 1 ∧ mIfS (mTst (mOp2 eqX (oV (mCall (cf 15) [some 0, none] (xIo 0 (xIn (mCon (.int 12)) xNil)))) (oV (mCon (.int 0))))) (mDrop (mApp FID 6 [] (mCon (.int 0)))) mSkip (E25 rs us tb n u a c (some (intsO l))) = .nx (E25 rs us tb n u a' c' (some (intsO l'))) := by
  obtain ⟨d, a', c', h0, h1, e⟩ := hd a c 12 (by decide) (by decide)
  by_cases hz : d = 0
  · subst hz
    have hl2 : l.length ≤ 16777215 := by omega
    refine ⟨l ++ [0], a', c', by rw [List.length_append]; exact Nat.le_refl _, ?_⟩
    simp [runB, mSeq, mIfS, mTst, mOp2, PL.m2, oV, oP, mCon, getP, setP, ownP, frzs, frz, ixX_t, ixX_l, at0, at1, at2, at3, ixN_30, ixN_32, cmpD, mPut, intD, addD, lenD, mOp1, intF, modC, divC, mSet, mRet, mTake, maskE, mSlot, mRd, mAnd, mOr, mNot, mTr, truD, mTup, mNil, mCons, mCallF, mCall, xNil, xIn, xIo, fillIn, backIn, mSkip, mDrop, mRetN, isi_i, isi_t, isi_b, lenOk, mLst, mApp, appO, mFor, mRng, aName, mIt, seqOf, eqX_int, eqX_bl, neD_int, E25, e, intsO, hl2]
  · refine ⟨l, a', c', by omega, ?_⟩
    simp [runB, mSeq, mIfS, mTst, mOp2, PL.m2, oV, oP, mCon, getP, setP, ownP, frzs, frz, ixX_t, ixX_l, at0, at1, at2, at3, ixN_30, ixN_32, cmpD, mPut, intD, addD, lenD, mOp1, intF, modC, divC, mSet, mRet, mTake, maskE, mSlot, mRd, mAnd, mOr, mNot, mTr, truD, mTup, mNil, mCons, mCallF, mCall, xNil, xIn, xIo, fillIn, backIn, mSkip, mDrop, mRetN, isi_i, isi_t, isi_b, lenOk, mLst, mApp, appO, mFor, mRng, aName, mIt, seqOf, eqX_int, eqX_bl, neD_int, E25, e, intsO, hz]
theorem sl_ints (l : List Int) (lo hi : Option Int) : ∃ l' : List Int, l'.length ≤ l.length ∧ slD (.lst (l.map .int)) lo hi = some (intsO l') := by
  refine ⟨(l.drop (HT.sIx (l.map D.int).length 0 lo)).take (HT.sIx (l.map D.int).length (l.map D.int).length hi - HT.sIx (l.map D.int).length 0 lo), ?_, ?_⟩
  · rw [List.length_take, List.length_drop]; omega
  · unfold slD intsO
    dsimp only
    generalize HT.sIx (l.map D.int).length (l.map D.int).length hi - HT.sIx (l.map D.int).length 0 lo = x
    generalize HT.sIx (l.map D.int).length 0 lo = y
    rw [List.map_take, List.map_drop, List.map_take, List.map_drop, List.map_map]
    rfl
include hd in
theorem tc25 (a c : Int) {l : List Int} (hl : l.length < 1000) : ∃ l' a' c', l'.length ≤ l.length ∧ mIfS (mTst (mOp2 eqX (oV (mCall (cf 15) [some 0, none] (xIo 0 (xIn (mCon (.int 12)) xNil)))) (oV (mCon (.int 0))))) (mSet 6 (mSl (oP FID 6 []) (pSome (oV (mCon (.int 1)))) pNone)) mSkip (E25 rs us tb n u a c (some (intsO l))) = .nx (E25 rs us tb n u a' c' (some (intsO l'))) := by
  obtain ⟨d, a', c', h0, h1, e⟩ := hd a c 12 (by decide) (by decide)
  by_cases hz : d = 0
  · subst hz
    obtain ⟨l', hl', es⟩ := sl_ints l (some 1) none
    refine ⟨l', a', c', hl', ?_⟩
    simp only [intsO] at es ⊢
    simp [runB, mSeq, mIfS, mTst, mOp2, PL.m2, oV, oP, mCon, getP, setP, ownP, frzs, frz, ixX_t, ixX_l, at0, at1, at2, at3, ixN_30, ixN_32, cmpD, mPut, intD, addD, lenD, mOp1, intF, modC, divC, mSet, mRet, mTake, maskE, mSlot, mRd, mAnd, mOr, mNot, mTr, truD, mTup, mNil, mCons, mCallF, mCall, xNil, xIn, xIo, fillIn, backIn, mSkip, mDrop, mRetN, isi_i, isi_t, isi_b, lenOk, mLst, mApp, appO, mFor, mRng, aName, mIt, seqOf, eqX_int, eqX_bl, neD_int, E25, e, mSl, pSome, pNone, frzs_in, frzs_ints, es]
  · refine ⟨l, a', c', by omega, ?_⟩
    simp [runB, mSeq, mIfS, mTst, mOp2, PL.m2, oV, oP, mCon, getP, setP, ownP, frzs, frz, ixX_t, ixX_l, at0, at1, at2, at3, ixN_30, ixN_32, cmpD, mPut, intD, addD, lenD, mOp1, intF, modC, divC, mSet, mRet, mTake, maskE, mSlot, mRd, mAnd, mOr, mNot, mTr, truD, mTup, mNil, mCons, mCallF, mCall, xNil, xIn, xIo, fillIn, backIn, mSkip, mDrop, mRetN, isi_i, isi_t, isi_b, lenOk, mLst, mApp, appO, mFor, mRng, aName, mIt, seqOf, eqX_int, eqX_bl, neD_int, E25, e, intsO, hz]
include hd in
theorem td25 (e24 : cf 24 [.val (sy u.a u.b), .val (.int n)] = .ok (.val (.int (lim n u))) [none, none]) (a c : Int) {l : List Int} (hl : l.length < 1000) : ∃ l' a' c', l'.length = l.length ∧ mIfS (mAnd (mTst (mOp2 gtD (oV (mOp1 lenD (oP FID 6 []))) (oV (mCon (.int 0))))) (mTst (mOp2 eqX (oV (mCall (cf 15) [some 0, none] (xIo 0 (xIn (mCon (.int 12)) xNil)))) (oV (mCon (.int 0)))))) (mPut FID 6 [] (oV (mCall (cf 15) [some 0, none] (xIo 0 (xIn (mOp1 lenD (oP FID 6 [])) xNil)))) (mCallF (cf 24) (mCons (mSlot 4) (mCons (mSlot 2) mNil)))) mSkip (E25 rs us tb n u a c (some (intsO l))) = .nx (E25 rs us tb n u a' c' (some (intsO l'))) := by
  by_cases h0 : 0 < l.length
  · obtain ⟨d, a1, c1, i0, i1, e1⟩ := hd a c 12 (by decide) (by decide)
    by_cases hz : d = 0
    · subst hz
      obtain ⟨z, a2, c2, j0, j1, e2⟩ := hd a1 c1 l.length (by omega) (by omega)
      have hi : L2.ixN l.length z = some z.toNat := ixN_ok j0 j1
      refine ⟨l.set z.toNat (lim n u), a2, c2, by rw [List.length_set], ?_⟩
      simp [runB, mSeq, mIfS, mTst, mOp2, PL.m2, oV, oP, mCon, getP, setP, ownP, frzs, frz, ixX_t, ixX_l, at0, at1, at2, at3, ixN_30, ixN_32, cmpD, mPut, intD, addD, lenD, mOp1, intF, modC, divC, mSet, mRet, mTake, maskE, mSlot, mRd, mAnd, mOr, mNot, mTr, truD, mTup, mNil, mCons, mCallF, mCall, xNil, xIn, xIo, fillIn, backIn, mSkip, mDrop, mRetN, isi_i, isi_t, isi_b, lenOk, mLst, mApp, appO, mFor, mRng, aName, mIt, seqOf, eqX_int, eqX_bl, neD_int, E25, e1, e2, e24, intsO, h0, frzs_in, frzs_ints, putO, hi, List.map_set]
      rfl
    · refine ⟨l, a1, c1, rfl, ?_⟩
      simp [runB, mSeq, mIfS, mTst, mOp2, PL.m2, oV, oP, mCon, getP, setP, ownP, frzs, frz, ixX_t, ixX_l, at0, at1, at2, at3, ixN_30, ixN_32, cmpD, mPut, intD, addD, lenD, mOp1, intF, modC, divC, mSet, mRet, mTake, maskE, mSlot, mRd, mAnd, mOr, mNot, mTr, truD, mTup, mNil, mCons, mCallF, mCall, xNil, xIn, xIo, fillIn, backIn, mSkip, mDrop, mRetN, isi_i, isi_t, isi_b, lenOk, mLst, mApp, appO, mFor, mRng, aName, mIt, seqOf, eqX_int, eqX_bl, neD_int, E25, e1, intsO, h0, hz, frzs_in, frzs_ints]
  · refine ⟨l, a, c, rfl, ?_⟩
    simp [runB, mSeq, mIfS, mTst, mOp2, PL.m2, oV, oP, mCon, getP, setP, ownP, frzs, frz, ixX_t, ixX_l, at0, at1, at2, at3, ixN_30, ixN_32, cmpD, mPut, intD, addD, lenD, mOp1, intF, modC, divC, mSet, mRet, mTake, maskE, mSlot, mRd, mAnd, mOr, mNot, mTr, truD, mTup, mNil, mCons, mCallF, mCall, xNil, xIn, xIo, fillIn, backIn, mSkip, mDrop, mRetN, isi_i, isi_t, isi_b, lenOk, mLst, mApp, appO, mFor, mRng, aName, mIt, seqOf, eqX_int, eqX_bl, neD_int, E25, intsO, h0, frzs_in, frzs_ints]
end
end K63
set_option Elab.async false
set_option linter.all false
set_option maxRecDepth 100000
set_option maxHeartbeats 4000000
namespace K63
open PL
theorem mIfS_t {c : TM} {a b : SM} {r r1 : Env} (h : c r = .ok true r1) : mIfS c a b r = a r1 := by
  unfold mIfS; rw [h]
theorem mIfS_f {c : TM} {a b : SM} {r r1 : Env} (h : c r = .ok false r1) : mIfS c a b r = b r1 := by
  unfold mIfS; rw [h]
def Tb.keys (t : Tb) : List Us := t.map (·.1)
def Tb.ok (t : Tb) : Prop := t.keys.Nodup ∧ ∀ e ∈ t, e.2.length ≤ 10
theorem tb_none {t : Tb} {u : Us} (h : u ∉ t.keys) : t.get u = none := by
  unfold Tb.get
  rw [List.find?_eq_none.mpr]
  · rfl
  · intro e he
    rw [beq_iff_eq]
    rintro rfl
    exact h (List.mem_map.mpr ⟨e, he, rfl⟩)
theorem tb_at {t : Tb} {e : Us × List Int} (h : t.keys.Nodup) (he : e ∈ t) : t.get e.1 = some e.2 := by
  induction t with
  | nil => cases he
  | cons a t ih =>
    unfold Tb.keys at h
    rw [List.map_cons, List.nodup_cons] at h
    unfold Tb.get
    rw [List.find?_cons]
    by_cases hq : a.1 = e.1
    · rw [beq_iff_eq.mpr hq]
      rcases List.mem_cons.mp he with rfl | he
      · rfl
      · exact absurd (List.mem_map.mpr ⟨e, he, hq.symm⟩) h.1
    · rw [beq_eq_false_iff_ne.mpr hq]
      rcases List.mem_cons.mp he with rfl | he
      · exact absurd rfl hq
      · exact ih h.2 he
theorem tb_len {t : Tb} (h : t.ok) : t.length ≤ 6 := by
  have := nd_len h.1
  unfold Tb.keys at this
  rwa [List.length_map] at this
theorem tb_add {t : Tb} (h : t.ok) {u : Us} {l : List Int} (hu : u ∉ t.keys) (hl : l.length ≤ 10) : Tb.ok (t ++ [(u, l)]) := by
  refine ⟨?_, fun e he => ?_⟩
  · unfold Tb.keys
    rw [List.map_append, List.map_cons, List.map_nil]
    exact List.nodup_append.mpr ⟨h.1, List.nodup_cons.mpr ⟨List.not_mem_nil, List.nodup_nil⟩, fun a ha b hb => by
      rw [List.mem_singleton] at hb
      have hb : b = u := hb
      rintro rfl
      exact hu (hb ▸ ha)⟩
  · rcases List.mem_append.mp he with he | he
    · exact h.2 e he
    · rw [List.mem_singleton] at he
      subst he
      exact hl
theorem keys_add (t : Tb) (u : Us) (l : List Int) : Tb.keys (t ++ [(u, l)]) = t.keys ++ [u] := by
  unfold Tb.keys
  rw [List.map_append, List.map_cons, List.map_nil]
section
variable (w : PySem.World) (cf cg : Nat → FM) {rs : List Int} {us : Option O} {n : Nat} (hn : n ≤ 3) (hd : DigOk cf rs) (u : Us)
theorem te_put (a c : Int) (l : List Int) {t : Tb} (ht : t.ok) (hu : u ∉ t.keys) : mPut FID 3 [] (oV (mTup (mCons (mSlot 4) (mCons (mSlot 5) mNil)))) (mOp1 tupF (oP FID 6 [])) (E25 rs us (some (.dct t.ks t.vs)) n u a c (some (intsO l))) = .nx (E25 rs us (some (.dct (Tb.ks (t ++ [(u, l)])) (Tb.vs (t ++ [(u, l)])))) n u a c (some (intsO l))) := by
  have hp := putO_tb (u := u) (t := t) (l := l) (o := .val (tupI l)) (tb_none hu) (by have := tb_len ht; omega) rfl
  have hp2 : putO (.dct t.ks t.vs) (.tup [sy u.a u.b, .int u.ar]) (.val (.tup (l.map .int))) = _ := hp
  generalize Tb.ks (t ++ [(u, l)]) = k2 at *
  generalize Tb.vs (t ++ [(u, l)]) = v2 at *
  generalize t.ks = k1 at *
  generalize t.vs = v1 at *
  simp [runB, mSeq, mIfS, mTst, mOp2, PL.m2, oV, oP, mCon, getP, setP, ownP, frzs, frz, ixX_t, ixX_l, at0, at1, at2, at3, ixN_30, ixN_32, cmpD, mPut, intD, addD, lenD, mOp1, intF, modC, divC, mSet, mRet, mTake, maskE, mSlot, mRd, mAnd, mOr, mNot, mTr, truD, mTup, mNil, mCons, mCallF, mCall, xNil, xIn, xIo, fillIn, backIn, mSkip, mDrop, mRetN, isi_i, isi_t, isi_b, lenOk, mLst, mApp, appO, mFor, mRng, aName, mIt, seqOf, eqX_int, eqX_bl, neD_int, E25, intsO, frzs_in, frzs_ints, tupF, hp2]
include hn hd in
theorem ts25 (e24 : cf 24 [.val (sy u.a u.b), .val (.int n)] = .ok (.val (.int (lim n u))) [none, none]) (e23 : cf 23 [.val (.int n), .val (.int u.ar)] = .ok (.val (.int (cnt n u))) [none, none]) (a c : Int) (x6 : Option O) {t : Tb} (ht : t.ok) (hu : u ∉ t.keys) :
    ∃ (t' : Tb) (a' c' : Int) (y6 : Option O), b25_1 w cf cg (E25 rs us (some (.dct t.ks t.vs)) n u a c x6) = .nx (E25 rs us (some (.dct t'.ks t'.vs)) n u a' c' y6) ∧ (t' = t ∨ ∃ l : List Int, l.length ≤ 10 ∧ t' = t ++ [(u, l)]) := by
  obtain ⟨d, a1, c1, i0, i1, e⟩ := hd a c 6 (by decide) (by decide)
  have htest : mTst (mOp2 gtD (oV (mCall (cf 15) [some 0, none] (xIo 0 (xIn (mCon (.int 6)) xNil)))) (oV (mCon (.int 0)))) (E25 rs us (some (.dct t.ks t.vs)) n u a c x6) = .ok (decide (0 < d)) (E25 rs us (some (.dct t.ks t.vs)) n u a1 c1 x6) := by
    simp [runB, mSeq, mIfS, mTst, mOp2, PL.m2, oV, oP, mCon, getP, setP, ownP, frzs, frz, ixX_t, ixX_l, at0, at1, at2, at3, ixN_30, ixN_32, cmpD, mPut, intD, addD, lenD, mOp1, intF, modC, divC, mSet, mRet, mTake, maskE, mSlot, mRd, mAnd, mOr, mNot, mTr, truD, mTup, mNil, mCons, mCallF, mCall, xNil, xIn, xIo, fillIn, backIn, mSkip, mDrop, mRetN, isi_i, isi_t, isi_b, lenOk, mLst, mApp, appO, mFor, mRng, aName, mIt, seqOf, eqX_int, eqX_bl, neD_int, E25, e]
  by_cases hz : 0 < d
  · rw [decide_eq_true hz] at htest
    obtain ⟨l, a2, c2, hl, h2⟩ := ta25 w cf cg hn hd u (us := us) (tb := some (.dct t.ks t.vs)) e24 e23 a1 c1 x6
    obtain ⟨l3, a3, c3, hl3, h3⟩ := tb25 cf hd u (us := us) (tb := some (.dct t.ks t.vs)) (n := n) a2 c2 (l := l) (by omega)
    obtain ⟨l4, a4, c4, hl4, h4⟩ := tc25 cf hd u (us := us) (tb := some (.dct t.ks t.vs)) (n := n) a3 c3 (l := l3) (by omega)
    obtain ⟨l5, a5, c5, hl5, h5⟩ := td25 cf hd u (us := us) (tb := some (.dct t.ks t.vs)) (n := n) e24 a4 c4 (l := l4) (by omega)
    have h6 := te_put (rs := rs) (us := us) (n := n) u a5 c5 l5 ht hu
    refine ⟨t ++ [(u, l5)], a5, c5, some (intsO l5), ?_, .inr ⟨l5, by omega, rfl⟩⟩
    unfold b25_1
    rw [mIfS_t htest, mSeq_nx h2, mSeq_nx h3, mSeq_nx h4, mSeq_nx h5]
    exact h6
  · rw [decide_eq_false hz] at htest
    refine ⟨t, a1, c1, x6, ?_, .inl rfl⟩
    unfold b25_1
    rw [mIfS_f htest]
    rfl
include hn hd in
theorem tl25 (e24 : ∀ u : Us, cf 24 [.val (sy u.a u.b), .val (.int n)] = .ok (.val (.int (lim n u))) [none, none]) (e23 : ∀ u : Us, cf 23 [.val (.int n), .val (.int u.ar)] = .ok (.val (.int (cnt n u))) [none, none]) : ∀ (l : List Us) (t : Tb) (a c : Int) (x4 x5 x6 : Option O), t.ok → l.Nodup → (∀ u ∈ l, u ∉ t.keys) →
    ∃ (t' : Tb) (a' c' : Int) (y4 y5 y6 : Option O), loopF (aTup (aCons (aName 4) (aCons (aName 5) aNil))) (b25_1 w cf cg) (l.map Us.d) [some (St a rs c), us, some (.val (.int n)), some (.dct t.ks t.vs), x4, x5, x6, none] = .nx [some (St a' rs c'), us, some (.val (.int n)), some (.dct t'.ks t'.vs), y4, y5, y6, none] ∧ t'.ok ∧ ∀ u ∈ t'.keys, u ∈ t.keys ∨ u ∈ l
  | [], t, a, c, x4, x5, x6, ht, nd, hu => ⟨t, a, c, x4, x5, x6, rfl, ht, fun u m => .inl m⟩
  | u :: l, t, a, c, x4, x5, x6, ht, nd, hu => by
    obtain ⟨n1, n2⟩ := List.nodup_cons.mp nd
    have hu1 := hu u (List.mem_cons_self ..)
    obtain ⟨t1, a1, c1, y6, e, h⟩ := ts25 w cf cg hn hd u (us := us) (e24 u) (e23 u) a c x6 ht hu1
    have ht1 : t1.ok ∧ (∀ v ∈ t1.keys, v ∈ t.keys ∨ v = u) := by
      rcases h with rfl | ⟨l', hl', rfl⟩
      · exact ⟨ht, fun v m => .inl m⟩
      · refine ⟨tb_add ht hu1 hl', fun v m => ?_⟩
        rw [keys_add] at m
        rcases List.mem_append.mp m with m | m
        · exact .inl m
        · exact .inr (List.mem_singleton.mp m)
    obtain ⟨t2, a2, c2, z4, z5, z6, e2, k1, k2⟩ := tl25 e24 e23 l t1 a1 c1 (some (.val (sy u.a u.b))) (some (.val (.int u.ar))) y6 ht1.1 n2 (fun v m z => by
      rcases ht1.2 v z with z | rfl
      · exact hu v (List.mem_cons_of_mem _ m) z
      · exact n1 m)
    refine ⟨t2, a2, c2, z4, z5, z6, ?_, k1, fun v m => ?_⟩
    · rw [List.map_cons, loop_cons (r1 := E25 rs us (some (.dct t.ks t.vs)) n u a c x6) rfl, e]
      exact e2
    · rcases k2 v m with m | m
      · rcases ht1.2 v m with m | rfl
        · exact .inl m
        · exact .inr (List.mem_cons_self ..)
      · exact .inr (List.mem_cons_of_mem _ m)
end
theorem digOk (w : PySem.World) (k : Nat) {rs : List Int} (hr : 0 < rs.length) : DigOk (callI (T w) (k + 1)) rs := fun a c n h0 h1 => dig w k h0 h1 hr
theorem m25_eq (w : PySem.World) (cf cg : Nat → FM) {rs : List Int} {n : Nat} (hn : n ≤ 3) (hd : DigOk cf rs) (e24 : ∀ u : Us, cf 24 [.val (sy u.a u.b), .val (.int n)] = .ok (.val (.int (lim n u))) [none, none]) (e23 : ∀ u : Us, cf 23 [.val (.int n), .val (.int u.ar)] = .ok (.val (.int (cnt n u))) [none, none]) (a c : Int) {l : List Us} (nd : l.Nodup) :
    ∃ (t : Tb) (a' c' : Int) (s1 s2 s3 s4 s5 s6 s7 : Option O), m25 w cf cg [some (St a rs c), some (.val (usD l)), some (.val (.int n)), none, none, none, none, none] = .ret (.dct t.ks t.vs) [some (St a' rs c'), s1, s2, s3, s4, s5, s6, s7] ∧ t.ok ∧ ∀ u ∈ t.keys, u ∈ l := by
  obtain ⟨t, a', c', y4, y5, y6, e, k1, k2⟩ := tl25 w cf cg hn hd (us := some (.val (usD l))) e24 e23 l [] a c none none none ⟨List.nodup_nil, fun e m => nomatch m⟩ nd (fun u _ m => nomatch m)
  refine ⟨t, a', c', some (.val (usD l)), some (.val (.int n)), none, y4, y5, y6, none, ?_, k1, fun u m => ?_⟩
  · have e2 : Tb.ks [] = [] := rfl
    have e3 : Tb.vs [] = [] := rfl
    rw [e2, e3] at e
    have h1 : mSet 3 mDnew [some (St a rs c), some (.val (usD l)), some (.val (.int n)), none, none, none, none, none] = .nx [some (St a rs c), some (.val (usD l)), some (.val (.int n)), some (.dct [] []), none, none, none, none] := rfl
    have h2 : mFor (mIt (mSlot 1)) (aTup (aCons (aName 4) (aCons (aName 5) aNil))) (b25_1 w cf cg) [some (St a rs c), some (.val (usD l)), some (.val (.int n)), some (.dct [] []), none, none, none, none] = loopF (aTup (aCons (aName 4) (aCons (aName 5) aNil))) (b25_1 w cf cg) (l.map Us.d) [some (St a rs c), some (.val (usD l)), some (.val (.int n)), some (.dct [] []), none, none, none, none] := rfl
    unfold m25
    rw [mSeq_nx h1, mSeq_nx (h2.trans e)]
    rfl
  · rcases k2 u m with m | m
    · cases m
    · exact m
theorem ltab (w : PySem.World) (k : Nat) {rs : List Int} (hr : 0 < rs.length) {n : Nat} (hn : n ≤ 3) (a c : Int) {l : List Us} (nd : l.Nodup) :
    ∃ (t : Tb) (a' c' : Int), callI (T w) (k + 2) 25 [St a rs c, .val (usD l), .val (.int n)] = .ok (.dct t.ks t.vs) [some (St a' rs c'), none, none] ∧ t.ok ∧ ∀ u ∈ t.keys, u ∈ l := by
  obtain ⟨t, a', c', s1, s2, s3, s4, s5, s6, s7, e, k1, k2⟩ := m25_eq w (callI (T w) (k + 1)) (callI (T w) (k + 1 - 1)) hn (digOk w k hr) (fun u => llim w k n u) (fun u => lcnt w k hn u) a c nd
  refine ⟨t, a', c', ?_, k1, k2⟩
  rw [callK]
  simp only [T]
  rw [run_eq (n := 8) (p := 3) (M := [0]) (f := m25 w) (m := m25 w) [some (St a rs c), some (.val (usD l)), some (.val (.int n)), none, none, none, none, none] rfl rfl, e]
  rfl
end K63
set_option Elab.async false
set_option linter.all false
set_option maxRecDepth 100000
set_option maxHeartbeats 4000000
namespace K63
open PL
/-! ### full tables; copies of dicts -/
def Us.nk (u : Us) : PySem.NestedKey := .tup [.tup [.num u.a, .num u.b, .num 0], .num u.ar]
theorem us_dNk (u : Us) : dNk u.d = some u.nk := by cases u <;> rfl
theorem us_dNks : ∀ l : List Us, dNks (l.map Us.d) = some (l.map Us.nk)
  | [] => rfl
  | u :: l => by
    rw [List.map_cons, dNks, us_dNk, us_dNks l]
    rfl
def Us.h (u : Us) : Int := PySem.reduceHash (PySem.Builtin.Tuple.tupleHashOf [PySem.reduceHash (PySem.Builtin.Tuple.tupleHashOf [PySem.hashInt u.a, PySem.hashInt u.b, PySem.hashInt 0]), PySem.hashInt u.ar])
theorem us_hash (w : PySem.World) (u : Us) : u.nk.hash w = u.h := by
  unfold Us.nk Us.h
  simp only [PySem.NestedKey.hash, PySem.NestedKey.hashes]
theorem us_hinj (u v : Us) (h : u.h = v.h) : u = v := by
  cases u <;> cases v <;> first | rfl | (exact absurd h (by decide +kernel))
theorem us_hmap (w : PySem.World) : ∀ l : List Us, ((l.map Us.nk).map fun k => k.hash w) = l.map Us.h
  | [] => rfl
  | u :: l => by
    rw [List.map_cons, List.map_cons, List.map_cons, us_hmap w l, us_hash]
theorem nd_map {α β : Type} {f : α → β} (hf : ∀ a b, f a = f b → a = b) : ∀ {l : List α}, l.Nodup → (l.map f).Nodup
  | [], _ => List.nodup_nil
  | a :: l, h => by
    obtain ⟨h1, h2⟩ := List.nodup_cons.mp h
    rw [List.map_cons]
    refine List.nodup_cons.mpr ⟨fun m => ?_, nd_map hf h2⟩
    obtain ⟨b, hb, e⟩ := List.mem_map.mp m
    rw [hf b a e] at hb
    exact h1 hb
theorem us_hok (w : PySem.World) {l : List Us} (h : l.Nodup) : hashOk w (l.map Us.d) = true := by
  have h2 : (l.map Us.h).Nodup := nd_map us_hinj h
  rw [← us_hmap w l] at h2
  unfold hashOk
  rw [us_dNks]
  dsimp only
  exact decide_eq_true h2
theorem dctF_tb (w : PySem.World) {t : Tb} (ht : t.ok) : dctF w (.dct t.ks t.vs) = some (.dct t.ks t.vs) := by
  unfold dctF
  dsimp only
  have h1 := tb_hom t
  have h2 : hashOk w t.ks = true := us_hok w ht.1
  rw [h1, h2]
  by_cases h : homK false t.ks = true
  · rw [if_pos h]
  · rw [if_neg h]
    rfl
def addT (n : Nat) (u : Us) (f : Tb) : Tb := if (f.get u).isSome = true then f else f ++ [(u, List.replicate (cnt n u) 0)]
def fillT (n : Nat) : List Us → Tb → Tb
  | [], f => f
  | u :: l, f => fillT n l (addT n u f)
theorem get_some {t : Tb} {u : Us} {l : List Int} (h : t.get u = some l) : (u, l) ∈ t := by
  unfold Tb.get at h
  cases e : t.find? fun e => e.1 == u with
  | none => rw [e] at h; cases h
  | some x =>
    rw [e] at h
    cases h
    have h1 := List.find?_some e
    have h2 := List.mem_of_find?_eq_some e
    have h1 : x.1 = u := by simpa using h1
    rw [← h1]
    exact h2
theorem get_none {t : Tb} {u : Us} (h : ¬ (t.get u).isSome = true) : u ∉ t.keys := by
  intro m
  obtain ⟨e, he, rfl⟩ := List.mem_map.mp m
  apply h
  unfold Tb.get
  rw [Option.isSome_map, List.find?_isSome]
  exact ⟨e, he, by simp⟩
theorem addT_ok {n : Nat} (hn : n ≤ 3) {u : Us} {f : Tb} (h : f.ok) : (addT n u f).ok := by
  unfold addT
  split
  · exact h
  · rename_i hh
    exact tb_add h (get_none hh) (by rw [List.length_replicate]; have := cnt_le n hn u; omega)
theorem fillT_ok {n : Nat} (hn : n ≤ 3) : ∀ {l : List Us} {f : Tb}, f.ok → (fillT n l f).ok
  | [], f, h => h
  | u :: l, f, h => fillT_ok hn (l := l) (addT_ok hn h)
theorem fits_app {n : Nat} {f : Tb} {u : Us} {l : List Int} (h : fitsB n f = true) (hl : fitB n u l = true) : fitsB n (f ++ [(u, l)]) = true := by
  unfold fitsB at h ⊢
  rw [List.all_append, h]
  simp [hl]
theorem fit_zero {n : Nat} (h0 : 0 < n) (u : Us) : fitB n u (List.replicate (cnt n u) 0) = true := by
  unfold fitB
  rw [List.length_replicate]
  have hl : 0 < lim n u := by unfold lim; split <;> omega
  simp only [decide_true, Bool.true_and, List.all_eq_true]
  intro x hx
  have := List.eq_of_mem_replicate hx
  subst this
  unfold inB
  simp [hl]
theorem addT_fits {n : Nat} (h0 : 0 < n) {u : Us} {f : Tb} (h : fitsB n f = true) : fitsB n (addT n u f) = true := by
  unfold addT
  split
  · exact h
  · exact fits_app h (fit_zero h0 u)
theorem fillT_fits {n : Nat} (h0 : 0 < n) : ∀ {l : List Us} {f : Tb}, fitsB n f = true → fitsB n (fillT n l f) = true
  | [], f, h => h
  | u :: l, f, h => fillT_fits h0 (l := l) (addT_fits h0 h)
theorem keys_has {t : Tb} {u : Us} (h : u ∈ t.keys) : (t.get u).isSome = true := by
  cases e : t.get u with
  | some l => rfl
  | none => exact absurd h (get_none (by rw [e]; exact Bool.false_ne_true))
theorem has_keys {t : Tb} {u : Us} (h : (t.get u).isSome = true) : u ∈ t.keys := by
  cases e : t.get u with
  | some l => exact List.mem_map.mpr ⟨_, get_some e, rfl⟩
  | none => rw [e] at h; cases h
theorem addT_keys {n : Nat} {u : Us} {f : Tb} : (∀ v ∈ f.keys, v ∈ (addT n u f).keys) ∧ u ∈ (addT n u f).keys := by
  unfold addT
  split
  · rename_i h
    exact ⟨fun v m => m, has_keys h⟩
  · rw [keys_add]
    exact ⟨fun v m => List.mem_append_left _ m, List.mem_append_right _ (List.mem_singleton.mpr rfl)⟩
theorem fillT_keys {n : Nat} : ∀ {l : List Us} {f : Tb}, (∀ v ∈ f.keys, v ∈ (fillT n l f).keys) ∧ ∀ u ∈ l, u ∈ (fillT n l f).keys
  | [], f => ⟨fun v m => m, fun u m => nomatch m⟩
  | u :: l, f => by
    obtain ⟨h1, h2⟩ := addT_keys (n := n) (u := u) (f := f)
    obtain ⟨h3, h4⟩ := fillT_keys (n := n) (l := l) (f := addT n u f)
    refine ⟨fun v m => h3 v (h1 v m), fun v m => ?_⟩
    rcases List.mem_cons.mp m with rfl | m
    · exact h3 _ h2
    · exact h4 v m
theorem ful_of {n : Nat} {T : Tb} (hT : fitsB n T = true) {u : Us} (h : u ∈ T.keys) : Ful n T u := by
  have h1 := keys_has h
  refine ⟨h1, ?_⟩
  cases e : T.get u with
  | none => rw [e] at h1; cases h1
  | some l =>
    have := List.all_eq_true.mp hT _ (get_some e)
    unfold Tb.val
    rw [e]
    exact this
theorem add_sub (u : Us) (l : List Us) : (∀ v ∈ l, v ∈ add u l) ∧ u ∈ add u l := by
  unfold add
  split
  · rename_i h; exact ⟨fun v m => m, h⟩
  · exact ⟨fun v m => List.mem_append_left _ m, List.mem_append_right _ (List.mem_singleton.mpr rfl)⟩
theorem tus_sub : ∀ (t : Tm) (l : List Us), ∀ v ∈ l, v ∈ t.us l
  | .v _, l, v, m => m
  | .c i, l, v, m => (add_sub _ l).1 v m
  | .f t, l, v, m => tus_sub t _ v ((add_sub _ l).1 v m)
theorem fus_sub : ∀ (f : Fm) (l : List Us), ∀ v ∈ l, v ∈ f.us l
  | .q, l, v, m => (add_sub _ l).1 v m
  | .p t, l, v, m => tus_sub t _ v ((add_sub _ l).1 v m)
  | .eq s t, l, v, m => tus_sub t _ v (tus_sub s _ v m)
  | .no f, l, v, m => fus_sub f l v m
  | .qu _ _ f, l, v, m => fus_sub f l v m
  | .bi _ f g, l, v, m => fus_sub g _ v (fus_sub f l v m)
theorem tus_ful {n : Nat} {T : Tb} : ∀ (t : Tm) (l : List Us), (∀ u ∈ t.us l, Ful n T u) → t.ful n T
  | .v _, l, h => trivial
  | .c i, l, h => h _ (add_sub _ l).2
  | .f t, l, h => ⟨h _ (tus_sub t _ _ (add_sub _ l).2), tus_ful t _ h⟩
theorem fus_ful {n : Nat} {T : Tb} : ∀ (f : Fm) (l : List Us), (∀ u ∈ f.us l, Ful n T u) → f.ful n T
  | .q, l, h => h _ (add_sub _ l).2
  | .p t, l, h => ⟨h _ (tus_sub t _ _ (add_sub _ l).2), tus_ful t _ h⟩
  | .eq s t, l, h => ⟨tus_ful s l fun u m => h u (tus_sub t _ u m), tus_ful t _ h⟩
  | .no f, l, h => fus_ful f l h
  | .qu _ _ f, l, h => fus_ful f l h
  | .bi _ f g, l, h => ⟨fus_ful f l fun u m => h u (fus_sub g _ u m), fus_ful g _ h⟩
theorem usAll_sub : ∀ (fs : List Fm) (l : List Us), ∀ v ∈ l, v ∈ usAll fs l
  | [], l, v, m => m
  | f :: fs, l, v, m => usAll_sub fs _ v (fus_sub f l v m)
theorem usAll_ful {n : Nat} {T : Tb} : ∀ (fs : List Fm) (l : List Us), (∀ u ∈ usAll fs l, Ful n T u) → ∀ f ∈ fs, f.ful n T
  | [], l, h, f, m => nomatch m
  | g :: fs, l, h, f, m => by
    rcases List.mem_cons.mp m with rfl | m
    · exact fus_ful f l fun u hu => h u (usAll_sub fs _ u hu)
    · exact usAll_ful fs _ h f m
/-- what both sides answer -/
def accB (n : Nat) (t : Tb) (fs : List Fm) : Bool := decide (1 ≤ n) && (fitsB n t && fs.all fun f => f.tv n (fillT n (usAll fs []) t) [])
theorem full_ful {n : Nat} (h0 : 0 < n) {t : Tb} (hf : fitsB n t = true) (fs : List Fm) : ∀ f ∈ fs, f.ful n (fillT n (usAll fs []) t) :=
  usAll_ful fs [] fun u m => ful_of (fillT_fits h0 hf) (fillT_keys.2 u m)
theorem dc_copy {own : List Nat} {a : AM} {mk : OM} {m : EM} {r : Env} : ∀ (es pre : Tb), Tb.ok (pre ++ es) → (∀ e ∈ es, ∃ r1 r2 r3, a e.1.d r = some r1 ∧ mk r1 = .ok e.1.d r2 ∧ m r2 = .ok (.val (tupI e.2)) r3 ∧ wipeE r3 own = r) →
    loopD own a mYes mk m es.ks (pre.ks, pre.vs) r = .ok (Tb.ks (pre ++ es), Tb.vs (pre ++ es)) r
  | [], pre, ok, h => by rw [List.append_nil]; rfl
  | e :: es, pre, ok, h => by
    obtain ⟨u, l⟩ := e
    obtain ⟨r1, r2, r3, e1, e2, e3, e4⟩ := h _ (List.mem_cons_self ..)
    have hk : Tb.ks ((u, l) :: es) = u.d :: Tb.ks es := rfl
    have hnd := ok.1
    unfold Tb.keys at hnd
    rw [List.map_append, List.map_cons] at hnd
    have hu : u ∉ pre.keys := fun m => (List.nodup_append.mp hnd).2.2 u m u (List.mem_cons_self ..) rfl
    have hlen : pre.length < 1000 := by
      have := tb_len ok
      rw [List.length_append] at this
      omega
    have hp := putO_tb (o := .val (tupI l)) (tb_none hu) hlen (l := l) rfl
    have e5 : pre ++ (u, l) :: es = (pre ++ [(u, l)]) ++ es := by rw [List.append_assoc]; rfl
    rw [e5] at ok ⊢
    have ih := dc_copy es (pre ++ [(u, l)]) ok fun e m => h e (List.mem_cons_of_mem _ m)
    rw [hk, loopD, e1]
    simp only [mYes, e2, e3, hp, e4]
    exact ih
end K63
set_option Elab.async false
set_option linter.all false
set_option maxRecDepth 100000
set_option maxHeartbeats 4000000
namespace K63
open PL
theorem rd_td {A B : Option O} {td k v : D} (h : ixX td k = some (.val v)) : mOp2 ixX (oP FID 2 []) (oP FID 3 []) [A, B, some (.val td), some (.val k)] = .ok (.val v) [A, B, some (.val td), some (.val k)] := by
  simp [mOp2, PL.m2, oP, getP, h]
theorem m8_eq (w : PySem.World) (cf cg : Nat → FM) {n : Nat} {t : Tb} (ht : t.ok) : m8 w cf cg [some (.ins 0 []), some (.val (.int n)), some (.val (.dct t.ks t.vs)), none] = .nx [some (.ins 0 [.val (.int n), .dct t.ks t.vs]), some (.val (.int n)), some (.val (.dct t.ks t.vs)), none] := by
  have h1 : mSetF FID 0 [] 0 (mSlot 1) [some (.ins 0 []), some (.val (.int n)), some (.val (.dct t.ks t.vs)), none] = .nx [some (.ins 0 [.val (.int n)]), some (.val (.int n)), some (.val (.dct t.ks t.vs)), none] := rfl
  have h2 := dc_copy (own := [3]) (a := aName 3) (mk := oV (mSlot 3)) (m := mOp2 ixX (oP FID 2 []) (oP FID 3 [])) (r := [some (.ins 0 [.val (.int n)]), some (.val (.int n)), some (.val (.dct t.ks t.vs)), none]) t [] ht (fun e he => by
    have hx : ixX (.dct t.ks t.vs) e.1.d = some (.val (tupI e.2)) := by
      rw [ixX_tb, tb_at ht.1 he]; rfl
    exact ⟨_, _, _, rfl, rfl, rd_td hx, rfl⟩)
  have h3 : mDcD FID [3] 2 [] (aName 3) mYes (oV (mSlot 3)) (mOp2 ixX (oP FID 2 []) (oP FID 3 [])) [some (.ins 0 [.val (.int n)]), some (.val (.int n)), some (.val (.dct t.ks t.vs)), none] = .ok (.dct t.ks t.vs) [some (.ins 0 [.val (.int n)]), some (.val (.int n)), some (.val (.dct t.ks t.vs)), none] := by
    have e0 : mRd FID 2 [] [some (.ins 0 [.val (.int n)]), some (.val (.int n)), some (.val (.dct t.ks t.vs)), none] = .ok (.val (.dct t.ks t.vs)) [some (.ins 0 [.val (.int n)]), some (.val (.int n)), some (.val (.dct t.ks t.vs)), none] := rfl
    have e1 : Tb.ks [] = [] := rfl
    have e2 : Tb.vs [] = [] := rfl
    have e3 : wipeE [some (.ins 0 [.val (.int n)]), some (.val (.int n)), some (.val (.dct t.ks t.vs)), none] [3] = [some (.ins 0 [.val (.int n)]), some (.val (.int n)), some (.val (.dct t.ks t.vs)), none] := rfl
    rw [e1, e2, List.nil_append] at h2
    unfold mDcD
    rw [e0]
    dsimp only
    rw [e3, h2]
  unfold m8
  rw [mSeq_nx h1]
  unfold mSetF
  rw [h3]
  rfl
theorem winit (w : PySem.World) (k : Nat) {n : Nat} {t : Tb} (ht : t.ok) : callI (T w) (k + 1) 8 [.ins 0 [], .val (.int n), .val (.dct t.ks t.vs)] = .ok (.val .non) [some (.ins 0 [.val (.int n), .dct t.ks t.vs]), none, none] := by
  rw [callK]
  simp only [T]
  rw [run_eq (n := 4) (p := 3) (M := [0]) (f := m8 w) (m := m8 w) [some (.ins 0 []), some (.val (.int n)), some (.val (.dct t.ks t.vs)), none] rfl rfl, m8_eq w _ _ ht]
  rfl
section
variable (w : PySem.World) (cf cg : Nat → FM) {n : Nat} {F : Option O} {x4 x5 x6 x7 : Option O}
/-- a table's look -/
theorem s13a {t : Tb} {u : Us} {l : List Int} (hg : t.get u = some l) (e12 : cf 12 [.val (sy u.a u.b), .val (.int u.ar), .val (tupI l), .val (.int n)] = .ok (.val (.bl (fitB n u l))) [none, none, none, none]) :
    b13_2 w cf cg [some (.val (wld n t)), F, some (.val (sy u.a u.b)), some (.val (.int u.ar)), x4, x5, x6, x7] = (if fitB n u l = true then .nx [some (.val (wld n t)), F, some (.val (sy u.a u.b)), some (.val (.int u.ar)), x4, x5, x6, x7] else .ret (.val (.bl false)) [some (.val (wld n t)), F, some (.val (sy u.a u.b)), some (.val (.int u.ar)), x4, x5, x6, x7]) := by
  have hx : ixX (.dct t.ks t.vs) (.tup [sy u.a u.b, .int u.ar]) = some (.val (tupI l)) := by
    have := ixX_tb u t
    rw [hg] at this
    exact this
  unfold wld
  generalize D.dct t.ks t.vs = td at *
  generalize sy u.a u.b = sd at *
  generalize tupI l = ld at *
  generalize fitB n u l = q at *
  cases q
  · simp [runB, mSeq, mIfS, mTst, mOp2, PL.m2, oV, oP, mCon, getP, setP, ownP, frzs, frz, ixX_t, ixX_l, at0, at1, at2, at3, ixN_30, ixN_32, cmpD, mPut, intD, addD, lenD, mOp1, intF, modC, divC, mSet, mRet, mTake, maskE, mSlot, mRd, mAnd, mOr, mNot, mTr, truD, mTup, mNil, mCons, mCallF, mCall, xNil, xIn, xIo, fillIn, backIn, mSkip, mDrop, mRetN, isi_i, isi_t, isi_b, lenOk, mLst, mApp, appO, mFor, mRng, aName, mIt, seqOf, eqX_int, eqX_bl, neD_int, b13_2, hx, e12, ixF00, ixF01]
  · simp [runB, mSeq, mIfS, mTst, mOp2, PL.m2, oV, oP, mCon, getP, setP, ownP, frzs, frz, ixX_t, ixX_l, at0, at1, at2, at3, ixN_30, ixN_32, cmpD, mPut, intD, addD, lenD, mOp1, intF, modC, divC, mSet, mRet, mTake, maskE, mSlot, mRd, mAnd, mOr, mNot, mTr, truD, mTup, mNil, mCons, mCallF, mCall, xNil, xIn, xIo, fillIn, backIn, mSkip, mDrop, mRetN, isi_i, isi_t, isi_b, lenOk, mLst, mApp, appO, mFor, mRng, aName, mIt, seqOf, eqX_int, eqX_bl, neD_int, b13_2, hx, e12, ixF00, ixF01]
theorem l13a {t : Tb} (e12 : ∀ (u : Us) (l : List Int), l.length ≤ 10 → cf 12 [.val (sy u.a u.b), .val (.int u.ar), .val (tupI l), .val (.int n)] = .ok (.val (.bl (fitB n u l))) [none, none, none, none]) :
    ∀ (es : Tb), (∀ e ∈ es, t.get e.1 = some e.2 ∧ e.2.length ≤ 10) → ∀ x2 x3, ∃ y2 y3, loopF (aTup (aCons (aName 2) (aCons (aName 3) aNil))) (b13_2 w cf cg) es.ks [some (.val (wld n t)), F, x2, x3, x4, x5, x6, x7] = (if fitsB n es = true then .nx [some (.val (wld n t)), F, y2, y3, x4, x5, x6, x7] else .ret (.val (.bl false)) [some (.val (wld n t)), F, y2, y3, x4, x5, x6, x7])
  | [], _, x2, x3 => ⟨x2, x3, rfl⟩
  | e :: es, h, x2, x3 => by
    obtain ⟨u, l⟩ := e
    obtain ⟨h1, h2⟩ := h _ (List.mem_cons_self ..)
    have hy := s13a w cf cg (F := F) (x4 := x4) (x5 := x5) (x6 := x6) (x7 := x7) h1 (e12 u l h2)
    have hk : Tb.ks ((u, l) :: es) = u.d :: Tb.ks es := rfl
    rw [hk, loop_cons (r1 := [some (.val (wld n t)), F, some (.val (sy u.a u.b)), some (.val (.int u.ar)), x4, x5, x6, x7]) rfl, hy]
    cases hf : fitB n u l with
    | true =>
      obtain ⟨y2, y3, ih⟩ := l13a e12 es (fun e m => h e (List.mem_cons_of_mem _ m)) (some (.val (sy u.a u.b))) (some (.val (.int u.ar)))
      refine ⟨y2, y3, ?_⟩
      rw [if_pos rfl]
      dsimp only
      rw [ih]
      have : fitsB n ((u, l) :: es) = fitsB n es := by
        unfold fitsB
        rw [List.all_cons, hf, Bool.true_and]
      rw [this]
    | false =>
      refine ⟨some (.val (sy u.a u.b)), some (.val (.int u.ar)), ?_⟩
      have : fitsB n ((u, l) :: es) = false := by
        unfold fitsB
        rw [List.all_cons, hf, Bool.false_and]
      rw [this]
      rfl
theorem rep_d (k : Nat) : (List.replicate k [D.int 0]).flatten = (List.replicate k (0 : Int)).map D.int := by
  induction k with
  | zero => rfl
  | succ k ih => rw [List.replicate_succ, List.flatten_cons, ih, List.replicate_succ, List.map_cons]; rfl
theorem mul_rep {k : Nat} (h0 : 0 < k) (h1 : k ≤ 3) : mulX (.tup [.int 0]) (.int k) = some (.val (tupI (List.replicate k 0))) := by
  have : k = 1 ∨ k = 2 ∨ k = 3 := by omega
  rcases this with rfl | rfl | rfl <;> rfl
/-- a use without a table -/
theorem s13b (hn : n ≤ 3) (h0 : 0 < n) {td : D} {f : Tb} (hf : f.ok) (u : Us) (e10 : cf 10 [.val (.int n), .val (.int u.ar)] = .ok (.val (.int (cnt n u))) [none, none]) :
    b13_1 w cf cg [some (.val (.ins 0 [.int n, td])), F, some (.val (sy u.a u.b)), some (.val (.int u.ar)), some (.dct f.ks f.vs), x5, x6, x7] = .nx [some (.val (.ins 0 [.int n, td])), F, some (.val (sy u.a u.b)), some (.val (.int u.ar)), some (.dct (addT n u f).ks (addT n u f).vs), x5, x6, x7] := by
  have hi : inX true (.tup [sy u.a u.b, .int u.ar]) (.dct f.ks f.vs) = some (.val (.bl (!(f.get u).isSome))) := inX_tb true u f
  have hc := cnt_le n hn u
  have hc0 : 0 < cnt n u := by unfold cnt; split <;> omega
  have hm := mul_rep hc0 hc
  unfold addT
  cases hg : (f.get u).isSome with
  | true =>
    rw [hg] at hi
    rw [if_pos rfl]
    generalize f.ks = ks at *
    generalize f.vs = vs at *
    simp [runB, mSeq, mIfS, mTst, mOp2, PL.m2, oV, oP, mCon, getP, setP, ownP, frzs, frz, ixX_t, ixX_l, at0, at1, at2, at3, ixN_30, ixN_32, cmpD, mPut, intD, addD, lenD, mOp1, intF, modC, divC, mSet, mRet, mTake, maskE, mSlot, mRd, mAnd, mOr, mNot, mTr, truD, mTup, mNil, mCons, mCallF, mCall, xNil, xIn, xIo, fillIn, backIn, mSkip, mDrop, mRetN, isi_i, isi_t, isi_b, lenOk, mLst, mApp, appO, mFor, mRng, aName, mIt, seqOf, eqX_int, eqX_bl, neD_int, b13_1, hi]
  | false =>
    have hu := get_none (t := f) (u := u) (by rw [hg]; exact Bool.false_ne_true)
    have hp := putO_tb (u := u) (t := f) (l := List.replicate (cnt n u) 0) (o := .val (tupI (List.replicate (cnt n u) 0))) (tb_none hu) (by have := tb_len hf; omega) rfl
    have hp2 : putO (.dct f.ks f.vs) (.tup [sy u.a u.b, .int u.ar]) (.val (tupI (List.replicate (cnt n u) 0))) = _ := hp
    rw [hg] at hi
    rw [if_neg Bool.false_ne_true]
    generalize Tb.ks (f ++ [(u, List.replicate (cnt n u) 0)]) = k2 at *
    generalize Tb.vs (f ++ [(u, List.replicate (cnt n u) 0)]) = v2 at *
    generalize tupI (List.replicate (cnt n u) 0) = ld at *
    generalize f.ks = ks at *
    generalize f.vs = vs at *
    simp [runB, mSeq, mIfS, mTst, mOp2, PL.m2, oV, oP, mCon, getP, setP, ownP, frzs, frz, ixX_t, ixX_l, at0, at1, at2, at3, ixN_30, ixN_32, cmpD, mPut, intD, addD, lenD, mOp1, intF, modC, divC, mSet, mRet, mTake, maskE, mSlot, mRd, mAnd, mOr, mNot, mTr, truD, mTup, mNil, mCons, mCallF, mCall, xNil, xIn, xIo, fillIn, backIn, mSkip, mDrop, mRetN, isi_i, isi_t, isi_b, lenOk, mLst, mApp, appO, mFor, mRng, aName, mIt, seqOf, eqX_int, eqX_bl, neD_int, b13_1, hi, e10, hm, hp2, ixF00]
theorem l13b (hn : n ≤ 3) (h0 : 0 < n) {td : D} (e10 : ∀ u : Us, cf 10 [.val (.int n), .val (.int u.ar)] = .ok (.val (.int (cnt n u))) [none, none]) :
    ∀ (l : List Us) (f : Tb), f.ok → ∀ x2 x3, ∃ y2 y3, loopF (aTup (aCons (aName 2) (aCons (aName 3) aNil))) (b13_1 w cf cg) (l.map Us.d) [some (.val (.ins 0 [.int n, td])), F, x2, x3, some (.dct f.ks f.vs), x5, x6, x7] = .nx [some (.val (.ins 0 [.int n, td])), F, y2, y3, some (.dct (fillT n l f).ks (fillT n l f).vs), x5, x6, x7]
  | [], f, hf, x2, x3 => ⟨x2, x3, rfl⟩
  | u :: l, f, hf, x2, x3 => by
    have hy := s13b w cf cg (F := F) (x5 := x5) (x6 := x6) (x7 := x7) hn h0 (td := td) hf u (e10 u)
    obtain ⟨y2, y3, ih⟩ := l13b hn h0 e10 l (addT n u f) (addT_ok hn hf) (some (.val (sy u.a u.b))) (some (.val (.int u.ar)))
    refine ⟨y2, y3, ?_⟩
    rw [List.map_cons, loop_cons (r1 := [some (.val (.ins 0 [.int n, td])), F, some (.val (sy u.a u.b)), some (.val (.int u.ar)), some (.dct f.ks f.vs), x5, x6, x7]) rfl, hy]
    exact ih
end
end K63
set_option Elab.async false
set_option linter.all false
set_option maxRecDepth 100000
set_option maxHeartbeats 4000000
namespace K63
open PL
theorem lc_P {α : Type} {own : List Nat} {a : AM} {m : EM} (enc : α → D) (g : α → O) (P : PL.Env → Prop) : ∀ {xs : List α} {r : PL.Env}, (∀ x ∈ xs, ∀ r, P r → ∃ r1 r3, a (enc x) r = some r1 ∧ m r1 = .ok (g x) r3 ∧ P (wipeE r3 own)) → P r → ∃ r', loopC own a mYes m (xs.map enc) r = .ok (xs.map g) r' ∧ P r'
  | [], r, _, hp => ⟨r, rfl, hp⟩
  | x :: xs, r, h, hp => by
    obtain ⟨r1, r3, e1, e2, e3⟩ := h x (List.mem_cons_self ..) r hp
    obtain ⟨r', e4, e5⟩ := lc_P (own := own) (a := a) (m := m) enc g P (xs := xs) (fun d m => h d (List.mem_cons_of_mem _ m)) e3
    refine ⟨r', ?_, e5⟩
    simp only [List.map_cons, loopC, e1, mYes, e2, e4]
section
variable (w : PySem.World) (cf cg : Nat → FM) {n : Nat} {W fd : D} {X : O} {y2 y3 x4 : Option O}
def P13 (W fd : D) (X : O) (y2 y3 x4 : Option O) (r : PL.Env) : Prop := ∃ o : O, (o = X ∨ o = .val (frz X)) ∧ r = [some (.val W), some (.val fd), y2, y3, x4, some o, none, none]
theorem e13_ok {f : D} {b : Bool} (e4 : cf 4 [.val f, .val (frz X)] = .ok (.val (.bl b)) [none, none]) {o : O} (ho : o = X ∨ o = .val (frz X)) : e13_0 w cf cg [some (.val W), some (.val fd), y2, y3, x4, some o, none, some (.val f)] = .ok (.val (.bl b)) [some (.val W), some (.val fd), y2, y3, x4, some (.val (frz X)), none, some (.val f)] := by
  have hs : mSlot 5 [some (.val W), some (.val fd), y2, y3, x4, some o, none, some (.val f)] = .ok (.val (frz X)) [some (.val W), some (.val fd), y2, y3, x4, some (.val (frz X)), none, some (.val f)] := by
    rcases ho with rfl | rfl
    · cases o <;> rfl
    · rfl
  have h7 : mSlot 7 [some (.val W), some (.val fd), y2, y3, x4, some o, none, some (.val f)] = .ok (.val f) [some (.val W), some (.val fd), y2, y3, x4, some o, none, some (.val f)] := rfl
  have hc : mCons (mSlot 7) (mCons (mSlot 5) mNil) [some (.val W), some (.val fd), y2, y3, x4, some o, none, some (.val f)] = .ok [.val f, .val (frz X)] [some (.val W), some (.val fd), y2, y3, x4, some (.val (frz X)), none, some (.val f)] := by
    unfold mCons
    rw [h7]
    dsimp only
    rw [hs]
    rfl
  have hz : (frzs [O.val f, O.val (frz X)]).map O.val = [.val f, .val (frz X)] := rfl
  unfold e13_0 mCallF
  rw [hc]
  dsimp only
  rw [hz, e4]
theorem all_map {α : Type} (g : α → Bool) (xs : List α) : allF (.lst (xs.map fun x => D.bl (g x))) = some (.val (.bl (xs.all g))) := by
  unfold allF
  dsimp only
  rw [blsD_map, Option.map_some, List.all_map]
  rfl
theorem ret13 {fs : List Fm} {g : Fm → Bool} (hl : fs.length < 1000) (e4 : ∀ f ∈ fs, cf 4 [.val f.d, .val (frz X)] = .ok (.val (.bl (g f))) [none, none]) : isRet (.val (.bl (fs.all g))) (mRet (mOp1 allF (oV (mLc [7] (mIt (mSlot 1)) (aName 7) mYes (e13_0 w cf cg)))) [some (.val W), some (.val (.lst (fs.map Fm.d))), y2, y3, x4, some X, none, none]) := by
  obtain ⟨r', h1, h2⟩ := lc_P (own := [7]) (a := aName 7) (m := e13_0 w cf cg) Fm.d (fun f => .val (.bl (g f))) (P13 W (.lst (fs.map Fm.d)) X y2 y3 x4) (xs := fs) (r := [some (.val W), some (.val (.lst (fs.map Fm.d))), y2, y3, x4, some X, none, none]) (fun f hf r ⟨o, ho, hr⟩ => by
    subst hr
    exact ⟨_, _, rfl, e13_ok w cf cg (e4 f hf) ho, .val (frz X), .inr rfl, rfl⟩) ⟨X, .inl rfl, rfl⟩
  have h3 : mIt (mSlot 1) [some (.val W), some (.val (.lst (fs.map Fm.d))), y2, y3, x4, some X, none, none] = .ok (fs.map Fm.d) [some (.val W), some (.val (.lst (fs.map Fm.d))), y2, y3, x4, some X, none, none] := rfl
  have h4 : wipeE [some (.val W), some (.val (.lst (fs.map Fm.d))), y2, y3, x4, some X, none, none] [7] = [some (.val W), some (.val (.lst (fs.map Fm.d))), y2, y3, x4, some X, none, none] := rfl
  have h5 : lenOk ((fs.map fun f => O.val (.bl (g f))).length + 1) = true := lenOk_lt (by rw [List.length_map]; omega)
  have h6 : frz (.lst (fs.map fun f => O.val (.bl (g f)))) = .lst (fs.map fun f => D.bl (g f)) := by
    have : (fs.map fun f => O.val (.bl (g f))) = (fs.map fun f => D.bl (g f)).map O.val := by rw [List.map_map]; rfl
    rw [this, frz_vals]
  have h7 : mLc [7] (mIt (mSlot 1)) (aName 7) mYes (e13_0 w cf cg) [some (.val W), some (.val (.lst (fs.map Fm.d))), y2, y3, x4, some X, none, none] = .ok (.lst (fs.map fun f => O.val (.bl (g f)))) r' := by
    unfold mLc
    rw [h3]
    dsimp only
    rw [h4, h1]
    dsimp only
    rw [if_pos h5]
  unfold mRet mOp1 oV
  rw [h7]
  dsimp only
  rw [h6, all_map]
  rfl
end
section
variable (w : PySem.World) (cf cg : Nat → FM) {n : Nat} {t : Tb} {fs : List Fm}
def E13 (n : Nat) (t : Tb) (fs : List Fm) (y2 y3 x4 x5 : Option O) : PL.Env := [some (.val (wld n t)), some (.val (.lst (fs.map Fm.d))), y2, y3, x4, x5, none, none]
theorem t13_1 : mIfS (mTst (mOp2 ltD (oP FID 0 [0]) (oV (mCon (.int 1))))) (mRet (mCon (.bl false))) mSkip (E13 n t fs none none none none) = (if n = 0 then .ret (.val (.bl false)) (E13 n t fs none none none none) else .nx (E13 n t fs none none none none)) := by
  unfold E13 wld
  by_cases h : n = 0
  · subst h
    simp [runB, mSeq, mIfS, mTst, mOp2, PL.m2, oV, oP, mCon, getP, setP, ownP, frzs, frz, ixX_t, ixX_l, at0, at1, at2, at3, ixN_30, ixN_32, cmpD, mPut, intD, addD, lenD, mOp1, intF, modC, divC, mSet, mRet, mTake, maskE, mSlot, mRd, mAnd, mOr, mNot, mTr, truD, mTup, mNil, mCons, mCallF, mCall, xNil, xIn, xIo, fillIn, backIn, mSkip, mDrop, mRetN, isi_i, isi_t, isi_b, lenOk, mLst, mApp, appO, mFor, mRng, aName, mIt, seqOf, eqX_int, eqX_bl, neD_int, ixF00]
  · have h2 : ¬ (n : Int) < 1 := by omega
    simp [runB, mSeq, mIfS, mTst, mOp2, PL.m2, oV, oP, mCon, getP, setP, ownP, frzs, frz, ixX_t, ixX_l, at0, at1, at2, at3, ixN_30, ixN_32, cmpD, mPut, intD, addD, lenD, mOp1, intF, modC, divC, mSet, mRet, mTake, maskE, mSlot, mRd, mAnd, mOr, mNot, mTr, truD, mTup, mNil, mCons, mCallF, mCall, xNil, xIn, xIo, fillIn, backIn, mSkip, mDrop, mRetN, isi_i, isi_t, isi_b, lenOk, mLst, mApp, appO, mFor, mRng, aName, mIt, seqOf, eqX_int, eqX_bl, neD_int, ixF00, h, h2]
theorem t13_2 (ht : t.ok) (e12 : ∀ (u : Us) (l : List Int), l.length ≤ 10 → cf 12 [.val (sy u.a u.b), .val (.int u.ar), .val (tupI l), .val (.int n)] = .ok (.val (.bl (fitB n u l))) [none, none, none, none]) :
    ∃ y2 y3, mForD FID 0 [1] (aTup (aCons (aName 2) (aCons (aName 3) aNil))) (b13_2 w cf cg) (E13 n t fs none none none none) = (if fitsB n t = true then .nx (E13 n t fs y2 y3 none none) else .ret (.val (.bl false)) (E13 n t fs y2 y3 none none)) := by
  obtain ⟨y2, y3, h⟩ := l13a w cf cg (F := some (.val (.lst (fs.map Fm.d)))) (x4 := none) (x5 := none) (x6 := none) (x7 := none) (t := t) (n := n) e12 t (fun e he => ⟨tb_at ht.1 he, ht.2 e he⟩) none none
  refine ⟨y2, y3, ?_⟩
  have e0 : mRd FID 0 [1] (E13 n t fs none none none none) = .ok (.val (.dct t.ks t.vs)) (E13 n t fs none none none none) := rfl
  unfold mForD
  rw [e0]
  dsimp only
  unfold E13
  rw [h]
  cases fitsB n t <;> rfl
theorem rd6 {W td k v : D} {F y2 y3 x4 x5 x7 : Option O} (hg : getP FID (.val W) [1] = some (.val td)) (h : ixX td k = some (.val v)) : mOp2 ixX (oP FID 0 [1]) (oP FID 6 []) [some (.val W), F, y2, y3, x4, x5, some (.val k), x7] = .ok (.val v) [some (.val W), F, y2, y3, x4, x5, some (.val k), x7] := by
  simp [mOp2, PL.m2, oP, hg, getP, h]
theorem t13_3 (ht : t.ok) {y2 y3 : Option O} : mSet 4 (mDcD FID [6] 0 [1] (aName 6) mYes (oV (mSlot 6)) (mOp2 ixX (oP FID 0 [1]) (oP FID 6 []))) (E13 n t fs y2 y3 none none) = .nx (E13 n t fs y2 y3 (some (.dct t.ks t.vs)) none) := by
  have h2 := dc_copy (own := [6]) (a := aName 6) (mk := oV (mSlot 6)) (m := mOp2 ixX (oP FID 0 [1]) (oP FID 6 [])) (r := E13 n t fs y2 y3 none none) t [] ht (fun e he => by
    have hx : ixX (.dct t.ks t.vs) e.1.d = some (.val (tupI e.2)) := by
      rw [ixX_tb, tb_at ht.1 he]; rfl
    exact ⟨_, _, _, rfl, rfl, rd6 (W := wld n t) (td := .dct t.ks t.vs) rfl hx, rfl⟩)
  have e0 : mRd FID 0 [1] (E13 n t fs y2 y3 none none) = .ok (.val (.dct t.ks t.vs)) (E13 n t fs y2 y3 none none) := rfl
  have e1 : Tb.ks [] = [] := rfl
  have e2 : Tb.vs [] = [] := rfl
  have e3 : wipeE (E13 n t fs y2 y3 none none) [6] = E13 n t fs y2 y3 none none := rfl
  rw [e1, e2, List.nil_append] at h2
  unfold mSet mDcD
  rw [e0]
  dsimp only
  rw [e3, h2]
  rfl
theorem t13_4 (hn : n ≤ 3) (h0 : 0 < n) {l : List Us} {y2 y3 : Option O} (ht : t.ok) (e7 : cf 7 [.val (.lst (fs.map Fm.d))] = .ok (usO l) [none]) (e10 : ∀ u : Us, cf 10 [.val (.int n), .val (.int u.ar)] = .ok (.val (.int (cnt n u))) [none, none]) :
    ∃ z2 z3, mFor (mIt (mCallF (cf 7) (mCons (mSlot 1) mNil))) (aTup (aCons (aName 2) (aCons (aName 3) aNil))) (b13_1 w cf cg) (E13 n t fs y2 y3 (some (.dct t.ks t.vs)) none) = .nx (E13 n t fs z2 z3 (some (.dct (fillT n l t).ks (fillT n l t).vs)) none) := by
  obtain ⟨z2, z3, h⟩ := l13b w cf cg (F := some (.val (.lst (fs.map Fm.d)))) (x5 := none) (x6 := none) (x7 := none) hn h0 (td := .dct t.ks t.vs) e10 l t ht y2 y3
  refine ⟨z2, z3, ?_⟩
  have e1 : mCallF (cf 7) (mCons (mSlot 1) mNil) (E13 n t fs y2 y3 (some (.dct t.ks t.vs)) none) = .ok (usO l) (E13 n t fs y2 y3 (some (.dct t.ks t.vs)) none) := by
    have hc : mCons (mSlot 1) mNil (E13 n t fs y2 y3 (some (.dct t.ks t.vs)) none) = .ok [.val (.lst (fs.map Fm.d))] (E13 n t fs y2 y3 (some (.dct t.ks t.vs)) none) := rfl
    have hz : (frzs [O.val (.lst (fs.map Fm.d))]).map O.val = [.val (.lst (fs.map Fm.d))] := rfl
    unfold mCallF
    rw [hc]
    dsimp only
    rw [hz, e7]
  have e2 : frz (usO l) = .lst (l.map Us.d) := by
    unfold usO
    rw [frz, frzs_us2]
  have e3 : mIt (mCallF (cf 7) (mCons (mSlot 1) mNil)) (E13 n t fs y2 y3 (some (.dct t.ks t.vs)) none) = .ok (l.map Us.d) (E13 n t fs y2 y3 (some (.dct t.ks t.vs)) none) := by
    unfold mIt
    rw [e1]
    dsimp only
    rw [e2]
    rfl
  rw [for_ok e3]
  exact h
theorem t13_5 {f : Tb} {y2 y3 : Option O} (e8 : cg 8 [.ins 0 [], .val (.int n), .val (.dct f.ks f.vs)] = .ok (.val .non) [some (.ins 0 [.val (.int n), .dct f.ks f.vs]), none, none]) :
    mSet 5 (mMake (cg 8) 0 (mCons (mRd FID 0 [0]) (mCons (mSlot 4) mNil))) (E13 n t fs y2 y3 (some (.dct f.ks f.vs)) none) = .nx (E13 n t fs y2 y3 (some (.val (.dct f.ks f.vs))) (some (.ins 0 [.val (.int n), .dct f.ks f.vs]))) := by
  have hc : mCons (mRd FID 0 [0]) (mCons (mSlot 4) mNil) (E13 n t fs y2 y3 (some (.dct f.ks f.vs)) none) = .ok [.val (.int n), .val (.dct f.ks f.vs)] (E13 n t fs y2 y3 (some (.val (.dct f.ks f.vs))) none) := rfl
  have hz : (O.ins 0 []) :: (frzs [O.val (.int n), O.val (.dct f.ks f.vs)]).map O.val = [.ins 0 [], .val (.int n), .val (.dct f.ks f.vs)] := rfl
  unfold mSet mMake
  rw [hc]
  dsimp only
  rw [hz, e8]
  rfl
end
theorem m13_eq (w : PySem.World) (cf cg : Nat → FM) {n : Nat} {t : Tb} {fs : List Fm} (hn : n ≤ 3) (ht : t.ok) (hl : fs.length < 1000)
    (e12 : ∀ (u : Us) (l : List Int), l.length ≤ 10 → cf 12 [.val (sy u.a u.b), .val (.int u.ar), .val (tupI l), .val (.int n)] = .ok (.val (.bl (fitB n u l))) [none, none, none, none])
    (e7 : cf 7 [.val (.lst (fs.map Fm.d))] = .ok (usO (usAll fs [])) [none]) (e10 : ∀ u : Us, cf 10 [.val (.int n), .val (.int u.ar)] = .ok (.val (.int (cnt n u))) [none, none])
    (e8 : ∀ f : Tb, f.ok → cg 8 [.ins 0 [], .val (.int n), .val (.dct f.ks f.vs)] = .ok (.val .non) [some (.ins 0 [.val (.int n), .dct f.ks f.vs]), none, none])
    (e4 : 0 < n → fitsB n t = true → ∀ f ∈ fs, cf 4 [.val f.d, .val (wld n (fillT n (usAll fs []) t))] = .ok (.val (.bl (f.tv n (fillT n (usAll fs []) t) []))) [none, none]) :
    isRet (.val (.bl (accB n t fs))) (m13 w cf cg [some (.val (wld n t)), some (.val (.lst (fs.map Fm.d))), none, none, none, none, none, none]) := by
  show isRet _ (m13 w cf cg (E13 n t fs none none none none))
  unfold m13
  have h1 := t13_1 (n := n) (t := t) (fs := fs)
  by_cases h0 : n = 0
  · rw [if_pos h0] at h1
    have : accB n t fs = false := by
      unfold accB
      rw [h0]
      rfl
    rw [this]
    unfold mSeq
    rw [h1]
    rfl
  · rw [if_neg h0] at h1
    rw [mSeq_nx h1]
    obtain ⟨y2, y3, h2⟩ := t13_2 w cf cg (fs := fs) ht e12
    cases hf : fitsB n t with
    | false =>
      rw [hf, if_neg Bool.false_ne_true] at h2
      have : accB n t fs = false := by
        unfold accB
        rw [hf, Bool.false_and, Bool.and_false]
      rw [this]
      unfold mSeq
      rw [h2]
      rfl
    | true =>
      rw [hf, if_pos rfl] at h2
      have hp : 0 < n := by omega
      have ha : accB n t fs = fs.all fun f => f.tv n (fillT n (usAll fs []) t) [] := by
        unfold accB
        rw [hf, Bool.true_and, decide_eq_true (by omega), Bool.true_and]
      obtain ⟨z2, z3, h4⟩ := t13_4 w cf cg hn hp (y2 := y2) (y3 := y3) ht e7 e10
      rw [ha, mSeq_nx h2, mSeq_nx (t13_3 ht), mSeq_nx h4, mSeq_nx (t13_5 cg (e8 _ (fillT_ok hn ht)))]
      exact ret13 w cf cg (X := .ins 0 [.val (.int n), .dct (fillT n (usAll fs []) t).ks (fillT n (usAll fs []) t).vs]) hl (e4 hp hf)
theorem pacc (w : PySem.World) (k : Nat) {n : Nat} {t : Tb} {fs : List Fm} (hn : n ≤ 3) (ht : t.ok) (hl : fs.length < 1000) (ok : ∀ f ∈ fs, f.ok 0 ∧ f.dp ≤ 3) :
    callI (T w) (k + 12) 13 [.val (wld n t), .val (.lst (fs.map Fm.d))] = .ok (.val (.bl (accB n t fs))) [none, none] := by
  rw [callK]
  refine run_ret _ rfl rfl ?_
  refine m13_eq w (callI (T w) (k + 11)) (callI (T w) (k + 11 - 1)) hn ht hl (fun u l h => ptab w (k + 8) hn u l (by omega)) (puses w (k + 2) ok) (fun u => pcnt w (k + 10) hn u) (fun f hf => winit w (k + 9) hf) (fun h0 hf f m => ?_)
  obtain ⟨o, d⟩ := ok f m
  exact pholds w hn h0 o (full_ful h0 hf fs f m) (by omega) (by omega)
end K63
set_option Elab.async false
set_option linter.all false
set_option maxRecDepth 100000
set_option maxHeartbeats 4000000
namespace K63
open PL
/-! ### the law's own answer -/
section
variable (w : PySem.World) (cf cg : Nat → FM) {n : Nat} {td : D} {fs : List Fm} {l : List Us}
def E27 (fs : List Fm) (l : List Us) (n : Nat) (td : D) (x4 x5 x6 x7 : Option O) : PL.Env := [some (.val (.lst (fs.map Fm.d))), some (.val (usD l)), some (.val (.int n)), some (.val td), x4, x5, x6, x7, none]
theorem t27_1 {b : Bool} (e26 : cf 26 [.val td, .val (.int n)] = .ok (.val (.bl b)) [none, none]) : mIfS (mOr (mTst (mOp2 ltD (oP FID 2 []) (oV (mCon (.int 1))))) (mNot (mTr truD (oV (mCallF (cf 26) (mCons (mSlot 3) (mCons (mSlot 2) mNil))))))) (mRet (mCon (.bl false))) mSkip (E27 fs l n td none none none none) = (if decide (1 ≤ n) && b then .nx (E27 fs l n td none none none none) else .ret (.val (.bl false)) (E27 fs l n td none none none none)) := by
  unfold E27
  by_cases h : n = 0
  · subst h
    simp [runB, mSeq, mIfS, mTst, mOp2, PL.m2, oV, oP, mCon, getP, setP, ownP, frzs, frz, ixX_t, ixX_l, at0, at1, at2, at3, ixN_30, ixN_32, cmpD, mPut, intD, addD, lenD, mOp1, intF, modC, divC, mSet, mRet, mTake, maskE, mSlot, mRd, mAnd, mOr, mNot, mTr, truD, mTup, mNil, mCons, mCallF, mCall, xNil, xIn, xIo, fillIn, backIn, mSkip, mDrop, mRetN, isi_i, isi_t, isi_b, lenOk, mLst, mApp, appO, mFor, mRng, aName, mIt, seqOf, eqX_int, eqX_bl, neD_int]
  · have h2 : ¬ (n : Int) < 1 := by omega
    have h3 : 1 ≤ n := by omega
    cases b <;> simp [runB, mSeq, mIfS, mTst, mOp2, PL.m2, oV, oP, mCon, getP, setP, ownP, frzs, frz, ixX_t, ixX_l, at0, at1, at2, at3, ixN_30, ixN_32, cmpD, mPut, intD, addD, lenD, mOp1, intF, modC, divC, mSet, mRet, mTake, maskE, mSlot, mRd, mAnd, mOr, mNot, mTr, truD, mTup, mNil, mCons, mCallF, mCall, xNil, xIn, xIo, fillIn, backIn, mSkip, mDrop, mRetN, isi_i, isi_t, isi_b, lenOk, mLst, mApp, appO, mFor, mRng, aName, mIt, seqOf, eqX_int, eqX_bl, neD_int, h, h2, h3, e26]
theorem t27_2 {t : Tb} (ht : t.ok) : mSet 4 (mOp1 (dctF w) (oP FID 3 [])) (E27 fs l n (.dct t.ks t.vs) none none none none) = .nx (E27 fs l n (.dct t.ks t.vs) (some (.dct t.ks t.vs)) none none none) := by
  have e := dctF_tb w ht
  unfold E27
  generalize t.ks = ks at *
  generalize t.vs = vs at *
  simp [runB, mSeq, mIfS, mTst, mOp2, PL.m2, oV, oP, mCon, getP, setP, ownP, frzs, frz, ixX_t, ixX_l, at0, at1, at2, at3, ixN_30, ixN_32, cmpD, mPut, intD, addD, lenD, mOp1, intF, modC, divC, mSet, mRet, mTake, maskE, mSlot, mRd, mAnd, mOr, mNot, mTr, truD, mTup, mNil, mCons, mCallF, mCall, xNil, xIn, xIo, fillIn, backIn, mSkip, mDrop, mRetN, isi_i, isi_t, isi_b, lenOk, mLst, mApp, appO, mFor, mRng, aName, mIt, seqOf, eqX_int, eqX_bl, neD_int, e]
theorem zer : ∀ k : Nat, ((rngD k).map fun _ => O.val (.int 0)) = (List.replicate k (0 : Int)).map fun i => .val (.int i) := fun k => by
  unfold rngD
  rw [List.map_map, List.map_replicate]
  show (List.range k).map (fun _ => O.val (.int 0)) = _
  rw [List.map_const', List.length_range]
theorem step27 (hn : n ≤ 3) {A B C : Option O} {f : Tb} (hf : f.ok) (u : Us) (e23 : cf 23 [.val (.int n), .val (.int u.ar)] = .ok (.val (.int (cnt n u))) [none, none]) :
    b27_2 w cf cg [A, B, some (.val (.int n)), C, some (.dct f.ks f.vs), some (.val (sy u.a u.b)), some (.val (.int u.ar)), none, none] = .nx [A, B, some (.val (.int n)), C, some (.dct (addT n u f).ks (addT n u f).vs), some (.val (sy u.a u.b)), some (.val (.int u.ar)), none, none] := by
  have hi : inX true (.tup [sy u.a u.b, .int u.ar]) (.dct f.ks f.vs) = some (.val (.bl (!(f.get u).isSome))) := inX_tb true u f
  have hc := cnt_le n hn u
  have ht1 : mTst (mOp2 (inX true) (oV (mTup (mCons (mSlot 5) (mCons (mSlot 6) mNil)))) (oP FID 4 [])) [A, B, some (.val (.int n)), C, some (.dct f.ks f.vs), some (.val (sy u.a u.b)), some (.val (.int u.ar)), none, none] = .ok (!(f.get u).isSome) [A, B, some (.val (.int n)), C, some (.dct f.ks f.vs), some (.val (sy u.a u.b)), some (.val (.int u.ar)), none, none] := by
    generalize f.ks = ks at *
    generalize f.vs = vs at *
    simp [runB, mSeq, mIfS, mTst, mOp2, PL.m2, oV, oP, mCon, getP, setP, ownP, frzs, frz, ixX_t, ixX_l, at0, at1, at2, at3, ixN_30, ixN_32, cmpD, mPut, intD, addD, lenD, mOp1, intF, modC, divC, mSet, mRet, mTake, maskE, mSlot, mRd, mAnd, mOr, mNot, mTr, truD, mTup, mNil, mCons, mCallF, mCall, xNil, xIn, xIo, fillIn, backIn, mSkip, mDrop, mRetN, isi_i, isi_t, isi_b, lenOk, mLst, mApp, appO, mFor, mRng, aName, mIt, seqOf, eqX_int, eqX_bl, neD_int, hi]
  unfold b27_2 addT
  cases hg : (f.get u).isSome with
  | true =>
    rw [hg] at ht1
    rw [if_pos rfl, mIfS_f ht1]
    rfl
  | false =>
    rw [hg] at ht1
    rw [if_neg Bool.false_ne_true, mIfS_t ht1]
    have hu := get_none (t := f) (u := u) (by rw [hg]; exact Bool.false_ne_true)
    have hp := putO_tb (u := u) (t := f) (l := List.replicate (cnt n u) 0) (o := .val (tupI (List.replicate (cnt n u) 0))) (tb_none hu) (by have := tb_len hf; omega) rfl
    have hp2 : putO (.dct f.ks f.vs) (.tup [sy u.a u.b, .int u.ar]) (.val (tupI (List.replicate (cnt n u) 0))) = _ := hp
    generalize Tb.ks (f ++ [(u, List.replicate (cnt n u) 0)]) = k2 at *
    generalize Tb.vs (f ++ [(u, List.replicate (cnt n u) 0)]) = v2 at *
    generalize f.ks = ks at *
    generalize f.vs = vs at *
    have h1 : mRng (oV (mCallF (cf 23) (mCons (mSlot 2) (mCons (mSlot 6) mNil)))) [A, B, some (.val (.int n)), C, some (.dct ks vs), some (.val (sy u.a u.b)), some (.val (.int u.ar)), none, none] = .ok (rngD (cnt n u)) [A, B, some (.val (.int n)), C, some (.dct ks vs), some (.val (sy u.a u.b)), some (.val (.int u.ar)), none, none] := by
      refine rng_ok (by omega) ?_
      simp [runB, mSeq, mIfS, mTst, mOp2, PL.m2, oV, oP, mCon, getP, setP, ownP, frzs, frz, ixX_t, ixX_l, at0, at1, at2, at3, ixN_30, ixN_32, cmpD, mPut, intD, addD, lenD, mOp1, intF, modC, divC, mSet, mRet, mTake, maskE, mSlot, mRd, mAnd, mOr, mNot, mTr, truD, mTup, mNil, mCons, mCallF, mCall, xNil, xIn, xIo, fillIn, backIn, mSkip, mDrop, mRetN, isi_i, isi_t, isi_b, lenOk, mLst, mApp, appO, mFor, mRng, aName, mIt, seqOf, eqX_int, eqX_bl, neD_int, e23]
    have h2 : loopC [8] (aName 8) mYes (e27_1 w cf cg) (rngD (cnt n u)) [A, B, some (.val (.int n)), C, some (.dct ks vs), some (.val (sy u.a u.b)), some (.val (.int u.ar)), none, none] = .ok ((rngD (cnt n u)).map fun _ => O.val (.int 0)) [A, B, some (.val (.int n)), C, some (.dct ks vs), some (.val (sy u.a u.b)), some (.val (.int u.ar)), none, none] := lc_map (fun _ => O.val (.int 0)) fun d _ => ⟨_, _, rfl, rfl, rfl⟩
    have h3 : wipeE [A, B, some (.val (.int n)), C, some (.dct ks vs), some (.val (sy u.a u.b)), some (.val (.int u.ar)), none, none] [8] = [A, B, some (.val (.int n)), C, some (.dct ks vs), some (.val (sy u.a u.b)), some (.val (.int u.ar)), none, none] := rfl
    have h4 : lenOk (((rngD (cnt n u)).map fun _ => O.val (.int 0)).length + 1) = true := lenOk_lt (by rw [List.length_map, rng_len]; omega)
    have h5 : mLc [8] (mRng (oV (mCallF (cf 23) (mCons (mSlot 2) (mCons (mSlot 6) mNil))))) (aName 8) mYes (e27_1 w cf cg) [A, B, some (.val (.int n)), C, some (.dct ks vs), some (.val (sy u.a u.b)), some (.val (.int u.ar)), none, none] = .ok (intsO (List.replicate (cnt n u) 0)) [A, B, some (.val (.int n)), C, some (.dct ks vs), some (.val (sy u.a u.b)), some (.val (.int u.ar)), none, none] := by
      unfold mLc
      rw [h1]
      dsimp only
      rw [h3, h2]
      dsimp only
      rw [if_pos h4, zer]
      rfl
    have h6 : mOp1 tupF (oV (mLc [8] (mRng (oV (mCallF (cf 23) (mCons (mSlot 2) (mCons (mSlot 6) mNil))))) (aName 8) mYes (e27_1 w cf cg))) [A, B, some (.val (.int n)), C, some (.dct ks vs), some (.val (sy u.a u.b)), some (.val (.int u.ar)), none, none] = .ok (.val (tupI (List.replicate (cnt n u) 0))) [A, B, some (.val (.int n)), C, some (.dct ks vs), some (.val (sy u.a u.b)), some (.val (.int u.ar)), none, none] := by
      clear hp2 hp hi ht1 h1 h2
      generalize mLc [8] (mRng (oV (mCallF (cf 23) (mCons (mSlot 2) (mCons (mSlot 6) mNil))))) (aName 8) mYes (e27_1 w cf cg) = M at h5 ⊢
      unfold mOp1 oV
      rw [h5]
      dsimp only
      rw [frz_ints]
      rfl
    generalize mOp1 tupF (oV (mLc [8] (mRng (oV (mCallF (cf 23) (mCons (mSlot 2) (mCons (mSlot 6) mNil))))) (aName 8) mYes (e27_1 w cf cg))) = M at *
    generalize tupI (List.replicate (cnt n u) 0) = ld at *
    simp [runB, mSeq, mIfS, mTst, mOp2, PL.m2, oV, oP, mCon, getP, setP, ownP, frzs, frz, ixX_t, ixX_l, at0, at1, at2, at3, ixN_30, ixN_32, cmpD, mPut, intD, addD, lenD, mOp1, intF, modC, divC, mSet, mRet, mTake, maskE, mSlot, mRd, mAnd, mOr, mNot, mTr, truD, mTup, mNil, mCons, mCallF, mCall, xNil, xIn, xIo, fillIn, backIn, mSkip, mDrop, mRetN, isi_i, isi_t, isi_b, lenOk, mLst, mApp, appO, mFor, mRng, aName, mIt, seqOf, eqX_int, eqX_bl, neD_int, h6, hp2]
theorem l27 (hn : n ≤ 3) {A B C : Option O} (e23 : ∀ u : Us, cf 23 [.val (.int n), .val (.int u.ar)] = .ok (.val (.int (cnt n u))) [none, none]) :
    ∀ (l : List Us) (f : Tb), f.ok → ∀ x5 x6, ∃ y5 y6, loopF (aTup (aCons (aName 5) (aCons (aName 6) aNil))) (b27_2 w cf cg) (l.map Us.d) [A, B, some (.val (.int n)), C, some (.dct f.ks f.vs), x5, x6, none, none] = .nx [A, B, some (.val (.int n)), C, some (.dct (fillT n l f).ks (fillT n l f).vs), y5, y6, none, none]
  | [], f, hf, x5, x6 => ⟨x5, x6, rfl⟩
  | u :: l, f, hf, x5, x6 => by
    have hy := step27 w cf cg hn (A := A) (B := B) (C := C) hf u (e23 u)
    obtain ⟨y5, y6, ih⟩ := l27 hn e23 l (addT n u f) (addT_ok hn hf) (some (.val (sy u.a u.b))) (some (.val (.int u.ar)))
    refine ⟨y5, y6, ?_⟩
    rw [List.map_cons, loop_cons (r1 := [A, B, some (.val (.int n)), C, some (.dct f.ks f.vs), some (.val (sy u.a u.b)), some (.val (.int u.ar)), none, none]) rfl, hy]
    exact ih
/-- one formula -/
theorem f27 {A B C x5 x6 : Option O} {f fd : D} {b : Bool} {o : O} (ho : frz o = fd) (e20 : cf 20 [.val f, .val (.dct [] []), .val (.int n), .val fd] = .ok (.val (.bl b)) [none, none, none, none]) : b27_0 w cf cg [A, B, some (.val (.int n)), C, some o, x5, x6, some (.val f), none] = (if b then .nx [A, B, some (.val (.int n)), C, some (.val fd), x5, x6, some (.val f), none] else .ret (.val (.bl false)) [A, B, some (.val (.int n)), C, some (.val fd), x5, x6, some (.val f), none]) := by
  have hs : mSlot 4 [A, B, some (.val (.int n)), C, some o, x5, x6, some (.val f), none] = .ok (.val fd) [A, B, some (.val (.int n)), C, some (.val fd), x5, x6, some (.val f), none] := by
    subst ho
    cases o <;> rfl
  have hc : mCons (mSlot 7) (mCons mDnew (mCons (mSlot 2) (mCons (mSlot 4) mNil))) [A, B, some (.val (.int n)), C, some o, x5, x6, some (.val f), none] = .ok [.val f, .dct [] [], .val (.int n), .val fd] [A, B, some (.val (.int n)), C, some (.val fd), x5, x6, some (.val f), none] := by
    have h7 : mSlot 7 [A, B, some (.val (.int n)), C, some o, x5, x6, some (.val f), none] = .ok (.val f) [A, B, some (.val (.int n)), C, some o, x5, x6, some (.val f), none] := rfl
    have h2 : mSlot 2 [A, B, some (.val (.int n)), C, some o, x5, x6, some (.val f), none] = .ok (.val (.int n)) [A, B, some (.val (.int n)), C, some o, x5, x6, some (.val f), none] := rfl
    have hd : mDnew [A, B, some (.val (.int n)), C, some o, x5, x6, some (.val f), none] = .ok (.dct [] []) [A, B, some (.val (.int n)), C, some o, x5, x6, some (.val f), none] := rfl
    unfold mCons
    rw [h7]
    dsimp only
    rw [hd]
    dsimp only
    rw [h2]
    dsimp only
    rw [hs]
    rfl
  have hz : (frzs [O.val f, O.dct [] [], O.val (.int n), O.val fd]).map O.val = [.val f, .val (.dct [] []), .val (.int n), .val fd] := rfl
  have hcall : mCallF (cf 20) (mCons (mSlot 7) (mCons mDnew (mCons (mSlot 2) (mCons (mSlot 4) mNil)))) [A, B, some (.val (.int n)), C, some o, x5, x6, some (.val f), none] = .ok (.val (.bl b)) [A, B, some (.val (.int n)), C, some (.val fd), x5, x6, some (.val f), none] := by
    unfold mCallF
    rw [hc]
    dsimp only
    rw [hz, e20]
  unfold b27_0
  generalize mCallF (cf 20) (mCons (mSlot 7) (mCons mDnew (mCons (mSlot 2) (mCons (mSlot 4) mNil)))) = M at *
  cases b <;> simp [runB, mSeq, mIfS, mTst, mOp2, PL.m2, oV, oP, mCon, getP, setP, ownP, frzs, frz, ixX_t, ixX_l, at0, at1, at2, at3, ixN_30, ixN_32, cmpD, mPut, intD, addD, lenD, mOp1, intF, modC, divC, mSet, mRet, mTake, maskE, mSlot, mRd, mAnd, mOr, mNot, mTr, truD, mTup, mNil, mCons, mCallF, mCall, xNil, xIn, xIo, fillIn, backIn, mSkip, mDrop, mRetN, isi_i, isi_t, isi_b, lenOk, mLst, mApp, appO, mFor, mRng, aName, mIt, seqOf, eqX_int, eqX_bl, neD_int, hcall]
theorem lf27 {A B C x5 x6 : Option O} {fd : D} {g : Fm → Bool} : ∀ (fs : List Fm) (o : O), frz o = fd → (∀ f ∈ fs, cf 20 [.val f.d, .val (.dct [] []), .val (.int n), .val fd] = .ok (.val (.bl (g f))) [none, none, none, none]) → ∀ x7, ∃ o' y7, loopF (aName 7) (b27_0 w cf cg) (fs.map Fm.d) [A, B, some (.val (.int n)), C, some o, x5, x6, x7, none] = (if fs.all g = true then .nx [A, B, some (.val (.int n)), C, some o', x5, x6, y7, none] else .ret (.val (.bl false)) [A, B, some (.val (.int n)), C, some o', x5, x6, y7, none])
  | [], o, ho, h, x7 => ⟨o, x7, rfl⟩
  | f :: fs, o, ho, h, x7 => by
    have hy := f27 w cf cg (A := A) (B := B) (C := C) (x5 := x5) (x6 := x6) ho (h f (List.mem_cons_self ..))
    rw [List.map_cons, loop_cons (r1 := [A, B, some (.val (.int n)), C, some o, x5, x6, some (.val f.d), none]) rfl, hy]
    cases hg : g f with
    | true =>
      obtain ⟨o', y7, ih⟩ := lf27 fs (.val fd) rfl (fun f m => h f (List.mem_cons_of_mem _ m)) (some (.val f.d))
      refine ⟨o', y7, ?_⟩
      rw [if_pos rfl, List.all_cons, hg, Bool.true_and]
      exact ih
    | false =>
      refine ⟨.val fd, some (.val f.d), ?_⟩
      rw [if_neg Bool.false_ne_true, List.all_cons, hg, Bool.false_and]
      rfl
end
theorem m27_eq (w : PySem.World) (cf cg : Nat → FM) {n : Nat} {t : Tb} {fs : List Fm} (hn : n ≤ 3) (ht : t.ok)
    (e26 : cf 26 [.val (.dct t.ks t.vs), .val (.int n)] = .ok (.val (.bl (fitsB n t))) [none, none])
    (e23 : ∀ u : Us, cf 23 [.val (.int n), .val (.int u.ar)] = .ok (.val (.int (cnt n u))) [none, none])
    (e20 : 0 < n → fitsB n t = true → ∀ f ∈ fs, cf 20 [.val f.d, .val (.dct [] []), .val (.int n), .val (.dct (fillT n (usAll fs []) t).ks (fillT n (usAll fs []) t).vs)] = .ok (.val (.bl (f.tv n (fillT n (usAll fs []) t) []))) [none, none, none, none]) :
    isRet (.val (.bl (accB n t fs))) (m27 w cf cg [some (.val (.lst (fs.map Fm.d))), some (.val (usD (usAll fs []))), some (.val (.int n)), some (.val (.dct t.ks t.vs)), none, none, none, none, none]) := by
  show isRet _ (m27 w cf cg (E27 fs (usAll fs []) n (.dct t.ks t.vs) none none none none))
  unfold m27
  have h1 := t27_1 cf (n := n) (td := .dct t.ks t.vs) (fs := fs) (l := usAll fs []) e26
  cases hc : decide (1 ≤ n) && fitsB n t with
  | false =>
    rw [hc, if_neg Bool.false_ne_true] at h1
    have : accB n t fs = false := by
      unfold accB
      rw [← Bool.and_assoc, hc, Bool.false_and]
    rw [this]
    unfold mSeq
    rw [h1]
    rfl
  | true =>
    rw [hc, if_pos rfl] at h1
    rw [Bool.and_eq_true] at hc
    obtain ⟨c1, c2⟩ := hc
    have c1 := of_decide_eq_true c1
    have ha : accB n t fs = fs.all fun f => f.tv n (fillT n (usAll fs []) t) [] := by
      unfold accB
      rw [c2, Bool.true_and, decide_eq_true (by omega), Bool.true_and]
    obtain ⟨y5, y6, h3⟩ := l27 w cf cg hn (A := some (.val (.lst (fs.map Fm.d)))) (B := some (.val (usD (usAll fs [])))) (C := some (.val (.dct t.ks t.vs))) e23 (usAll fs []) t ht none none
    obtain ⟨o', y7, h4⟩ := lf27 w cf cg (A := some (.val (.lst (fs.map Fm.d)))) (B := some (.val (usD (usAll fs [])))) (C := some (.val (.dct t.ks t.vs))) (x5 := y5) (x6 := y6) fs (.dct (fillT n (usAll fs []) t).ks (fillT n (usAll fs []) t).vs) rfl (e20 (by omega) c2) none
    have i3 : mIt (mSlot 1) (E27 fs (usAll fs []) n (.dct t.ks t.vs) (some (.dct t.ks t.vs)) none none none) = .ok ((usAll fs []).map Us.d) (E27 fs (usAll fs []) n (.dct t.ks t.vs) (some (.dct t.ks t.vs)) none none none) := rfl
    have i4 : mIt (mSlot 0) (E27 fs (usAll fs []) n (.dct t.ks t.vs) (some (.dct (fillT n (usAll fs []) t).ks (fillT n (usAll fs []) t).vs)) y5 y6 none) = .ok (fs.map Fm.d) (E27 fs (usAll fs []) n (.dct t.ks t.vs) (some (.dct (fillT n (usAll fs []) t).ks (fillT n (usAll fs []) t).vs)) y5 y6 none) := rfl
    have h3' : mFor (mIt (mSlot 1)) (aTup (aCons (aName 5) (aCons (aName 6) aNil))) (b27_2 w cf cg) (E27 fs (usAll fs []) n (.dct t.ks t.vs) (some (.dct t.ks t.vs)) none none none) = .nx (E27 fs (usAll fs []) n (.dct t.ks t.vs) (some (.dct (fillT n (usAll fs []) t).ks (fillT n (usAll fs []) t).vs)) y5 y6 none) := by
      rw [for_ok i3]
      exact h3
    rw [ha, mSeq_nx h1, mSeq_nx (t27_2 w ht), mSeq_nx h3']
    unfold mSeq
    rw [for_ok i4]
    unfold E27
    rw [h4]
    cases fs.all fun f => f.tv n (fillT n (usAll fs []) t) [] <;> rfl
theorem lacc (w : PySem.World) (k : Nat) {n : Nat} {t : Tb} {fs : List Fm} (hn : n ≤ 3) (ht : t.ok) (ok : ∀ f ∈ fs, f.ok 0 ∧ f.dp ≤ 3) :
    callI (T w) (k + 12) 27 [.val (.lst (fs.map Fm.d)), .val (usD (usAll fs [])), .val (.int n), .val (.dct t.ks t.vs)] = .ok (.val (.bl (accB n t fs))) [none, none, none, none] := by
  rw [callK]
  refine run_ret _ rfl rfl ?_
  refine m27_eq w (callI (T w) (k + 11)) (callI (T w) (k + 11 - 1)) hn ht (lfits w (k + 9) hn t fun e he => tb_at ht.1 he) (fun u => lcnt w (k + 10) hn u) (fun h0 hf f m => ?_)
  obtain ⟨o, d⟩ := ok f m
  have h := lhold w (t := fillT n (usAll fs []) t) hn h0 f (k + 11) [] o (full_ful h0 hf fs f m) (fun x hx => nomatch hx) (by omega) (by have : ([] : List Nat).length = 0 := rfl; omega)
  exact h
end K63
set_option Elab.async false
set_option linter.all false
set_option maxRecDepth 100000
set_option maxHeartbeats 4000000
namespace K63
open PL
/-! ### the law -/
def E28 (ns : List Int) (s1 s2 s3 s4 s5 s6 s7 s8 s9 : Option O) : PL.Env := [some (.val (intsD ns)), s1, s2, s3, s4, s5, s6, s7, s8, s9, none]
theorem fms_of : ∀ {os : List O}, (∀ o ∈ os, ∃ f : Fm, (f.ok 0 ∧ f.dp ≤ 3) ∧ o = .val f.d) → ∃ fs : List Fm, (∀ f ∈ fs, f.ok 0 ∧ f.dp ≤ 3) ∧ os = fs.map fun f => .val f.d
  | [], _ => ⟨[], by simp, rfl⟩
  | o :: os, h => by
    obtain ⟨f, hf, rfl⟩ := h o (List.mem_cons_self ..)
    obtain ⟨fs, hfs, rfl⟩ := fms_of (os := os) fun o m => h o (List.mem_cons_of_mem _ m)
    exact ⟨f :: fs, fun g m => by
      rcases List.mem_cons.mp m with rfl | m
      · exact hf
      · exact hfs g m, rfl⟩
theorem frzs_fms (fs : List Fm) : frzs (fs.map fun f => O.val f.d) = fs.map Fm.d := by
  have e : (fs.map fun f => O.val f.d) = (fs.map Fm.d).map O.val := by rw [List.map_map]; rfl
  rw [e, frzs_vals]
theorem tus_z : ∀ (t : Tm) (l : List Us), Us.z ∈ t.us l → Us.z ∈ l
  | .v _, l, m => m
  | .c i, l, m => by
    have m : Us.z ∈ add (cu i) l := m
    unfold add at m
    split at m
    · exact m
    · rcases List.mem_append.mp m with m | m
      · exact m
      · rw [List.mem_singleton] at m
        unfold cu at m
        split at m <;> cases m
  | .f t, l, m => by
    have m := tus_z t _ m
    unfold add at m
    split at m
    · exact m
    · rcases List.mem_append.mp m with m | m
      · exact m
      · cases List.mem_singleton.mp m
theorem add_z {u : Us} (hu : u ≠ .z) {l : List Us} (m : Us.z ∈ add u l) : Us.z ∈ l := by
  unfold add at m
  split at m
  · exact m
  · rcases List.mem_append.mp m with m | m
    · exact m
    · exact absurd (List.mem_singleton.mp m).symm hu
theorem fus_z : ∀ (f : Fm) (l : List Us), Us.z ∈ f.us l → Us.z ∈ l
  | .q, l, m => add_z (by decide) m
  | .p t, l, m => add_z (u := .p) (by decide) (tus_z t _ m)
  | .eq s t, l, m => tus_z s _ (tus_z t _ m)
  | .no f, l, m => fus_z f l m
  | .qu _ _ f, l, m => fus_z f l m
  | .bi _ f g, l, m => fus_z f l (fus_z g _ m)
theorem usAll_z : ∀ (fs : List Fm) (l : List Us), Us.z ∈ usAll fs l → Us.z ∈ l
  | [], l, m => m
  | f :: fs, l, m => fus_z f l (usAll_z fs _ m)
section
variable (w : PySem.World) (cf cg : Nat → FM) {ns rs : List Int} (hd : DigOk cf rs)
theorem a28 {s2 s3 s4 s5 s6 s7 s8 s9 : Option O} {a c a' c' : Int} {f : D} {j : D} (e : cf 18 [St a rs c, .val (.int 3), .val (.int 0)] = .ok (.val f) [some (St a' rs c'), none, none]) : e28_1 w cf cg [some (.val (intsD ns)), some (St a rs c), s2, s3, s4, s5, s6, s7, s8, s9, some (.val j)] = .ok (.val f) [some (.val (intsD ns)), some (St a' rs c'), s2, s3, s4, s5, s6, s7, s8, s9, some (.val j)] := by
  simp [runB, mSeq, mIfS, mTst, mOp2, PL.m2, oV, oP, mCon, getP, setP, ownP, frzs, frz, ixX_t, ixX_l, at0, at1, at2, at3, ixN_30, ixN_32, cmpD, mPut, intD, addD, lenD, mOp1, intF, modC, divC, mSet, mRet, mTake, maskE, mSlot, mRd, mAnd, mOr, mNot, mTr, truD, mTup, mNil, mCons, mCallF, mCall, xNil, xIn, xIo, fillIn, backIn, mSkip, mDrop, mRetN, isi_i, isi_t, isi_b, lenOk, mLst, mApp, appO, mFor, mRng, aName, mIt, seqOf, eqX_int, eqX_bl, neD_int, e28_1, e]
include hd in
theorem t28_2 (e18 : ∀ a c, ∃ (f : Fm) (a' c' : Int), (f.ok 0 ∧ f.dp ≤ 3) ∧ cf 18 [St a rs c, .val (.int 3), .val (.int 0)] = .ok (.val f.d) [some (St a' rs c'), none, none]) (a c : Int) :
    ∃ (fs : List Fm) (a' c' : Int), ((∀ f ∈ fs, f.ok 0 ∧ f.dp ≤ 3) ∧ fs.length < 10) ∧ mSet 2 (mLc [10] (mRng (oV (mOp2 addD (oV (mCon (.int 1))) (oV (mCall (cf 15) [some 1, none] (xIo 1 (xIn (mCon (.int 3)) xNil))))))) (aName 10) mYes (e28_1 w cf cg)) (E28 ns (some (St a rs c)) none none none none none none none none) = .nx (E28 ns (some (St a' rs c')) (some (.lst (fs.map fun f => .val f.d))) none none none none none none none) := by
  obtain ⟨d, a1, c1, i0, i1, e⟩ := hd a c 3 (by decide) (by decide)
  have h1 : mRng (oV (mOp2 addD (oV (mCon (.int 1))) (oV (mCall (cf 15) [some 1, none] (xIo 1 (xIn (mCon (.int 3)) xNil)))))) (E28 ns (some (St a rs c)) none none none none none none none none) = .ok (rngD (1 + d.toNat)) (E28 ns (some (St a1 rs c1)) none none none none none none none none) := by
    refine rng_ok (by omega) ?_
    have hz : ((1 + d.toNat : Nat) : Int) = 1 + d := by omega
    rw [hz]
    simp [runB, mSeq, mIfS, mTst, mOp2, PL.m2, oV, oP, mCon, getP, setP, ownP, frzs, frz, ixX_t, ixX_l, at0, at1, at2, at3, ixN_30, ixN_32, cmpD, mPut, intD, addD, lenD, mOp1, intF, modC, divC, mSet, mRet, mTake, maskE, mSlot, mRd, mAnd, mOr, mNot, mTr, truD, mTup, mNil, mCons, mCallF, mCall, xNil, xIn, xIo, fillIn, backIn, mSkip, mDrop, mRetN, isi_i, isi_t, isi_b, lenOk, mLst, mApp, appO, mFor, mRng, aName, mIt, seqOf, eqX_int, eqX_bl, neD_int, E28, e]
  obtain ⟨os, r', h2, ⟨a2, c2, h3⟩, h4, h5⟩ := lc_inv (own := [10]) (a := aName 10) (m := e28_1 w cf cg) (fun r => ∃ a c, r = E28 ns (some (St a rs c)) none none none none none none none none) (fun o => ∃ f : Fm, (f.ok 0 ∧ f.dp ≤ 3) ∧ o = .val f.d) (ds := rngD (1 + d.toNat)) (r := E28 ns (some (St a1 rs c1)) none none none none none none none none) (fun j _ r ⟨a, c, hr⟩ => by
    subst hr
    obtain ⟨f, a', c', hf, ef⟩ := e18 a c
    exact ⟨_, _, _, rfl, a28 w cf cg ef, ⟨a', c', rfl⟩, f, hf, rfl⟩) ⟨a1, c1, rfl⟩
  obtain ⟨fs, hfs, rfl⟩ := fms_of h5
  rw [rng_len, List.length_map] at h4
  refine ⟨fs, a2, c2, ⟨hfs, by omega⟩, ?_⟩
  have h6 : lenOk ((fs.map fun f => O.val f.d).length + 1) = true := lenOk_lt (by rw [List.length_map]; omega)
  have h7 : wipeE (E28 ns (some (St a1 rs c1)) none none none none none none none none) [10] = E28 ns (some (St a1 rs c1)) none none none none none none none none := rfl
  unfold mSet mLc
  rw [h1]
  dsimp only
  rw [h7, h2]
  dsimp only
  rw [if_pos h6, h3]
  rfl
theorem b28 {s1 s2 : Option O} {f : Fm} {l : List Us} (e : cf 22 [.val f.d, usO l] = .ok (.val .non) [none, some (usO (f.us l))]) : b28_0 w cf cg (E28 ns s1 s2 (some (usO l)) (some (.val f.d)) none none none none none) = .nx (E28 ns s1 s2 (some (usO (f.us l))) (some (.val f.d)) none none none none none) := by
  generalize usO l = o1 at *
  generalize usO (f.us l) = o2 at *
  simp [runB, mSeq, mIfS, mTst, mOp2, PL.m2, oV, oP, mCon, getP, setP, ownP, frzs, frz, ixX_t, ixX_l, at0, at1, at2, at3, ixN_30, ixN_32, cmpD, mPut, intD, addD, lenD, mOp1, intF, modC, divC, mSet, mRet, mTake, maskE, mSlot, mRd, mAnd, mOr, mNot, mTr, truD, mTup, mNil, mCons, mCallF, mCall, xNil, xIn, xIo, fillIn, backIn, mSkip, mDrop, mRetN, isi_i, isi_t, isi_b, lenOk, mLst, mApp, appO, mFor, mRng, aName, mIt, seqOf, eqX_int, eqX_bl, neD_int, E28, b28_0, e]
theorem l28 {s1 s2 : Option O} : ∀ (fs : List Fm) (l : List Us), l.Nodup → (∀ f ∈ fs, f.ok 0 ∧ f.dp ≤ 3) → (∀ (f : Fm) (l : List Us), f.ok 0 → f.dp ≤ 3 → l.Nodup → cf 22 [.val f.d, usO l] = .ok (.val .non) [none, some (usO (f.us l))]) → ∀ x4, ∃ y4, loopF (aName 4) (b28_0 w cf cg) (fs.map Fm.d) (E28 ns s1 s2 (some (usO l)) x4 none none none none none) = .nx (E28 ns s1 s2 (some (usO (usAll fs l))) y4 none none none none none)
  | [], l, nd, ok, h, x4 => ⟨x4, rfl⟩
  | f :: fs, l, nd, ok, h, x4 => by
    obtain ⟨o, d⟩ := ok f (List.mem_cons_self ..)
    have hy := b28 w cf cg (ns := ns) (s1 := s1) (s2 := s2) (h f l o d nd)
    obtain ⟨y4, ih⟩ := l28 fs (f.us l) (fus_nd nd) (fun f m => ok f (List.mem_cons_of_mem _ m)) h (some (.val f.d))
    refine ⟨y4, ?_⟩
    rw [List.map_cons, loop_cons (r1 := E28 ns s1 s2 (some (usO l)) (some (.val f.d)) none none none none none) rfl, hy]
    exact ih
theorem t28_4 {s1 : Option O} {fs : List Fm} (ok : ∀ f ∈ fs, f.ok 0 ∧ f.dp ≤ 3) (e22 : ∀ (f : Fm) (l : List Us), f.ok 0 → f.dp ≤ 3 → l.Nodup → cf 22 [.val f.d, usO l] = .ok (.val .non) [none, some (usO (f.us l))]) :
    ∃ y4, mFor (mIt (mSlot 2)) (aName 4) (b28_0 w cf cg) (E28 ns s1 (some (.lst (fs.map fun f => .val f.d))) (some (.lst [])) none none none none none none) = .nx (E28 ns s1 (some (.val (.lst (fs.map Fm.d)))) (some (usO (usAll fs []))) y4 none none none none none) := by
  obtain ⟨y4, h⟩ := l28 w cf cg (ns := ns) (s1 := s1) (s2 := some (.val (.lst (fs.map Fm.d)))) fs [] List.nodup_nil ok e22 none
  refine ⟨y4, ?_⟩
  have h1 : mIt (mSlot 2) (E28 ns s1 (some (.lst (fs.map fun f => .val f.d))) (some (.lst [])) none none none none none none) = .ok (fs.map Fm.d) (E28 ns s1 (some (.val (.lst (fs.map Fm.d)))) (some (.lst [])) none none none none none none) := by
    have h2 : mSlot 2 (E28 ns s1 (some (.lst (fs.map fun f => .val f.d))) (some (.lst [])) none none none none none none) = .ok (.val (.lst (fs.map Fm.d))) (E28 ns s1 (some (.val (.lst (fs.map Fm.d)))) (some (.lst [])) none none none none none none) := by
      show R.ok (O.val (frz (.lst (fs.map fun f => .val f.d)))) (E28 ns s1 (some (.val (frz (.lst (fs.map fun f => .val f.d))))) (some (.lst [])) none none none none none none) = _
      rw [frz, frzs_fms]
    unfold mIt
    rw [h2]
    rfl
  rw [for_ok h1]
  exact h
include hd in
theorem t28_5 {s2 s3 s4 : Option O} (a c : Int) : ∃ (d a' c' : Int), (1 ≤ d ∧ d ≤ 3) ∧ mSet 5 (mOp2 addD (oV (mCon (.int 1))) (oV (mCall (cf 15) [some 1, none] (xIo 1 (xIn (mCon (.int 3)) xNil))))) (E28 ns (some (St a rs c)) s2 s3 s4 none none none none none) = .nx (E28 ns (some (St a' rs c')) s2 s3 s4 (some (.val (.int d))) none none none none) := by
  obtain ⟨d, a1, c1, i0, i1, e⟩ := hd a c 3 (by decide) (by decide)
  refine ⟨1 + d, a1, c1, by omega, ?_⟩
  simp [runB, mSeq, mIfS, mTst, mOp2, PL.m2, oV, oP, mCon, getP, setP, ownP, frzs, frz, ixX_t, ixX_l, at0, at1, at2, at3, ixN_30, ixN_32, cmpD, mPut, intD, addD, lenD, mOp1, intF, modC, divC, mSet, mRet, mTake, maskE, mSlot, mRd, mAnd, mOr, mNot, mTr, truD, mTup, mNil, mCons, mCallF, mCall, xNil, xIn, xIo, fillIn, backIn, mSkip, mDrop, mRetN, isi_i, isi_t, isi_b, lenOk, mLst, mApp, appO, mFor, mRng, aName, mIt, seqOf, eqX_int, eqX_bl, neD_int, E28, e]
include hd in
theorem t28_6 {s2 s3 s4 : Option O} (a c : Int) {d : Int} (h1 : 1 ≤ d) (h2 : d ≤ 3) : ∃ (n : Nat) (a' c' : Int), n ≤ 3 ∧ mIfS (mTst (mOp2 eqX (oV (mCall (cf 15) [some 1, none] (xIo 1 (xIn (mCon (.int 12)) xNil)))) (oV (mCon (.int 0))))) (mSet 5 (mCon (.int 0))) mSkip (E28 ns (some (St a rs c)) s2 s3 s4 (some (.val (.int d))) none none none none) = .nx (E28 ns (some (St a' rs c')) s2 s3 s4 (some (.val (.int n))) none none none none) := by
  obtain ⟨z, a1, c1, i0, i1, e⟩ := hd a c 12 (by decide) (by decide)
  by_cases hz : z = 0
  · subst hz
    refine ⟨0, a1, c1, by omega, ?_⟩
    simp [runB, mSeq, mIfS, mTst, mOp2, PL.m2, oV, oP, mCon, getP, setP, ownP, frzs, frz, ixX_t, ixX_l, at0, at1, at2, at3, ixN_30, ixN_32, cmpD, mPut, intD, addD, lenD, mOp1, intF, modC, divC, mSet, mRet, mTake, maskE, mSlot, mRd, mAnd, mOr, mNot, mTr, truD, mTup, mNil, mCons, mCallF, mCall, xNil, xIn, xIo, fillIn, backIn, mSkip, mDrop, mRetN, isi_i, isi_t, isi_b, lenOk, mLst, mApp, appO, mFor, mRng, aName, mIt, seqOf, eqX_int, eqX_bl, neD_int, E28, e]
  · refine ⟨d.toNat, a1, c1, by omega, ?_⟩
    have : ((d.toNat : Nat) : Int) = d := by omega
    rw [this]
    simp [runB, mSeq, mIfS, mTst, mOp2, PL.m2, oV, oP, mCon, getP, setP, ownP, frzs, frz, ixX_t, ixX_l, at0, at1, at2, at3, ixN_30, ixN_32, cmpD, mPut, intD, addD, lenD, mOp1, intF, modC, divC, mSet, mRet, mTake, maskE, mSlot, mRd, mAnd, mOr, mNot, mTr, truD, mTup, mNil, mCons, mCallF, mCall, xNil, xIn, xIo, fillIn, backIn, mSkip, mDrop, mRetN, isi_i, isi_t, isi_b, lenOk, mLst, mApp, appO, mFor, mRng, aName, mIt, seqOf, eqX_int, eqX_bl, neD_int, E28, e, hz]
theorem t28_7 {s2 s4 : Option O} {l : List Us} {n : Nat} {a c a' c' : Int} {t : Tb} (e : cf 25 [St a rs c, .val (usD l), .val (.int n)] = .ok (.dct t.ks t.vs) [some (St a' rs c'), none, none]) :
    mSet 6 (mCall (cf 25) [some 1, none, none] (xIo 1 (xIn (mSlot 3) (xIn (mSlot 5) xNil)))) (E28 ns (some (St a rs c)) s2 (some (usO l)) s4 (some (.val (.int n))) none none none none) = .nx (E28 ns (some (St a' rs c')) s2 (some (.val (usD l))) s4 (some (.val (.int n))) (some (.dct t.ks t.vs)) none none none) := by
  have hf : frzs (l.map (O.val ∘ Us.d)) = l.map Us.d := frzs_us2 l
  unfold usD at *
  generalize t.ks = ks at *
  generalize t.vs = vs at *
  unfold usO
  simp [runB, mSeq, mIfS, mTst, mOp2, PL.m2, oV, oP, mCon, getP, setP, ownP, frzs, frz, ixX_t, ixX_l, at0, at1, at2, at3, ixN_30, ixN_32, cmpD, mPut, intD, addD, lenD, mOp1, intF, modC, divC, mSet, mRet, mTake, maskE, mSlot, mRd, mAnd, mOr, mNot, mTr, truD, mTup, mNil, mCons, mCallF, mCall, xNil, xIn, xIo, fillIn, backIn, mSkip, mDrop, mRetN, isi_i, isi_t, isi_b, lenOk, mLst, mApp, appO, mFor, mRng, aName, mIt, seqOf, eqX_int, eqX_bl, neD_int, E28, hf, e]
include hd in
theorem t28_8 {s2 s3 s4 s5 : Option O} (a c : Int) {t : Tb} (ht : t.ok) (hz : Us.z ∉ t.keys) : ∃ (t' : Tb) (a' c' : Int), t'.ok ∧ mIfS (mTst (mOp2 eqX (oV (mCall (cf 15) [some 1, none] (xIo 1 (xIn (mCon (.int 4)) xNil)))) (oV (mCon (.int 0))))) (mPut FID 6 [] (oV (mTup (mCons (mTup (mCons (mCon (.int 1)) (mCons (mCon (.int 9)) (mCons (mCon (.int 0)) mNil)))) (mCons (mCon (.int 0)) mNil)))) (mTup (mCons (mCall (cf 15) [some 1, none] (xIo 1 (xIn (mCon (.int 3)) xNil))) mNil))) mSkip (E28 ns (some (St a rs c)) s2 s3 s4 s5 (some (.dct t.ks t.vs)) none none none) = .nx (E28 ns (some (St a' rs c')) s2 s3 s4 s5 (some (.dct t'.ks t'.vs)) none none none) := by
  obtain ⟨z, a1, c1, i0, i1, e⟩ := hd a c 4 (by decide) (by decide)
  by_cases h0 : z = 0
  · subst h0
    obtain ⟨y, a2, c2, j0, j1, e2⟩ := hd a1 c1 3 (by decide) (by decide)
    have hp := putO_tb (u := .z) (t := t) (l := [y]) (o := .val (tupI [y])) (tb_none hz) (by have := tb_len ht; omega) rfl
    have hp2 : putO (.dct t.ks t.vs) (.tup [.tup [.int 1, .int 9, .int 0], .int 0]) (.val (.tup [.int y])) = _ := hp
    refine ⟨t ++ [(.z, [y])], a2, c2, tb_add ht hz (by simp), ?_⟩
    generalize Tb.ks (t ++ [(.z, [y])]) = k2 at *
    generalize Tb.vs (t ++ [(.z, [y])]) = v2 at *
    generalize t.ks = ks at *
    generalize t.vs = vs at *
    simp [runB, mSeq, mIfS, mTst, mOp2, PL.m2, oV, oP, mCon, getP, setP, ownP, frzs, frz, ixX_t, ixX_l, at0, at1, at2, at3, ixN_30, ixN_32, cmpD, mPut, intD, addD, lenD, mOp1, intF, modC, divC, mSet, mRet, mTake, maskE, mSlot, mRd, mAnd, mOr, mNot, mTr, truD, mTup, mNil, mCons, mCallF, mCall, xNil, xIn, xIo, fillIn, backIn, mSkip, mDrop, mRetN, isi_i, isi_t, isi_b, lenOk, mLst, mApp, appO, mFor, mRng, aName, mIt, seqOf, eqX_int, eqX_bl, neD_int, E28, e, e2, hp2]
  · refine ⟨t, a1, c1, ht, ?_⟩
    generalize t.ks = ks at *
    generalize t.vs = vs at *
    simp [runB, mSeq, mIfS, mTst, mOp2, PL.m2, oV, oP, mCon, getP, setP, ownP, frzs, frz, ixX_t, ixX_l, at0, at1, at2, at3, ixN_30, ixN_32, cmpD, mPut, intD, addD, lenD, mOp1, intF, modC, divC, mSet, mRet, mTake, maskE, mSlot, mRd, mAnd, mOr, mNot, mTr, truD, mTup, mNil, mCons, mCallF, mCall, xNil, xIn, xIo, fillIn, backIn, mSkip, mDrop, mRetN, isi_i, isi_t, isi_b, lenOk, mLst, mApp, appO, mFor, mRng, aName, mIt, seqOf, eqX_int, eqX_bl, neD_int, E28, e, h0]
theorem t28_9 {s1 s2 s3 s4 s5 : Option O} {t : Tb} (ht : t.ok) : mSet 7 (mOp1 (dctF w) (oP FID 6 [])) (E28 ns s1 s2 s3 s4 s5 (some (.dct t.ks t.vs)) none none none) = .nx (E28 ns s1 s2 s3 s4 s5 (some (.dct t.ks t.vs)) (some (.dct t.ks t.vs)) none none) := by
  have e := dctF_tb w ht
  generalize t.ks = ks at *
  generalize t.vs = vs at *
  simp [runB, mSeq, mIfS, mTst, mOp2, PL.m2, oV, oP, mCon, getP, setP, ownP, frzs, frz, ixX_t, ixX_l, at0, at1, at2, at3, ixN_30, ixN_32, cmpD, mPut, intD, addD, lenD, mOp1, intF, modC, divC, mSet, mRet, mTake, maskE, mSlot, mRd, mAnd, mOr, mNot, mTr, truD, mTup, mNil, mCons, mCallF, mCall, xNil, xIn, xIo, fillIn, backIn, mSkip, mDrop, mRetN, isi_i, isi_t, isi_b, lenOk, mLst, mApp, appO, mFor, mRng, aName, mIt, seqOf, eqX_int, eqX_bl, neD_int, E28, e]
theorem t28_10 {s1 s3 s4 s7 : Option O} {t : Tb} {fs : List Fm} {n : Nat} {b : Bool} (e8 : cg 8 [.ins 0 [], .val (.int n), .val (.dct t.ks t.vs)] = .ok (.val .non) [some (.ins 0 [.val (.int n), .dct t.ks t.vs]), none, none]) (e13 : cf 13 [.val (wld n t), .val (.lst (fs.map Fm.d))] = .ok (.val (.bl b)) [none, none]) :
    mSet 8 (mCallF (cf 13) (mCons (mMake (cg 8) 0 (mCons (mSlot 5) (mCons (mSlot 6) mNil))) (mCons (mOp1 lstF (oP FID 2 [])) mNil))) (E28 ns s1 (some (.val (.lst (fs.map Fm.d)))) s3 s4 (some (.val (.int n))) (some (.dct t.ks t.vs)) s7 none none) = .nx (E28 ns s1 (some (.val (.lst (fs.map Fm.d)))) s3 s4 (some (.val (.int n))) (some (.val (.dct t.ks t.vs))) s7 (some (.val (.bl b))) none) := by
  have hf : frzs ((fs.map Fm.d).map O.val) = fs.map Fm.d := frzs_vals _
  unfold wld at e13
  generalize t.ks = ks at *
  generalize t.vs = vs at *
  generalize fs.map Fm.d = fd at *
  simp [runB, mSeq, mIfS, mTst, mOp2, PL.m2, oV, oP, mCon, getP, setP, ownP, frzs, frz, ixX_t, ixX_l, at0, at1, at2, at3, ixN_30, ixN_32, cmpD, mPut, intD, addD, lenD, mOp1, intF, modC, divC, mSet, mRet, mTake, maskE, mSlot, mRd, mAnd, mOr, mNot, mTr, truD, mTup, mNil, mCons, mCallF, mCall, xNil, xIn, xIo, fillIn, backIn, mSkip, mDrop, mRetN, isi_i, isi_t, isi_b, lenOk, mLst, mApp, appO, mFor, mRng, aName, mIt, seqOf, eqX_int, eqX_bl, neD_int, E28, mMake, e8, lstF, hf, e13]
theorem t28_11 {s1 s3 s4 s6 s8 : Option O} {t : Tb} {fs : List Fm} {l : List Us} {n : Nat} {b : Bool} (e27 : cf 27 [.val (.lst (fs.map Fm.d)), .val (usD l), .val (.int n), .val (.dct t.ks t.vs)] = .ok (.val (.bl b)) [none, none, none, none]) :
    mSet 9 (mCallF (cf 27) (mCons (mSlot 2) (mCons (mSlot 3) (mCons (mSlot 5) (mCons (mSlot 7) mNil))))) (E28 ns s1 (some (.val (.lst (fs.map Fm.d)))) (some (.val (usD l))) s4 (some (.val (.int n))) s6 (some (.dct t.ks t.vs)) s8 none) = .nx (E28 ns s1 (some (.val (.lst (fs.map Fm.d)))) (some (.val (usD l))) s4 (some (.val (.int n))) s6 (some (.val (.dct t.ks t.vs))) s8 (some (.val (.bl b)))) := by
  generalize t.ks = ks at *
  generalize t.vs = vs at *
  generalize D.lst (fs.map Fm.d) = fd at *
  generalize usD l = ud at *
  simp [runB, mSeq, mIfS, mTst, mOp2, PL.m2, oV, oP, mCon, getP, setP, ownP, frzs, frz, ixX_t, ixX_l, at0, at1, at2, at3, ixN_30, ixN_32, cmpD, mPut, intD, addD, lenD, mOp1, intF, modC, divC, mSet, mRet, mTake, maskE, mSlot, mRd, mAnd, mOr, mNot, mTr, truD, mTup, mNil, mCons, mCallF, mCall, xNil, xIn, xIo, fillIn, backIn, mSkip, mDrop, mRetN, isi_i, isi_t, isi_b, lenOk, mLst, mApp, appO, mFor, mRng, aName, mIt, seqOf, eqX_int, eqX_bl, neD_int, E28, e27]
theorem t28_12 {s1 s2 s3 s4 s5 : Option O} {td : D} {b : Bool} (he : eqX td td = some (.val (.bl true))) :
    isRet (.val (.bl true)) (mRet (mAndV (mOp1 (isiD "bool") (oV (mSlot 8))) (mAndV (mOp2 eqX (oP FID 8 []) (oP FID 9 [])) (mOp2 eqX (oP FID 6 []) (oP FID 7 [])))) (E28 ns s1 s2 s3 s4 s5 (some (.val td)) (some (.val td)) (some (.val (.bl b))) (some (.val (.bl b))))) := by
  simp [runB, mSeq, mIfS, mTst, mOp2, PL.m2, oV, oP, mCon, getP, setP, ownP, frzs, frz, ixX_t, ixX_l, at0, at1, at2, at3, ixN_30, ixN_32, cmpD, mPut, intD, addD, lenD, mOp1, intF, modC, divC, mSet, mRet, mTake, maskE, mSlot, mRd, mAnd, mOr, mNot, mTr, truD, mTup, mNil, mCons, mCallF, mCall, xNil, xIn, xIo, fillIn, backIn, mSkip, mDrop, mRetN, isi_i, isi_t, isi_b, lenOk, mLst, mApp, appO, mFor, mRng, aName, mIt, seqOf, eqX_int, eqX_bl, neD_int, E28, mAndV, he, isRet]
end
theorem ints_ok : ∀ l : List Int, seqDs (l.map .int) = true ∧ PySem.PyData.canLayAll0 (toPs (l.map .int)) = true ∧ PySem.PyData.depthAll (toPs (l.map .int)) = 0
  | [] => ⟨rfl, rfl, rfl⟩
  | i :: l => by
    obtain ⟨h1, h2, h3⟩ := ints_ok l
    rw [List.map_cons, toPs, seqDs, PySem.PyData.canLayAll0, PySem.PyData.depthAll, h1, h2, h3]
    exact ⟨rfl, rfl, rfl⟩
theorem tupI_ok (l : List Int) : okD (tupI l) = true := by
  obtain ⟨h1, h2, h3⟩ := ints_ok l
  unfold tupI okD PySem.SeqAt.shaped
  rw [seqD, h1, toP, PySem.PyData.canLay0, h2, PySem.PyData.depth, h3]
  rfl
theorem ints_eq : ∀ l : List Int, PySem.PyData.eqvAll (toPs (l.map .int)) (toPs (l.map .int)) = true
  | [] => rfl
  | i :: l => by
    rw [List.map_cons, toPs, PySem.PyData.eqvAll, ints_eq l, toP]
    simp [PySem.PyData.eqv]
theorem tupI_eq (l : List Int) : PySem.PyData.eqv (toP (tupI l)) (toP (tupI l)) = true := by
  unfold tupI
  rw [toP, PySem.PyData.eqv]
  exact ints_eq l
theorem eq_tb {t : Tb} : eqX (.dct t.ks t.vs) (.dct t.ks t.vs) = some (.val (.bl true)) := by
  have h1 : eqX (.dct t.ks t.vs) (.dct t.ks t.vs) = eqDct (.dct t.ks t.vs) (.dct t.ks t.vs) := rfl
  have h2 : t.vs.all okD = true := by
    rw [List.all_eq_true]
    intro d hd
    obtain ⟨e, _, rfl⟩ := List.mem_map.mp hd
    exact tupI_ok e.2
  rw [h1]
  unfold eqDct
  dsimp only
  rw [tb_hom, h2]
  simp only [decide_true, Bool.and_self, if_true]
  congr 3
  rw [List.all_eq_true]
  intro i hi
  have hi := List.mem_range.mp hi
  have h5 : t.ks.length = t.vs.length := by unfold Tb.ks Tb.vs; simp
  have h6 : i < t.vs.length := by omega
  have h7 : t.vs.getD i .non ∈ t.vs := by
    have : t.vs.getD i .non = t.vs[i] := by simp [List.getD, h6]
    rw [this]
    exact List.getElem_mem h6
  obtain ⟨e, _, he⟩ := List.mem_map.mp h7
  rw [← he]
  exact tupI_eq e.2
theorem m28_eq (w : PySem.World) (cf cg : Nat → FM) {ns rs : List Int} (hd : DigOk cf rs) {a : Int} (e16 : cf 16 [.val (intsD ns)] = .ok (St a rs 0) [none])
    (e18 : ∀ a c, ∃ (f : Fm) (a' c' : Int), (f.ok 0 ∧ f.dp ≤ 3) ∧ cf 18 [St a rs c, .val (.int 3), .val (.int 0)] = .ok (.val f.d) [some (St a' rs c'), none, none])
    (e22 : ∀ (f : Fm) (l : List Us), f.ok 0 → f.dp ≤ 3 → l.Nodup → cf 22 [.val f.d, usO l] = .ok (.val .non) [none, some (usO (f.us l))])
    (e25 : ∀ (n : Nat) (a c : Int) (l : List Us), n ≤ 3 → l.Nodup → ∃ (t : Tb) (a' c' : Int), cf 25 [St a rs c, .val (usD l), .val (.int n)] = .ok (.dct t.ks t.vs) [some (St a' rs c'), none, none] ∧ t.ok ∧ ∀ u ∈ t.keys, u ∈ l)
    (e8 : ∀ (n : Nat) (t : Tb), t.ok → cg 8 [.ins 0 [], .val (.int n), .val (.dct t.ks t.vs)] = .ok (.val .non) [some (.ins 0 [.val (.int n), .dct t.ks t.vs]), none, none])
    (e13 : ∀ (n : Nat) (t : Tb) (fs : List Fm), n ≤ 3 → t.ok → fs.length < 10 → (∀ f ∈ fs, f.ok 0 ∧ f.dp ≤ 3) → cf 13 [.val (wld n t), .val (.lst (fs.map Fm.d))] = .ok (.val (.bl (accB n t fs))) [none, none])
    (e27 : ∀ (n : Nat) (t : Tb) (fs : List Fm), n ≤ 3 → t.ok → (∀ f ∈ fs, f.ok 0 ∧ f.dp ≤ 3) → cf 27 [.val (.lst (fs.map Fm.d)), .val (usD (usAll fs [])), .val (.int n), .val (.dct t.ks t.vs)] = .ok (.val (.bl (accB n t fs))) [none, none, none, none]) :
    isRet (.val (.bl true)) (m28 w cf cg [some (.val (intsD ns)), none, none, none, none, none, none, none, none, none, none]) := by
  have h1 : mSet 1 (mCallF (cf 16) (mCons (mSlot 0) mNil)) [some (.val (intsD ns)), none, none, none, none, none, none, none, none, none, none] = .nx (E28 ns (some (St a rs 0)) none none none none none none none none) := by
    unfold E28
    generalize intsD ns = nd at *
    simp [runB, mSeq, mIfS, mTst, mOp2, PL.m2, oV, oP, mCon, getP, setP, ownP, frzs, frz, ixX_t, ixX_l, at0, at1, at2, at3, ixN_30, ixN_32, cmpD, mPut, intD, addD, lenD, mOp1, intF, modC, divC, mSet, mRet, mTake, maskE, mSlot, mRd, mAnd, mOr, mNot, mTr, truD, mTup, mNil, mCons, mCallF, mCall, xNil, xIn, xIo, fillIn, backIn, mSkip, mDrop, mRetN, isi_i, isi_t, isi_b, lenOk, mLst, mApp, appO, mFor, mRng, aName, mIt, seqOf, eqX_int, eqX_bl, neD_int, e16]
  obtain ⟨fs, a2, c2, ⟨ok, hl⟩, h2⟩ := t28_2 w cf cg hd (ns := ns) e18 a 0
  have h3 : mSet 3 (mLst mNil) (E28 ns (some (St a2 rs c2)) (some (.lst (fs.map fun f => .val f.d))) none none none none none none none) = .nx (E28 ns (some (St a2 rs c2)) (some (.lst (fs.map fun f => .val f.d))) (some (.lst [])) none none none none none none) := rfl
  obtain ⟨y4, h4⟩ := t28_4 w cf cg (ns := ns) (s1 := some (St a2 rs c2)) ok e22
  obtain ⟨d, a5, c5, ⟨d1, d2⟩, h5⟩ := t28_5 cf hd (ns := ns) (s2 := some (.val (.lst (fs.map Fm.d)))) (s3 := some (usO (usAll fs []))) (s4 := y4) a2 c2
  obtain ⟨n, a6, c6, hn, h6⟩ := t28_6 cf hd (ns := ns) (s2 := some (.val (.lst (fs.map Fm.d)))) (s3 := some (usO (usAll fs []))) (s4 := y4) a5 c5 d1 d2
  have und : (usAll fs []).Nodup := usAll_nd List.nodup_nil
  obtain ⟨t, a7, c7, e7, ht, hk⟩ := e25 n a6 c6 (usAll fs []) hn und
  have h7 := t28_7 cf (ns := ns) (s2 := some (.val (.lst (fs.map Fm.d)))) (s4 := y4) e7
  have hz : Us.z ∉ t.keys := fun m => nomatch usAll_z fs [] (hk _ m)
  obtain ⟨t', a8, c8, ht', h8⟩ := t28_8 cf hd (ns := ns) (s2 := some (.val (.lst (fs.map Fm.d)))) (s3 := some (.val (usD (usAll fs [])))) (s4 := y4) (s5 := some (.val (.int n))) a7 c7 ht hz
  have h9 := t28_9 w (ns := ns) (s1 := some (St a8 rs c8)) (s2 := some (.val (.lst (fs.map Fm.d)))) (s3 := some (.val (usD (usAll fs [])))) (s4 := y4) (s5 := some (.val (.int n))) ht'
  have h10 := t28_10 cf cg (ns := ns) (s1 := some (St a8 rs c8)) (s3 := some (.val (usD (usAll fs [])))) (s4 := y4) (s7 := some (.dct t'.ks t'.vs)) (e8 n t' ht') (e13 n t' fs hn ht' hl ok)
  have h11 := t28_11 cf (ns := ns) (s1 := some (St a8 rs c8)) (s3 := some (.val (usD (usAll fs [])))) (s4 := y4) (s6 := some (.val (.dct t'.ks t'.vs))) (s8 := some (.val (.bl (accB n t' fs)))) (e27 n t' fs hn ht' ok)
  unfold m28
  rw [mSeq_nx h1, mSeq_nx h2, mSeq_nx h3, mSeq_nx h4, mSeq_nx h5, mSeq_nx h6, mSeq_nx h7, mSeq_nx h8, mSeq_nx h9, mSeq_nx h10, mSeq_nx h11]
  exact t28_12 eq_tb
theorem plain (w : PySem.World) : ∀ ns : List Int, ns.length ≤ 63 → (∀ z ∈ ns, PySem.Builtin.Int.intBits z ≤ 1048576) → ∃ outs, callI (T w) 61 28 [.val (.lst (ns.map .int))] = .ok (.val (.bl true)) outs := by
  intro ns hl hb
  obtain ⟨a, rs, hr, e16⟩ := tstate w 58 hl hb
  have hr0 : 0 < rs.length := by omega
  refine ⟨[none], ?_⟩
  rw [callK]
  refine run_ret _ rfl rfl ?_
  refine m28_eq w (callI (T w) 60) (callI (T w) (60 - 1)) (digOk w 59 hr0) e16 (fun a c => ?_) (fun f l o d nd => luf w f 0 60 l o (by omega) nd) (fun n a c l hn nd => ltab w 58 hr0 hn a c nd) (fun n t ht => winit w 58 ht) (fun n t fs hn ht hl ok => pacc w 48 hn ht (by omega) ok) (fun n t fs hn ht ok => lacc w 48 hn ht ok)
  obtain ⟨f, a', c', o, d, e⟩ := ttree w hr0 3 53 a c 0 (by decide)
  exact ⟨f, a', c', ⟨o, d⟩, e⟩
end K63
set_option Elab.async false
set_option linter.all false
set_option maxRecDepth 100000
set_option maxHeartbeats 4000000
namespace K63
open PySem PySem.Spec PyProof.Rows L2 PL
structure Fs (G : GC) (mg : Str → Option Value) : Prop where
  f0 : FnF G.K mg "is_variable" "is_variable" s0 ["term"]
  f1 : FnF G.K mg "value" "value" s1 ["term", "world", "values"]
  f2 : FnF G.K mg "joined_holds" "joined_holds" s2 ["tag", "left", "right"]
  f3 : FnF G.K mg "holds_with" "holds_with" s3 ["formula", "world", "values"]
  f4 : FnF G.K mg "holds" "holds" s4 ["formula", "world"]
  f5 : FnF G.K mg "collect_uses" "collect_uses" s5 ["term", "found"]
  f6 : FnF G.K mg "collect_formula_uses" "collect_formula_uses" s6 ["formula", "found"]
  f7 : FnF G.K mg "uses_of" "uses_of" s7 ["formulas"]
  n8 : InF G.K mg (G.ca 0) "World" "World.__init__" s8 ["self", "size", "tables"]
  f9 : FnF G.K mg "is_value_of_individual" "is_value_of_individual" s9 ["symbol"]
  f10 : FnF G.K mg "rows" "rows" s10 ["size", "arity"]
  f11 : FnF G.K mg "limit" "limit" s11 ["symbol", "size"]
  f12 : FnF G.K mg "is_table" "is_table" s12 ["symbol", "arity", "values", "size"]
  f13 : FnF G.K mg "accepts_world" "accepts_world" s13 ["world", "formulas"]
  f14 : FnF G.K mg "_law_rows" "_law_rows" s14 ["_law_script", "_law_count_here"]
  f15 : FnF G.K mg "_law_digit" "_law_digit" s15 ["_law_state_here", "_law_many"]
  f16 : FnF G.K mg "_law_state" "_law_state" s16 ["_law_script"]
  f17 : FnF G.K mg "_law_tree_term" "_law_tree_term" s17 ["_law_state_here", "_law_depth", "_law_bound"]
  f18 : FnF G.K mg "_law_tree" "_law_tree" s18 ["_law_state_here", "_law_depth", "_law_bound"]
  f19 : FnF G.K mg "_law_value" "_law_value" s19 ["_law_term", "_law_row", "_law_size", "_law_tables_here"]
  f20 : FnF G.K mg "_law_true" "_law_true" s20 ["_law_tree_here", "_law_row", "_law_size", "_law_tables_here"]
  f21 : FnF G.K mg "_law_uses_of_term" "_law_uses_of_term" s21 ["_law_term", "_law_found"]
  f22 : FnF G.K mg "_law_uses_of" "_law_uses_of" s22 ["_law_tree_here", "_law_found"]
  f23 : FnF G.K mg "_law_count" "_law_count" s23 ["_law_size", "_law_arity"]
  f24 : FnF G.K mg "_law_limit" "_law_limit" s24 ["_law_symbol", "_law_size"]
  f25 : FnF G.K mg "_law_tables" "_law_tables" s25 ["_law_state_here", "_law_uses", "_law_size"]
  f26 : FnF G.K mg "_law_fits" "_law_fits" s26 ["_law_tables_here", "_law_size"]
  f27 : FnF G.K mg "_law_accepted" "_law_accepted" s27 ["_law_trees", "_law_uses", "_law_size", "_law_tables_here"]
  f28 : FnF G.K mg "law" "law" s28 ["_law_script"]
section
variable {P : Program} {w : World} {K : PySem.W.Frag} {ca : Nat → Addr} {mg : Str → Option Value} {base : Heap} {k : Nat}
theorem cs_zero (F : Fs (GG P w K ca) mg) : Cs (GG P w K ca) mg base 0 :=
  ⟨call_zero F.f0 rfl,
   call_zero F.f1 rfl,
   call_zero F.f2 rfl,
   call_zero F.f3 rfl,
   call_zero F.f4 rfl,
   call_zero F.f5 rfl,
   call_zero F.f6 rfl,
   call_zero F.f7 rfl,
   call_zero F.f9 rfl,
   call_zero F.f10 rfl,
   call_zero F.f11 rfl,
   call_zero F.f12 rfl,
   call_zero F.f13 rfl,
   call_zero F.f14 rfl,
   call_zero F.f15 rfl,
   call_zero F.f16 rfl,
   call_zero F.f17 rfl,
   call_zero F.f18 rfl,
   call_zero F.f19 rfl,
   call_zero F.f20 rfl,
   call_zero F.f21 rfl,
   call_zero F.f22 rfl,
   call_zero F.f23 rfl,
   call_zero F.f24 rfl,
   call_zero F.f25 rfl,
   call_zero F.f26 rfl,
   call_zero F.f27 rfl,
   call_zero F.f28 rfl,
   make_zero F.n8 rfl⟩
theorem ms_zero (F : Fs (GG P w K ca) mg) : Ms (GG P w K ca) mg base 0 :=
  ⟨make_zero F.n8 rfl⟩
theorem cs_succ (ok : ClsOk (GG P w K ca)) (len : ∀ c, ((GG P w K ca).lay c).length < 1000) (t : Tp (GG P w K ca) mg) (F : Fs (GG P w K ca) mg) (cs : Cs (GG P w K ca) mg base k) (ms : Ms (GG P w K ca) mg base k) : Cs (GG P w K ca) mg base (k + 1) :=
  ⟨call_succ F.f0 sc0 ⟨1, 1, [], m0 w⟩ rfl rfl rfl rfl fun fa cdv A outer s H E r => d0 (cs_of r sc0.nd ok len) t cs ms,
   call_succ F.f1 sc1 ⟨5, 3, [], m1 w⟩ rfl rfl rfl rfl fun fa cdv A outer s H E r => d1 (cs_of r sc1.nd ok len) t cs ms,
   call_succ F.f2 sc2 ⟨3, 3, [], m2 w⟩ rfl rfl rfl rfl fun fa cdv A outer s H E r => d2 (cs_of r sc2.nd ok len) t cs ms,
   call_succ F.f3 sc3 ⟨8, 3, [], m3 w⟩ rfl rfl rfl rfl fun fa cdv A outer s H E r => d3 (cs_of r sc3.nd ok len) t cs ms,
   call_succ F.f4 sc4 ⟨2, 2, [], m4 w⟩ rfl rfl rfl rfl fun fa cdv A outer s H E r => d4 (cs_of r sc4.nd ok len) t cs ms,
   call_succ F.f5 sc5 ⟨4, 2, [1], m5 w⟩ rfl rfl rfl rfl fun fa cdv A outer s H E r => d5 (cs_of r sc5.nd ok len) t cs ms,
   call_succ F.f6 sc6 ⟨4, 2, [1], m6 w⟩ rfl rfl rfl rfl fun fa cdv A outer s H E r => d6 (cs_of r sc6.nd ok len) t cs ms,
   call_succ F.f7 sc7 ⟨3, 1, [], m7 w⟩ rfl rfl rfl rfl fun fa cdv A outer s H E r => d7 (cs_of r sc7.nd ok len) t cs ms,
   call_succ F.f9 sc9 ⟨1, 1, [], m9 w⟩ rfl rfl rfl rfl fun fa cdv A outer s H E r => d9 (cs_of r sc9.nd ok len) t cs ms,
   call_succ F.f10 sc10 ⟨4, 2, [], m10 w⟩ rfl rfl rfl rfl fun fa cdv A outer s H E r => d10 (cs_of r sc10.nd ok len) t cs ms,
   call_succ F.f11 sc11 ⟨2, 2, [], m11 w⟩ rfl rfl rfl rfl fun fa cdv A outer s H E r => d11 (cs_of r sc11.nd ok len) t cs ms,
   call_succ F.f12 sc12 ⟨5, 4, [], m12 w⟩ rfl rfl rfl rfl fun fa cdv A outer s H E r => d12 (cs_of r sc12.nd ok len) t cs ms,
   call_succ F.f13 sc13 ⟨8, 2, [], m13 w⟩ rfl rfl rfl rfl fun fa cdv A outer s H E r => d13 (cs_of r sc13.nd ok len) t cs ms,
   call_succ F.f14 sc14 ⟨5, 2, [], m14 w⟩ rfl rfl rfl rfl fun fa cdv A outer s H E r => d14 (cs_of r sc14.nd ok len) t cs ms,
   call_succ F.f15 sc15 ⟨3, 2, [0], m15 w⟩ rfl rfl rfl rfl fun fa cdv A outer s H E r => d15 (cs_of r sc15.nd ok len) t cs ms,
   call_succ F.f16 sc16 ⟨2, 1, [], m16 w⟩ rfl rfl rfl rfl fun fa cdv A outer s H E r => d16 (cs_of r sc16.nd ok len) t cs ms,
   call_succ F.f17 sc17 ⟨4, 3, [0], m17 w⟩ rfl rfl rfl rfl fun fa cdv A outer s H E r => d17 (cs_of r sc17.nd ok len) t cs ms,
   call_succ F.f18 sc18 ⟨6, 3, [0], m18 w⟩ rfl rfl rfl rfl fun fa cdv A outer s H E r => d18 (cs_of r sc18.nd ok len) t cs ms,
   call_succ F.f19 sc19 ⟨6, 4, [], m19 w⟩ rfl rfl rfl rfl fun fa cdv A outer s H E r => d19 (cs_of r sc19.nd ok len) t cs ms,
   call_succ F.f20 sc20 ⟨9, 4, [], m20 w⟩ rfl rfl rfl rfl fun fa cdv A outer s H E r => d20 (cs_of r sc20.nd ok len) t cs ms,
   call_succ F.f21 sc21 ⟨4, 2, [1], m21 w⟩ rfl rfl rfl rfl fun fa cdv A outer s H E r => d21 (cs_of r sc21.nd ok len) t cs ms,
   call_succ F.f22 sc22 ⟨3, 2, [1], m22 w⟩ rfl rfl rfl rfl fun fa cdv A outer s H E r => d22 (cs_of r sc22.nd ok len) t cs ms,
   call_succ F.f23 sc23 ⟨4, 2, [], m23 w⟩ rfl rfl rfl rfl fun fa cdv A outer s H E r => d23 (cs_of r sc23.nd ok len) t cs ms,
   call_succ F.f24 sc24 ⟨2, 2, [], m24 w⟩ rfl rfl rfl rfl fun fa cdv A outer s H E r => d24 (cs_of r sc24.nd ok len) t cs ms,
   call_succ F.f25 sc25 ⟨8, 3, [0], m25 w⟩ rfl rfl rfl rfl fun fa cdv A outer s H E r => d25 (cs_of r sc25.nd ok len) t cs ms,
   call_succ F.f26 sc26 ⟨6, 2, [], m26 w⟩ rfl rfl rfl rfl fun fa cdv A outer s H E r => d26 (cs_of r sc26.nd ok len) t cs ms,
   call_succ F.f27 sc27 ⟨9, 4, [], m27 w⟩ rfl rfl rfl rfl fun fa cdv A outer s H E r => d27 (cs_of r sc27.nd ok len) t cs ms,
   call_succ F.f28 sc28 ⟨11, 1, [], m28 w⟩ rfl rfl rfl rfl fun fa cdv A outer s H E r => d28 (cs_of r sc28.nd ok len) t cs ms,
   make_succ F.n8 sc8 ⟨4, 3, [0], m8 w⟩ rfl rfl rfl rfl fun fa cdv A outer s H E r => d8 (cs_of r sc8.nd ok len) t cs ms⟩
theorem cs_all (ok : ClsOk (GG P w K ca)) (len : ∀ c, ((GG P w K ca).lay c).length < 1000) (t : Tp (GG P w K ca) mg) (F : Fs (GG P w K ca) mg) : ∀ k, Cs (GG P w K ca) mg base k ∧ Ms (GG P w K ca) mg base k
  | 0 => ⟨cs_zero F, ms_zero F⟩
  | k + 1 => ⟨cs_succ ok len t F (cs_all ok len t F k).1 (cs_all ok len t F k).2, ⟨(cs_all ok len t F k).1.i0⟩⟩
end
theorem lay_len (G : GC) (h1 : G.fid = FID) : ∀ c, (G.lay c).length < 1000 := fun c => by
  unfold GC.lay; rw [h1, List.length_map]
  unfold FID
  split <;> decide
theorem lay_nd (G : GC) (h1 : G.fid = FID) (h2 : G.fn = FNM) : ∀ c, (G.lay c).Nodup := fun c => by
  unfold GC.lay; rw [h1, h2]
  unfold FID
  split <;> decide +kernel
/-- the law's own head -/
theorem head {l : PySem.W.OpenLaw} {w : World} {K : PySem.W.Frag} {h : Heap} {mg : Str → Option Value} {fa : Addr} (X : K.In h) (G : h.Ns mainGlobals mg) (hfa : mg "law" = some (.ref fa)) (plain : ∀ ns : List Int, ns.length ≤ 63 → (∀ z ∈ ns, Builtin.Int.intBits z ≤ 1048576) → ∃ outs, callI (T w) 61 28 [.val (.lst (ns.map .int))] = .ok (.val (.bl true)) outs) {C0 : Addr} {f0 f1 f2 f3 f4 f5 f6 f7 f8 f9 f10 f11 f12 f13 f14 f15 f16 f17 f18 f19 f20 f21 f22 f23 f24 f25 f26 f27 f28 : Addr} {od0 an0 od1 an1 od2 an2 od3 an3 od4 an4 od5 an5 od6 an6 od7 an7 od8 an8 od9 an9 od10 an10 od11 an11 od12 an12 od13 an13 od14 an14 od15 an15 od16 an16 od17 an17 od18 an18 od19 an19 od20 an20 od21 an21 od22 an22 od23 an23 od24 an24 od25 an25 od26 an26 od27 an27 od28 an28 : Option Addr} {sl0 sl1 sl2 sl3 sl4 sl5 sl6 sl7 sl8 sl9 sl10 sl11 sl12 sl13 sl14 sl15 sl16 sl17 sl18 sl19 sl20 sl21 sl22 sl23 sl24 sl25 sl26 sl27 sl28 : Array (Option Value)} {oc0 kV0 dc0 pm0 cd0 ct0 oc1 kV1 dc1 pm1 cd1 ct1 oc2 kV2 dc2 pm2 cd2 ct2 oc3 kV3 dc3 pm3 cd3 ct3 oc4 kV4 dc4 pm4 cd4 ct4 oc5 kV5 dc5 pm5 cd5 ct5 oc6 kV6 dc6 pm6 cd6 ct6 oc7 kV7 dc7 pm7 cd7 ct7 oc8 kV8 dc8 pm8 cd8 ct8 oc9 kV9 dc9 pm9 cd9 ct9 oc10 kV10 dc10 pm10 cd10 ct10 oc11 kV11 dc11 pm11 cd11 ct11 oc12 kV12 dc12 pm12 cd12 ct12 oc13 kV13 dc13 pm13 cd13 ct13 oc14 kV14 dc14 pm14 cd14 ct14 oc15 kV15 dc15 pm15 cd15 ct15 oc16 kV16 dc16 pm16 cd16 ct16 oc17 kV17 dc17 pm17 cd17 ct17 oc18 kV18 dc18 pm18 cd18 ct18 oc19 kV19 dc19 pm19 cd19 ct19 oc20 kV20 dc20 pm20 cd20 ct20 oc21 kV21 dc21 pm21 cd21 ct21 oc22 kV22 dc22 pm22 cd22 ct22 oc23 kV23 dc23 pm23 cd23 ct23 oc24 kV24 dc24 pm24 cd24 ct24 oc25 kV25 dc25 pm25 cd25 ct25 oc26 kV26 dc26 pm26 cd26 ct26 oc27 kV27 dc27 pm27 cd27 ct27 oc28 kV28 dc28 pm28 cd28 ct28 : Value} {uG_TRUTH uG_JOINTS : Value}
    (aC0 : PySem.W.nsIn K mainGlobals "World" = some (some (.ref C0)))
    (pg0 : PySem.W.plainGet K C0 Str.empty = true)
    (hd0 : PySem.W.hasDictIn K C0 = true)
    (po0 : PySem.W.plainOver K C0 = true)
    (sa0 : PySem.W.findIn K (.ref C0) "__setattr__" = some (some (.builtin "object.__setattr__")))
    (mk0 : PySem.W.makesIn K C0 = true)
    (kc0 : PySem.W.keepIn K (.ref C0) = true)
    (nf0_0 : PySem.W.findIn K (.ref C0) "size" = some none)
    (nf0_1 : PySem.W.findIn K (.ref C0) "tables" = some none)
    (a0 : PySem.W.nsIn K mainGlobals "is_variable" = some (some (.ref f0)))
    (l0 : K.lookup f0 = some ⟨oc0, od0, .func (PySem.W.fnOf "is_variable" "is_variable" (defArgs s0) (defBody s0) (defScope s0) .none kV0 dc0 pm0 an0 cd0 ct0), sl0⟩)
    (c0 : PySem.W.codeIn K cd0 "is_variable" = true)
    (k0 : PySem.W.keepIn K (.ref f0) = true)
    (a1 : PySem.W.nsIn K mainGlobals "value" = some (some (.ref f1)))
    (l1 : K.lookup f1 = some ⟨oc1, od1, .func (PySem.W.fnOf "value" "value" (defArgs s1) (defBody s1) (defScope s1) .none kV1 dc1 pm1 an1 cd1 ct1), sl1⟩)
    (c1 : PySem.W.codeIn K cd1 "value" = true)
    (k1 : PySem.W.keepIn K (.ref f1) = true)
    (a2 : PySem.W.nsIn K mainGlobals "joined_holds" = some (some (.ref f2)))
    (l2 : K.lookup f2 = some ⟨oc2, od2, .func (PySem.W.fnOf "joined_holds" "joined_holds" (defArgs s2) (defBody s2) (defScope s2) .none kV2 dc2 pm2 an2 cd2 ct2), sl2⟩)
    (c2 : PySem.W.codeIn K cd2 "joined_holds" = true)
    (k2 : PySem.W.keepIn K (.ref f2) = true)
    (a3 : PySem.W.nsIn K mainGlobals "holds_with" = some (some (.ref f3)))
    (l3 : K.lookup f3 = some ⟨oc3, od3, .func (PySem.W.fnOf "holds_with" "holds_with" (defArgs s3) (defBody s3) (defScope s3) .none kV3 dc3 pm3 an3 cd3 ct3), sl3⟩)
    (c3 : PySem.W.codeIn K cd3 "holds_with" = true)
    (k3 : PySem.W.keepIn K (.ref f3) = true)
    (a4 : PySem.W.nsIn K mainGlobals "holds" = some (some (.ref f4)))
    (l4 : K.lookup f4 = some ⟨oc4, od4, .func (PySem.W.fnOf "holds" "holds" (defArgs s4) (defBody s4) (defScope s4) .none kV4 dc4 pm4 an4 cd4 ct4), sl4⟩)
    (c4 : PySem.W.codeIn K cd4 "holds" = true)
    (k4 : PySem.W.keepIn K (.ref f4) = true)
    (a5 : PySem.W.nsIn K mainGlobals "collect_uses" = some (some (.ref f5)))
    (l5 : K.lookup f5 = some ⟨oc5, od5, .func (PySem.W.fnOf "collect_uses" "collect_uses" (defArgs s5) (defBody s5) (defScope s5) .none kV5 dc5 pm5 an5 cd5 ct5), sl5⟩)
    (c5 : PySem.W.codeIn K cd5 "collect_uses" = true)
    (k5 : PySem.W.keepIn K (.ref f5) = true)
    (a6 : PySem.W.nsIn K mainGlobals "collect_formula_uses" = some (some (.ref f6)))
    (l6 : K.lookup f6 = some ⟨oc6, od6, .func (PySem.W.fnOf "collect_formula_uses" "collect_formula_uses" (defArgs s6) (defBody s6) (defScope s6) .none kV6 dc6 pm6 an6 cd6 ct6), sl6⟩)
    (c6 : PySem.W.codeIn K cd6 "collect_formula_uses" = true)
    (k6 : PySem.W.keepIn K (.ref f6) = true)
    (a7 : PySem.W.nsIn K mainGlobals "uses_of" = some (some (.ref f7)))
    (l7 : K.lookup f7 = some ⟨oc7, od7, .func (PySem.W.fnOf "uses_of" "uses_of" (defArgs s7) (defBody s7) (defScope s7) .none kV7 dc7 pm7 an7 cd7 ct7), sl7⟩)
    (c7 : PySem.W.codeIn K cd7 "uses_of" = true)
    (k7 : PySem.W.keepIn K (.ref f7) = true)
    (e8 : PySem.W.findIn K (.ref C0) "__init__" = some (some (.ref f8)))
    (v8 : PySem.W.isFn K (.ref f8) = true)
    (l8 : K.lookup f8 = some ⟨oc8, od8, .func (PySem.W.fnOf "__init__" "World.__init__" (defArgs s8) (defBody s8) (defScope s8) .none kV8 dc8 pm8 an8 cd8 ct8), sl8⟩)
    (c8 : PySem.W.codeIn K cd8 "World.__init__" = true)
    (k8 : PySem.W.keepIn K (.ref f8) = true)
    (a9 : PySem.W.nsIn K mainGlobals "is_value_of_individual" = some (some (.ref f9)))
    (l9 : K.lookup f9 = some ⟨oc9, od9, .func (PySem.W.fnOf "is_value_of_individual" "is_value_of_individual" (defArgs s9) (defBody s9) (defScope s9) .none kV9 dc9 pm9 an9 cd9 ct9), sl9⟩)
    (c9 : PySem.W.codeIn K cd9 "is_value_of_individual" = true)
    (k9 : PySem.W.keepIn K (.ref f9) = true)
    (a10 : PySem.W.nsIn K mainGlobals "rows" = some (some (.ref f10)))
    (l10 : K.lookup f10 = some ⟨oc10, od10, .func (PySem.W.fnOf "rows" "rows" (defArgs s10) (defBody s10) (defScope s10) .none kV10 dc10 pm10 an10 cd10 ct10), sl10⟩)
    (c10 : PySem.W.codeIn K cd10 "rows" = true)
    (k10 : PySem.W.keepIn K (.ref f10) = true)
    (a11 : PySem.W.nsIn K mainGlobals "limit" = some (some (.ref f11)))
    (l11 : K.lookup f11 = some ⟨oc11, od11, .func (PySem.W.fnOf "limit" "limit" (defArgs s11) (defBody s11) (defScope s11) .none kV11 dc11 pm11 an11 cd11 ct11), sl11⟩)
    (c11 : PySem.W.codeIn K cd11 "limit" = true)
    (k11 : PySem.W.keepIn K (.ref f11) = true)
    (a12 : PySem.W.nsIn K mainGlobals "is_table" = some (some (.ref f12)))
    (l12 : K.lookup f12 = some ⟨oc12, od12, .func (PySem.W.fnOf "is_table" "is_table" (defArgs s12) (defBody s12) (defScope s12) .none kV12 dc12 pm12 an12 cd12 ct12), sl12⟩)
    (c12 : PySem.W.codeIn K cd12 "is_table" = true)
    (k12 : PySem.W.keepIn K (.ref f12) = true)
    (a13 : PySem.W.nsIn K mainGlobals "accepts_world" = some (some (.ref f13)))
    (l13 : K.lookup f13 = some ⟨oc13, od13, .func (PySem.W.fnOf "accepts_world" "accepts_world" (defArgs s13) (defBody s13) (defScope s13) .none kV13 dc13 pm13 an13 cd13 ct13), sl13⟩)
    (c13 : PySem.W.codeIn K cd13 "accepts_world" = true)
    (k13 : PySem.W.keepIn K (.ref f13) = true)
    (a14 : PySem.W.nsIn K mainGlobals "_law_rows" = some (some (.ref f14)))
    (l14 : K.lookup f14 = some ⟨oc14, od14, .func (PySem.W.fnOf "_law_rows" "_law_rows" (defArgs s14) (defBody s14) (defScope s14) .none kV14 dc14 pm14 an14 cd14 ct14), sl14⟩)
    (c14 : PySem.W.codeIn K cd14 "_law_rows" = true)
    (k14 : PySem.W.keepIn K (.ref f14) = true)
    (a15 : PySem.W.nsIn K mainGlobals "_law_digit" = some (some (.ref f15)))
    (l15 : K.lookup f15 = some ⟨oc15, od15, .func (PySem.W.fnOf "_law_digit" "_law_digit" (defArgs s15) (defBody s15) (defScope s15) .none kV15 dc15 pm15 an15 cd15 ct15), sl15⟩)
    (c15 : PySem.W.codeIn K cd15 "_law_digit" = true)
    (k15 : PySem.W.keepIn K (.ref f15) = true)
    (a16 : PySem.W.nsIn K mainGlobals "_law_state" = some (some (.ref f16)))
    (l16 : K.lookup f16 = some ⟨oc16, od16, .func (PySem.W.fnOf "_law_state" "_law_state" (defArgs s16) (defBody s16) (defScope s16) .none kV16 dc16 pm16 an16 cd16 ct16), sl16⟩)
    (c16 : PySem.W.codeIn K cd16 "_law_state" = true)
    (k16 : PySem.W.keepIn K (.ref f16) = true)
    (a17 : PySem.W.nsIn K mainGlobals "_law_tree_term" = some (some (.ref f17)))
    (l17 : K.lookup f17 = some ⟨oc17, od17, .func (PySem.W.fnOf "_law_tree_term" "_law_tree_term" (defArgs s17) (defBody s17) (defScope s17) .none kV17 dc17 pm17 an17 cd17 ct17), sl17⟩)
    (c17 : PySem.W.codeIn K cd17 "_law_tree_term" = true)
    (k17 : PySem.W.keepIn K (.ref f17) = true)
    (a18 : PySem.W.nsIn K mainGlobals "_law_tree" = some (some (.ref f18)))
    (l18 : K.lookup f18 = some ⟨oc18, od18, .func (PySem.W.fnOf "_law_tree" "_law_tree" (defArgs s18) (defBody s18) (defScope s18) .none kV18 dc18 pm18 an18 cd18 ct18), sl18⟩)
    (c18 : PySem.W.codeIn K cd18 "_law_tree" = true)
    (k18 : PySem.W.keepIn K (.ref f18) = true)
    (a19 : PySem.W.nsIn K mainGlobals "_law_value" = some (some (.ref f19)))
    (l19 : K.lookup f19 = some ⟨oc19, od19, .func (PySem.W.fnOf "_law_value" "_law_value" (defArgs s19) (defBody s19) (defScope s19) .none kV19 dc19 pm19 an19 cd19 ct19), sl19⟩)
    (c19 : PySem.W.codeIn K cd19 "_law_value" = true)
    (k19 : PySem.W.keepIn K (.ref f19) = true)
    (a20 : PySem.W.nsIn K mainGlobals "_law_true" = some (some (.ref f20)))
    (l20 : K.lookup f20 = some ⟨oc20, od20, .func (PySem.W.fnOf "_law_true" "_law_true" (defArgs s20) (defBody s20) (defScope s20) .none kV20 dc20 pm20 an20 cd20 ct20), sl20⟩)
    (c20 : PySem.W.codeIn K cd20 "_law_true" = true)
    (k20 : PySem.W.keepIn K (.ref f20) = true)
    (a21 : PySem.W.nsIn K mainGlobals "_law_uses_of_term" = some (some (.ref f21)))
    (l21 : K.lookup f21 = some ⟨oc21, od21, .func (PySem.W.fnOf "_law_uses_of_term" "_law_uses_of_term" (defArgs s21) (defBody s21) (defScope s21) .none kV21 dc21 pm21 an21 cd21 ct21), sl21⟩)
    (c21 : PySem.W.codeIn K cd21 "_law_uses_of_term" = true)
    (k21 : PySem.W.keepIn K (.ref f21) = true)
    (a22 : PySem.W.nsIn K mainGlobals "_law_uses_of" = some (some (.ref f22)))
    (l22 : K.lookup f22 = some ⟨oc22, od22, .func (PySem.W.fnOf "_law_uses_of" "_law_uses_of" (defArgs s22) (defBody s22) (defScope s22) .none kV22 dc22 pm22 an22 cd22 ct22), sl22⟩)
    (c22 : PySem.W.codeIn K cd22 "_law_uses_of" = true)
    (k22 : PySem.W.keepIn K (.ref f22) = true)
    (a23 : PySem.W.nsIn K mainGlobals "_law_count" = some (some (.ref f23)))
    (l23 : K.lookup f23 = some ⟨oc23, od23, .func (PySem.W.fnOf "_law_count" "_law_count" (defArgs s23) (defBody s23) (defScope s23) .none kV23 dc23 pm23 an23 cd23 ct23), sl23⟩)
    (c23 : PySem.W.codeIn K cd23 "_law_count" = true)
    (k23 : PySem.W.keepIn K (.ref f23) = true)
    (a24 : PySem.W.nsIn K mainGlobals "_law_limit" = some (some (.ref f24)))
    (l24 : K.lookup f24 = some ⟨oc24, od24, .func (PySem.W.fnOf "_law_limit" "_law_limit" (defArgs s24) (defBody s24) (defScope s24) .none kV24 dc24 pm24 an24 cd24 ct24), sl24⟩)
    (c24 : PySem.W.codeIn K cd24 "_law_limit" = true)
    (k24 : PySem.W.keepIn K (.ref f24) = true)
    (a25 : PySem.W.nsIn K mainGlobals "_law_tables" = some (some (.ref f25)))
    (l25 : K.lookup f25 = some ⟨oc25, od25, .func (PySem.W.fnOf "_law_tables" "_law_tables" (defArgs s25) (defBody s25) (defScope s25) .none kV25 dc25 pm25 an25 cd25 ct25), sl25⟩)
    (c25 : PySem.W.codeIn K cd25 "_law_tables" = true)
    (k25 : PySem.W.keepIn K (.ref f25) = true)
    (a26 : PySem.W.nsIn K mainGlobals "_law_fits" = some (some (.ref f26)))
    (l26 : K.lookup f26 = some ⟨oc26, od26, .func (PySem.W.fnOf "_law_fits" "_law_fits" (defArgs s26) (defBody s26) (defScope s26) .none kV26 dc26 pm26 an26 cd26 ct26), sl26⟩)
    (c26 : PySem.W.codeIn K cd26 "_law_fits" = true)
    (k26 : PySem.W.keepIn K (.ref f26) = true)
    (a27 : PySem.W.nsIn K mainGlobals "_law_accepted" = some (some (.ref f27)))
    (l27 : K.lookup f27 = some ⟨oc27, od27, .func (PySem.W.fnOf "_law_accepted" "_law_accepted" (defArgs s27) (defBody s27) (defScope s27) .none kV27 dc27 pm27 an27 cd27 ct27), sl27⟩)
    (c27 : PySem.W.codeIn K cd27 "_law_accepted" = true)
    (k27 : PySem.W.keepIn K (.ref f27) = true)
    (a28 : PySem.W.nsIn K mainGlobals "law" = some (some (.ref f28)))
    (l28 : K.lookup f28 = some ⟨oc28, od28, .func (PySem.W.fnOf "law" "law" (defArgs s28) (defBody s28) (defScope s28) .none kV28 dc28 pm28 an28 cd28 ct28), sl28⟩)
    (c28 : PySem.W.codeIn K cd28 "law" = true)
    (k28 : PySem.W.keepIn K (.ref f28) = true)
    (z_all : PySem.W.nsIn K mainGlobals "all" = some none)
    (z_bool : PySem.W.nsIn K mainGlobals "bool" = some none)
    (z_dict : PySem.W.nsIn K mainGlobals "dict" = some none)
    (z_int : PySem.W.nsIn K mainGlobals "int" = some none)
    (z_isinstance : PySem.W.nsIn K mainGlobals "isinstance" = some none)
    (z_len : PySem.W.nsIn K mainGlobals "len" = some none)
    (z_list : PySem.W.nsIn K mainGlobals "list" = some none)
    (z_max : PySem.W.nsIn K mainGlobals "max" = some none)
    (z_range : PySem.W.nsIn K mainGlobals "range" = some none)
    (z_tuple : PySem.W.nsIn K mainGlobals "tuple" = some none)
    (aG_TRUTH : PySem.W.nsIn K mainGlobals "TRUTH" = some (some uG_TRUTH))
    (aG_JOINTS : PySem.W.nsIn K mainGlobals "JOINTS" = some (some uG_JOINTS))
    (gG_TRUTH : GV K g_TRUTH uG_TRUTH)
    (gG_JOINTS : GV K g_JOINTS uG_JOINTS)
    : ∃ fd : FuncData, (∀ (s : Shared) (v : Value), BindsTo s fd ⟨[v], []⟩ [("_law_script", v)]) ∧ ∀ base : Heap, K.In base → base.Ns mainGlobals mg → FnOk l.prog w K mg base (L2.CX l.prog w) 62 fa fd ["_law_script"] (spLaw K) := by
  have e := hfa.symm.trans (PySem.W.mg_of X G a28)
  cases e
  have F : Fs (GG l.prog w K (caL C0 [C0])) mg := ⟨fnF_mk X G (fun _ _ _ _ _ _ us hl => match us, hl with | [_], _ => rfl) a0 l0 c0 k0,
    fnF_mk X G (fun _ _ _ _ _ _ us hl => match us, hl with | [_, _, _], _ => rfl) a1 l1 c1 k1,
    fnF_mk X G (fun _ _ _ _ _ _ us hl => match us, hl with | [_, _, _], _ => rfl) a2 l2 c2 k2,
    fnF_mk X G (fun _ _ _ _ _ _ us hl => match us, hl with | [_, _, _], _ => rfl) a3 l3 c3 k3,
    fnF_mk X G (fun _ _ _ _ _ _ us hl => match us, hl with | [_, _], _ => rfl) a4 l4 c4 k4,
    fnF_mk X G (fun _ _ _ _ _ _ us hl => match us, hl with | [_, _], _ => rfl) a5 l5 c5 k5,
    fnF_mk X G (fun _ _ _ _ _ _ us hl => match us, hl with | [_, _], _ => rfl) a6 l6 c6 k6,
    fnF_mk X G (fun _ _ _ _ _ _ us hl => match us, hl with | [_], _ => rfl) a7 l7 c7 k7,
    inF_mk X G (fun _ _ _ _ _ _ us hl => match us, hl with | [_, _, _], _ => rfl) aC0 mk0 kc0 e8 v8 l8 c8 k8,
    fnF_mk X G (fun _ _ _ _ _ _ us hl => match us, hl with | [_], _ => rfl) a9 l9 c9 k9,
    fnF_mk X G (fun _ _ _ _ _ _ us hl => match us, hl with | [_, _], _ => rfl) a10 l10 c10 k10,
    fnF_mk X G (fun _ _ _ _ _ _ us hl => match us, hl with | [_, _], _ => rfl) a11 l11 c11 k11,
    fnF_mk X G (fun _ _ _ _ _ _ us hl => match us, hl with | [_, _, _, _], _ => rfl) a12 l12 c12 k12,
    fnF_mk X G (fun _ _ _ _ _ _ us hl => match us, hl with | [_, _], _ => rfl) a13 l13 c13 k13,
    fnF_mk X G (fun _ _ _ _ _ _ us hl => match us, hl with | [_, _], _ => rfl) a14 l14 c14 k14,
    fnF_mk X G (fun _ _ _ _ _ _ us hl => match us, hl with | [_, _], _ => rfl) a15 l15 c15 k15,
    fnF_mk X G (fun _ _ _ _ _ _ us hl => match us, hl with | [_], _ => rfl) a16 l16 c16 k16,
    fnF_mk X G (fun _ _ _ _ _ _ us hl => match us, hl with | [_, _, _], _ => rfl) a17 l17 c17 k17,
    fnF_mk X G (fun _ _ _ _ _ _ us hl => match us, hl with | [_, _, _], _ => rfl) a18 l18 c18 k18,
    fnF_mk X G (fun _ _ _ _ _ _ us hl => match us, hl with | [_, _, _, _], _ => rfl) a19 l19 c19 k19,
    fnF_mk X G (fun _ _ _ _ _ _ us hl => match us, hl with | [_, _, _, _], _ => rfl) a20 l20 c20 k20,
    fnF_mk X G (fun _ _ _ _ _ _ us hl => match us, hl with | [_, _], _ => rfl) a21 l21 c21 k21,
    fnF_mk X G (fun _ _ _ _ _ _ us hl => match us, hl with | [_, _], _ => rfl) a22 l22 c22 k22,
    fnF_mk X G (fun _ _ _ _ _ _ us hl => match us, hl with | [_, _], _ => rfl) a23 l23 c23 k23,
    fnF_mk X G (fun _ _ _ _ _ _ us hl => match us, hl with | [_, _], _ => rfl) a24 l24 c24 k24,
    fnF_mk X G (fun _ _ _ _ _ _ us hl => match us, hl with | [_, _, _], _ => rfl) a25 l25 c25 k25,
    fnF_mk X G (fun _ _ _ _ _ _ us hl => match us, hl with | [_, _], _ => rfl) a26 l26 c26 k26,
    fnF_mk X G (fun _ _ _ _ _ _ us hl => match us, hl with | [_, _, _, _], _ => rfl) a27 l27 c27 k27,
    fnF_mk X G (fun _ _ _ _ _ _ us hl => match us, hl with | [_], _ => rfl) a28 l28 c28 k28⟩
  have t : Tp (GG l.prog w K (caL C0 [C0])) mg := ⟨PySem.W.mg_none_of X G z_all, PySem.W.mg_none_of X G z_bool, PySem.W.mg_none_of X G z_dict, PySem.W.mg_none_of X G z_int, PySem.W.mg_none_of X G z_isinstance, PySem.W.mg_none_of X G z_len, PySem.W.mg_none_of X G z_list, PySem.W.mg_none_of X G z_max, PySem.W.mg_none_of X G z_range, PySem.W.mg_none_of X G z_tuple, gl_mk X G rfl aG_TRUTH gG_TRUTH, gl_mk X G rfl aG_JOINTS gG_JOINTS⟩
  have ok : ClsOk (GG l.prog w K (caL C0 [C0])) := by
    refine ⟨fun c f m => ?_, fun c f m => ?_, lay_nd _ rfl rfl⟩
    · match c, m with
      | 0, _ => exact ⟨pg0, hd0, po0, sa0⟩
      | c + 1, m => exact nomatch m
    · match c, m with
      | 0, m =>
        rcases (mem_of m : InL f [0, 1]) with h | h | h
        · rw [h]; exact nf0_0
        · rw [h]; exact nf0_1
        · exact h.elim
      | c + 1, m => exact nomatch m
  obtain ⟨fa2, fd, Fn2, hm, _⟩ := F.f28
  have e2 := hfa.symm.trans hm
  cases e2
  refine ⟨fd, ?_, fun base _ _ => ?_⟩
  · obtain ⟨_, _, _, _, _, _, _, _, _, rfl, _, _⟩ := Fn2.ex
    exact fun s v => .of_eq rfl
  · have q := cs_all (base := base) ok (lay_len _ rfl) t F 60
    exact FnOk.weak (run_fun (G := GG l.prog w K (caL C0 [C0])) Fn2 sc28 ⟨11, 1, [], m28 w⟩ rfl rfl rfl rfl fun cdv A outer s H E r => d28 (cs_of r sc28.nd ok (lay_len _ rfl)) t q.1 q.2) (law_sp (G := GG l.prog w K (caL C0 [C0])) plain)
theorem walk {l : PySem.W.OpenLaw} {q : Program} {loose : List Str} {XP : (Str → Option Value) → Heap → Prop} {YP : World → Heap → Prop} {d : DefRec} {K : Params → PySem.W.Frag} (hn : l.most = some 63) (hdf : d.params.defaults = [])
    (hY : ∀ (w : World) (h : Heap), YP w h → (K w.params).In h)
    (F : ∀ (w : World) (mg : Str → Option Value) (fa : Addr) (h : Heap), (K w.params).In h → h.Ns mainGlobals mg → mg d.name = some (.ref fa) →
      ∃ fd : FuncData, (∀ (s : Shared) (u : Value), BindsTo s fd ⟨[u], []⟩ [("_law_script", u)]) ∧ ∀ base : Heap, (K w.params).In base → base.Ns mainGlobals mg → FnOk l.prog w (K w.params) mg base (L2.CX l.prog w) 62 fa fd ["_law_script"] (spLaw (K w.params))) :
    PySem.W.WalkO q loose XP YP l.row.toRowW d [] (fun f vs => PySem.call f vs) :=
  L2.walk_ofB (n := 63) (k := 62) (x := "_law_script") (CX := fun w => L2.CX l.prog w) (sp := fun w => spLaw (K w.params)) hn (by decide) hdf ⟨rfl, by decide, by decide⟩ hY F (fun _ _ a ns hl hb _ hS => ⟨a, ns, rfl, hS, hl, hb, fun _ => rfl⟩) fun _ _ _ _ _ z => cx_no z
end K63
open PySem PySem.W PyProof.Rows
set_option maxRecDepth 100000 in
set_option maxHeartbeats 0 in
theorem PySem.Challenge.cw_lastproof_k63_judged_worlds_holds : PySem.Challenge.rw_lastproof_k63_judged_worlds.Holds := by
  w_on; o_law; k_head; (case hw => w_witness2)
  k_fill
  refine K63.walk (l := PySem.Challenge.rw_lastproof_k63_judged_worlds) rfl rfl (fun w h Y => PySem.W.kIn_of Y) ?F
  case F =>
    intro w mg fa h KX G hmg
    refine' K63.head KX G hmg (K63.plain w) ?aC0 ?pg0 ?hd0 ?po0 ?sa0 ?mk0 ?kc0 ?nf0_0 ?nf0_1 ?a0 ?l0 ?c0 ?k0 ?a1 ?l1 ?c1 ?k1 ?a2 ?l2 ?c2 ?k2 ?a3 ?l3 ?c3 ?k3 ?a4 ?l4 ?c4 ?k4 ?a5 ?l5 ?c5 ?k5 ?a6 ?l6 ?c6 ?k6 ?a7 ?l7 ?c7 ?k7 ?e8 ?v8 ?l8 ?c8 ?k8 ?a9 ?l9 ?c9 ?k9 ?a10 ?l10 ?c10 ?k10 ?a11 ?l11 ?c11 ?k11 ?a12 ?l12 ?c12 ?k12 ?a13 ?l13 ?c13 ?k13 ?a14 ?l14 ?c14 ?k14 ?a15 ?l15 ?c15 ?k15 ?a16 ?l16 ?c16 ?k16 ?a17 ?l17 ?c17 ?k17 ?a18 ?l18 ?c18 ?k18 ?a19 ?l19 ?c19 ?k19 ?a20 ?l20 ?c20 ?k20 ?a21 ?l21 ?c21 ?k21 ?a22 ?l22 ?c22 ?k22 ?a23 ?l23 ?c23 ?k23 ?a24 ?l24 ?c24 ?k24 ?a25 ?l25 ?c25 ?k25 ?a26 ?l26 ?c26 ?k26 ?a27 ?l27 ?c27 ?k27 ?a28 ?l28 ?c28 ?k28 ?z_all ?z_bool ?z_dict ?z_int ?z_isinstance ?z_len ?z_list ?z_max ?z_range ?z_tuple ?aG_TRUTH ?aG_JOINTS ?gG_TRUTH ?gG_JOINTS
    (case aC0 => k_is)
    (case pg0 => k_is)
    (case hd0 => k_is)
    (case po0 => k_is)
    (case sa0 => k_is)
    (case mk0 => k_is)
    (case kc0 => k_is)
    (case nf0_0 => k_is)
    (case nf0_1 => k_is)
    (case a0 => k_is)
    (case l0 => k_is)
    (case c0 => k_is)
    (case k0 => k_is)
    (case a1 => k_is)
    (case l1 => k_is)
    (case c1 => k_is)
    (case k1 => k_is)
    (case a2 => k_is)
    (case l2 => k_is)
    (case c2 => k_is)
    (case k2 => k_is)
    (case a3 => k_is)
    (case l3 => k_is)
    (case c3 => k_is)
    (case k3 => k_is)
    (case a4 => k_is)
    (case l4 => k_is)
    (case c4 => k_is)
    (case k4 => k_is)
    (case a5 => k_is)
    (case l5 => k_is)
    (case c5 => k_is)
    (case k5 => k_is)
    (case a6 => k_is)
    (case l6 => k_is)
    (case c6 => k_is)
    (case k6 => k_is)
    (case a7 => k_is)
    (case l7 => k_is)
    (case c7 => k_is)
    (case k7 => k_is)
    (case e8 => k_is)
    (case v8 => k_is)
    (case l8 => k_is)
    (case c8 => k_is)
    (case k8 => k_is)
    (case a9 => k_is)
    (case l9 => k_is)
    (case c9 => k_is)
    (case k9 => k_is)
    (case a10 => k_is)
    (case l10 => k_is)
    (case c10 => k_is)
    (case k10 => k_is)
    (case a11 => k_is)
    (case l11 => k_is)
    (case c11 => k_is)
    (case k11 => k_is)
    (case a12 => k_is)
    (case l12 => k_is)
    (case c12 => k_is)
    (case k12 => k_is)
    (case a13 => k_is)
    (case l13 => k_is)
    (case c13 => k_is)
    (case k13 => k_is)
    (case a14 => k_is)
    (case l14 => k_is)
    (case c14 => k_is)
    (case k14 => k_is)
    (case a15 => k_is)
    (case l15 => k_is)
    (case c15 => k_is)
    (case k15 => k_is)
    (case a16 => k_is)
    (case l16 => k_is)
    (case c16 => k_is)
    (case k16 => k_is)
    (case a17 => k_is)
    (case l17 => k_is)
    (case c17 => k_is)
    (case k17 => k_is)
    (case a18 => k_is)
    (case l18 => k_is)
    (case c18 => k_is)
    (case k18 => k_is)
    (case a19 => k_is)
    (case l19 => k_is)
    (case c19 => k_is)
    (case k19 => k_is)
    (case a20 => k_is)
    (case l20 => k_is)
    (case c20 => k_is)
    (case k20 => k_is)
    (case a21 => k_is)
    (case l21 => k_is)
    (case c21 => k_is)
    (case k21 => k_is)
    (case a22 => k_is)
    (case l22 => k_is)
    (case c22 => k_is)
    (case k22 => k_is)
    (case a23 => k_is)
    (case l23 => k_is)
    (case c23 => k_is)
    (case k23 => k_is)
    (case a24 => k_is)
    (case l24 => k_is)
    (case c24 => k_is)
    (case k24 => k_is)
    (case a25 => k_is)
    (case l25 => k_is)
    (case c25 => k_is)
    (case k25 => k_is)
    (case a26 => k_is)
    (case l26 => k_is)
    (case c26 => k_is)
    (case k26 => k_is)
    (case a27 => k_is)
    (case l27 => k_is)
    (case c27 => k_is)
    (case k27 => k_is)
    (case a28 => k_is)
    (case l28 => k_is)
    (case c28 => k_is)
    (case k28 => k_is)
    (case z_all => k_is)
    (case z_bool => k_is)
    (case z_dict => k_is)
    (case z_int => k_is)
    (case z_isinstance => k_is)
    (case z_len => k_is)
    (case z_list => k_is)
    (case z_max => k_is)
    (case z_range => k_is)
    (case z_tuple => k_is)
    (case aG_TRUTH => k_is)
    (case aG_JOINTS => k_is)
    (case gG_TRUTH => exact (PL.gv_tup (by k_is) rfl (PL.gvs_cons (PL.gv_tup (by k_is) rfl (PL.gvs_cons PL.gv_int (PL.gvs_cons PL.gv_int (PL.gvs_cons PL.gv_int PL.gvs_nil)))) (PL.gvs_cons (PL.gv_tup (by k_is) rfl PL.gvs_nil) PL.gvs_nil))))
    (case gG_JOINTS => exact (PL.gv_tup (by k_is) rfl (PL.gvs_cons PL.gv_str (PL.gvs_cons PL.gv_str (PL.gvs_cons PL.gv_str (PL.gvs_cons PL.gv_str PL.gvs_nil))))))
