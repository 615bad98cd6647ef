import PyProof.Rows.All
import Wide.All
import OpenK.AllK
import Wide.FinOn
import HandS.ForMost
import HandS.ForExc
import PyProof.ReprReads
import KE.SortData
import HandS.Deep
import HandS.Flow
import HandS.Star
import PyProof.Rows.StrCountLaw
import PyProof.ReprLen
import PyProof.ReprRoads
import KE.DataMinMax
import PySem.Challenge.RW_wordsatplay_k59_whole_texts_that_count
set_option Elab.async false
set_option linter.all false
set_option maxRecDepth 100000
set_option maxHeartbeats 3900000
/-! Ev, part A: deep data D, its display by a heap (Rp), results R, environments, the judgement SE of an expression. -/
namespace Ev
open PySem PySem.Spec L2
abbrev Sg := L2.St

inductive D where
  | non
  | bl (b : Bool)
  | int (i : Int)
  | str (s : List Nat)
  | lst (xs : List D)
  | tup (xs : List D)
  | dct (kvs : List (D × D))
  | exc (c : String) (n : Int)
  /-- the script: a list of ints that is read alone -/
  | scr (ns : List Int)
  /-- the text that repr gives of d -/
  | rep (d : D)

inductive R (α : Type) where
  | ok (a : α)
  | rs (c : String) (n : Int)
  | st

@[simp] def R.bind {α β : Type} : R α → (α → R β) → R β
  | .ok a, f => f a
  | .rs c n, _ => .rs c n
  | .st, _ => .st

mutual
def dep : D → Nat
  | .lst xs => depAll xs + 1
  | .tup xs => depAll xs + 1
  | .dct kvs => depKv kvs + 1
  | .non => 0
  | .bl _ => 0
  | .int _ => 0
  | .str _ => 0
  | .exc _ _ => 0
  | .scr _ => 0
  | .rep _ => 0
def depAll : List D → Nat
  | [] => 0
  | x :: xs => max (dep x) (depAll xs)
def depKv : List (D × D) → Nat
  | [] => 0
  | (a, b) :: r => max (max (dep a) (dep b)) (depKv r)
end

/- no dict, no exception within -/
mutual
def flat : D → Bool
  | .lst xs => flatAll xs
  | .tup xs => flatAll xs
  | .dct _ => false
  | .exc _ _ => false
  | .scr _ => false
  | .rep _ => false
  | .non => true
  | .bl _ => true
  | .int _ => true
  | .str _ => true
def flatAll : List D → Bool
  | [] => true
  | x :: xs => flat x && flatAll xs
end

mutual
def toPy : D → PyData
  | .non => .none
  | .bl b => .bool b
  | .int i => .int i
  | .str s => .str ⟨s.toArray⟩
  | .lst xs => .list (toPyAll xs)
  | .tup xs => .tuple (toPyAll xs)
  | .dct kvs => .dict (toPyKv kvs)
  | .exc _ n => .int n
  | .scr _ => .none
  | .rep _ => .none
def toPyAll : List D → List PyData
  | [] => []
  | x :: xs => toPy x :: toPyAll xs
def toPyKv : List (D × D) → List (PyData × PyData)
  | [] => []
  | (a, b) :: r => (toPy a, toPy b) :: toPyKv r
end

def big : Nat := 16777216
theorem big_line : big = sizeLine := by rw [sizeLine_eq]; rfl

def keyD : Key → D
  | .inl i => .int i
  | .inr x => .str x.cps.toList

def okS (s : List Nat) : Bool := (s.all fun c => decide (c < 0x110000)) && decide (s.length ≤ big)

/-- the script at a: known to an object, or written at the top -/
def ScrAt (K : PySem.W.Frag) (H : Hp) (a : Addr) (ns : List Int) : Prop := (∃ o, H a = some (.frz o (.lst (ns.map V.int)))) ∨ ∀ H', SqL K H' a (ns.map V.int)
theorem ScrAt.sq {K : PySem.W.Frag} {H : Hp} {a : Addr} {ns : List Int} (h : ScrAt K H a ns) : SqL K H a (ns.map V.int) := by
  rcases h with ⟨o, h⟩ | h
  · exact .inl (.inr ⟨o, h⟩)
  · exact h H

/- in H the value v shows d; F: the lists and dicts that are met -/
mutual
def Rp (K : PySem.W.Frag) (H : Hp) : D → V → List Addr → Prop
  | .non, v, F => v = .non ∧ F = []
  | .bl b, v, F => v = .bl b ∧ F = []
  | .int i, v, F => v = .int i ∧ F = []
  | .str s, v, F => v = .str ⟨s.toArray⟩ ∧ okS s = true ∧ F = []
  | .lst ds, v, F => ∃ a xs G, v = .ref a ∧ F = a :: G ∧ H a = some (.lst xs) ∧ RpAll K H ds xs G ∧ ds.length ≤ big
  | .tup ds, v, F => ∃ a xs, v = .ref a ∧ SqT K H a xs ∧ RpAll K H ds xs F ∧ ds.length ≤ big
  | .dct kvs, v, F => ∃ a xs G, v = .ref a ∧ F = a :: G ∧ ((∃ es, Rd H a (.dK es) ∧ xs = es.map fun p => (keyD p.1, p.2)) ∨ ∃ es, Rd H a (.dT es) ∧ xs = es.map fun p => (D.tup (p.1.map keyD), p.2)) ∧ RpKv K H kvs xs G
  | .exc _ _, _, _ => False
  | .scr ns, v, F => ∃ a, v = .ref a ∧ F = [] ∧ ScrAt K H a ns
  | .rep d, v, F => v = .str (toPy d).shown ∧ F = []
def RpAll (K : PySem.W.Frag) (H : Hp) : List D → List V → List Addr → Prop
  | [], vs, F => vs = [] ∧ F = []
  | d :: ds, vs, F => ∃ v vr G1 G2, vs = v :: vr ∧ F = G1 ++ G2 ∧ Rp K H d v G1 ∧ RpAll K H ds vr G2
def RpKv (K : PySem.W.Frag) (H : Hp) : List (D × D) → List (D × V) → List Addr → Prop
  | [], vs, F => vs = [] ∧ F = []
  | (k, d) :: ds, vs, F => ∃ v vr G1 G2, vs = (k, v) :: vr ∧ F = G1 ++ G2 ∧ Rp K H d v G1 ∧ RpKv K H ds vr G2
end

/-- all but the changeable objects at N is as it was -/
structure Ext (N : Addr → Prop) (H H' : Hp) : Prop where
  keep : ∀ b x, H b = some x → ¬ N b → H' b = some x
  hard : ∀ b x, H b = some x → ¬ Mut (some x) → H' b = some x
  stay : ∀ b x, H b = some x → ∃ y, H' b = some y

theorem Ext.of {H H' : Hp} {N : Addr → Prop} (e : Same H H') : Ext N H H' := ⟨fun b x h _ => e b x h, fun b x h _ => e b x h, fun b x h => ⟨x, e b x h⟩⟩
theorem Ext.refl {H : Hp} {N : Addr → Prop} : Ext N H H := .of (Same.refl H)
theorem Ext.same {H H' : Hp} {N : Addr → Prop} (e : Ext N H H') (h : ∀ a, ¬ N a) : Same H H' := fun b x q => e.keep b x q (h b)
theorem Ext.mono {H H' : Hp} {N N' : Addr → Prop} (e : Ext N H H') (h : ∀ a, N a → N' a) : Ext N' H H' := ⟨fun b x q n => e.keep b x q fun z => n (h b z), e.hard, e.stay⟩
theorem ne_none {H : Hp} {b : Addr} {x : HO} (q : H b = some x) : ¬ H b = none := by
  rw [q]
  exact nofun
/-- changes at N, then at what was new or at N -/
theorem Ext.trans {H H1 H2 : Hp} {N N1 : Addr → Prop} (e : Ext N H H1) (e' : Ext N1 H1 H2) (h : ∀ a, N1 a → N a ∨ H a = none) : Ext N H H2 :=
  ⟨fun b x q n => e'.keep b x (e.keep b x q n) fun z => (h b z).elim n (ne_none q),
    fun b x q n => e'.hard b x (e.hard b x q n) n,
    fun b x q => let ⟨y, z⟩ := e.stay b x q; e'.stay b y z⟩

section
variable {K : PySem.W.Frag} {H H' : Hp} {N : Addr → Prop}

theorem Ext.rd {a : Addr} {u : HO} (e : Ext N H H') (n : ¬ N a) (r : Rd H a u) : Rd H' a u := by
  rcases r with r | ⟨o, r⟩
  · exact .inl (e.keep a _ r n)
  · exact .inr ⟨o, e.hard a _ r (fun z => z)⟩
theorem Ext.sqL {a : Addr} {xs : List V} (e : Ext N H H') (n : ¬ N a) (r : SqL K H a xs) : SqL K H' a xs := by
  rcases r with r | r
  · exact .inl (e.rd n r)
  · exact .inr r
theorem Ext.sqT {a : Addr} {xs : List V} (e : Ext N H H') (r : SqT K H a xs) : SqT K H' a xs := by
  rcases r with (r | ⟨o, r⟩) | r
  · exact .inl (.inl (e.hard a _ r (fun z => z)))
  · exact .inl (.inr ⟨o, e.hard a _ r (fun z => z)⟩)
  · exact .inr r

mutual
theorem Rp.ext (e : Ext N H H') : ∀ (d : D) (v : V) (F : List Addr), (∀ a ∈ F, ¬ N a) → Rp K H d v F → Rp K H' d v F
  | .non, _, _, _, h => by simp only [Rp] at h ⊢; exact h
  | .bl _, _, _, _, h => by simp only [Rp] at h ⊢; exact h
  | .int _, _, _, _, h => by simp only [Rp] at h ⊢; exact h
  | .str _, _, _, _, h => by simp only [Rp] at h ⊢; exact h
  | .rep _, _, _, _, h => by simp only [Rp] at h ⊢; exact h
  | .lst ds, v, F, n, h => by
    simp only [Rp] at h ⊢
    obtain ⟨a, xs, G, rfl, rfl, q, r, l⟩ := h
    exact ⟨a, xs, G, rfl, rfl, e.keep a _ q (n a List.mem_cons_self), RpAll.ext e ds xs G (fun b hb => n b (List.mem_cons_of_mem _ hb)) r, l⟩
  | .tup ds, v, F, n, h => by
    simp only [Rp] at h ⊢
    obtain ⟨a, xs, rfl, q, r, l⟩ := h
    exact ⟨a, xs, rfl, e.sqT q, RpAll.ext e ds xs F n r, l⟩
  | .dct kvs, v, F, n, h => by
    simp only [Rp] at h ⊢
    obtain ⟨a, xs, G, rfl, rfl, q, r⟩ := h
    refine ⟨a, xs, G, rfl, rfl, ?_, RpKv.ext e kvs xs G (fun b hb => n b (List.mem_cons_of_mem _ hb)) r⟩
    rcases q with ⟨es, q, z⟩ | ⟨es, q, z⟩
    · exact .inl ⟨es, e.rd (n a List.mem_cons_self) q, z⟩
    · exact .inr ⟨es, e.rd (n a List.mem_cons_self) q, z⟩
  | .exc _ _, _, _, _, h => by simp only [Rp] at h
  | .scr ns, v, F, n, h => by
    simp only [Rp] at h ⊢
    obtain ⟨a, rfl, rfl, q⟩ := h
    refine ⟨a, rfl, rfl, ?_⟩
    rcases q with ⟨o, q⟩ | q
    · exact .inl ⟨o, e.hard a _ q (fun z => z)⟩
    · exact .inr q
theorem RpAll.ext (e : Ext N H H') : ∀ (ds : List D) (vs : List V) (F : List Addr), (∀ a ∈ F, ¬ N a) → RpAll K H ds vs F → RpAll K H' ds vs F
  | [], _, _, _, h => by simp only [RpAll] at h ⊢; exact h
  | d :: ds, vs, F, n, h => by
    simp only [RpAll] at h ⊢
    obtain ⟨v, vr, G1, G2, rfl, rfl, h1, h2⟩ := h
    exact ⟨v, vr, G1, G2, rfl, rfl, Rp.ext e d v G1 (fun b hb => n b (List.mem_append_left _ hb)) h1, RpAll.ext e ds vr G2 (fun b hb => n b (List.mem_append_right _ hb)) h2⟩
theorem RpKv.ext (e : Ext N H H') : ∀ (ds : List (D × D)) (vs : List (D × V)) (F : List Addr), (∀ a ∈ F, ¬ N a) → RpKv K H ds vs F → RpKv K H' ds vs F
  | [], _, _, _, h => by simp only [RpKv] at h ⊢; exact h
  | (k, d) :: ds, vs, F, n, h => by
    simp only [RpKv] at h ⊢
    obtain ⟨v, vr, G1, G2, rfl, rfl, h1, h2⟩ := h
    exact ⟨v, vr, G1, G2, rfl, rfl, Rp.ext e d v G1 (fun b hb => n b (List.mem_append_left _ hb)) h1, RpKv.ext e ds vr G2 (fun b hb => n b (List.mem_append_right _ hb)) h2⟩
end
theorem Rp.same {d : D} {v : V} {F : List Addr} (e : Same H H') (h : Rp K H d v F) : Rp K H' d v F := Rp.ext (N := fun _ => False) (.of e) d v F (fun _ _ z => z) h
theorem RpAll.same {d : List D} {v : List V} {F : List Addr} (e : Same H H') (h : RpAll K H d v F) : RpAll K H' d v F := RpAll.ext (N := fun _ => False) (.of e) d v F (fun _ _ z => z) h

mutual
theorem Rp.dom : ∀ {d : D} {v : V} {F : List Addr}, Rp K H d v F → ∀ a ∈ F, ∃ x, H a = some x
  | .non, _, _, h, a, m => by simp only [Rp] at h; rw [h.2] at m; cases m
  | .bl _, _, _, h, a, m => by simp only [Rp] at h; rw [h.2] at m; cases m
  | .int _, _, _, h, a, m => by simp only [Rp] at h; rw [h.2] at m; cases m
  | .str _, _, _, h, a, m => by simp only [Rp] at h; rw [h.2.2] at m; cases m
  | .rep _, _, _, h, a, m => by simp only [Rp] at h; rw [h.2] at m; cases m
  | .lst ds, _, _, h, a, m => by
    simp only [Rp] at h
    obtain ⟨b, xs, G, rfl, rfl, q, r, _⟩ := h
    rcases List.mem_cons.mp m with z | z
    · rw [z]; exact ⟨_, q⟩
    · exact RpAll.dom r a z
  | .tup ds, _, _, h, a, m => by
    simp only [Rp] at h
    obtain ⟨b, xs, rfl, q, r, _⟩ := h
    exact RpAll.dom r a m
  | .dct kvs, _, _, h, a, m => by
    simp only [Rp] at h
    obtain ⟨b, xs, G, rfl, rfl, q, r⟩ := h
    rcases List.mem_cons.mp m with z | z
    · rw [z]
      rcases q with ⟨es, q | ⟨o, q⟩, _⟩ | ⟨es, q | ⟨o, q⟩, _⟩ <;> exact ⟨_, q⟩
    · exact RpKv.dom r a z
  | .exc _ _, _, _, h, a, m => by simp only [Rp] at h
  | .scr ns, _, _, h, a, m => by
    simp only [Rp] at h
    obtain ⟨b, rfl, rfl, q⟩ := h
    cases m
theorem RpAll.dom : ∀ {ds : List D} {vs : List V} {F : List Addr}, RpAll K H ds vs F → ∀ a ∈ F, ∃ x, H a = some x
  | [], _, _, h, a, m => by simp only [RpAll] at h; rw [h.2] at m; cases m
  | d :: ds, _, _, h, a, m => by
    simp only [RpAll] at h
    obtain ⟨v, vr, G1, G2, rfl, rfl, h1, h2⟩ := h
    rcases List.mem_append.mp m with z | z
    · exact Rp.dom h1 a z
    · exact RpAll.dom h2 a z
theorem RpKv.dom : ∀ {ds : List (D × D)} {vs : List (D × V)} {F : List Addr}, RpKv K H ds vs F → ∀ a ∈ F, ∃ x, H a = some x
  | [], _, _, h, a, m => by simp only [RpKv] at h; rw [h.2] at m; cases m
  | (k, d) :: ds, _, _, h, a, m => by
    simp only [RpKv] at h
    obtain ⟨v, vr, G1, G2, rfl, rfl, h1, h2⟩ := h
    rcases List.mem_append.mp m with z | z
    · exact Rp.dom h1 a z
    · exact RpKv.dom h2 a z
end

theorem RpAll.len : ∀ {ds : List D} {vs : List V} {F : List Addr}, RpAll K H ds vs F → ds.length = vs.length
  | [], _, _, h => by simp only [RpAll] at h; rw [h.1]; rfl
  | d :: ds, _, _, h => by
    simp only [RpAll] at h
    obtain ⟨v, vr, G1, G2, rfl, rfl, h1, h2⟩ := h
    simp [RpAll.len h2]
theorem RpAll.get : ∀ {ds : List D} {vs : List V} {F : List Addr} {i : Nat} {d : D}, RpAll K H ds vs F → ds[i]? = some d → ∃ v G, vs[i]? = some v ∧ Rp K H d v G ∧ ∀ a ∈ G, a ∈ F
  | [], _, _, _, _, _, e => by simp at e
  | d :: ds, _, _, i, d', h, e => by
    simp only [RpAll] at h
    obtain ⟨v, vr, G1, G2, rfl, rfl, h1, h2⟩ := h
    cases i with
    | zero =>
      simp at e
      subst e
      exact ⟨v, G1, by simp, h1, fun a ha => List.mem_append_left _ ha⟩
    | succ i =>
      obtain ⟨v', G, e1, r, s⟩ := RpAll.get h2 (by simpa using e)
      exact ⟨v', G, by simpa using e1, r, fun a ha => List.mem_append_right _ (s a ha)⟩
theorem RpAll.append : ∀ {ds es : List D} {vs ws : List V} {F G : List Addr}, RpAll K H ds vs F → RpAll K H es ws G → RpAll K H (ds ++ es) (vs ++ ws) (F ++ G)
  | [], es, vs, ws, F, G, h, h' => by
    simp only [RpAll] at h
    obtain ⟨rfl, rfl⟩ := h
    simpa using h'
  | d :: ds, es, vs, ws, F, G, h, h' => by
    simp only [RpAll] at h
    obtain ⟨v, vr, G1, G2, rfl, rfl, h1, h2⟩ := h
    simp only [List.cons_append, RpAll]
    exact ⟨v, vr ++ ws, G1, G2 ++ G, rfl, by rw [List.append_assoc], h1, RpAll.append h2 h'⟩
theorem RpAll.one {d : D} {v : V} {F : List Addr} (h : Rp K H d v F) : RpAll K H [d] [v] F := by
  simp only [RpAll]
  exact ⟨v, [], F, [], rfl, by simp, h, rfl, rfl⟩
theorem RpAll.nil : RpAll K H [] [] [] := by simp [RpAll]
theorem RpAll.cons {d : D} {ds : List D} {v : V} {vs : List V} {F G : List Addr} (h : Rp K H d v F) (h' : RpAll K H ds vs G) : RpAll K H (d :: ds) (v :: vs) (F ++ G) := by
  simp only [RpAll]
  exact ⟨v, vs, F, G, rfl, rfl, h, h'⟩
/-- some of the items, in any choice by places -/
theorem RpAll.pick {ds : List D} {vs : List V} {F : List Addr} (h : RpAll K H ds vs F) : ∀ (es : List D) (ws : List V), es.length = ws.length → (∀ (i : Nat) (d : D), es[i]? = some d → ∃ j : Nat, ds[j]? = some d ∧ vs[j]? = ws[i]?) → ∃ G, RpAll K H es ws G ∧ ∀ a ∈ G, a ∈ F
  | [], ws, hl, _ => by
    have : ws = [] := List.eq_nil_of_length_eq_zero (by simpa using hl.symm)
    subst this
    exact ⟨[], .nil, fun _ z => by cases z⟩
  | e :: es, [], hl, _ => by simp at hl
  | e :: es, w :: ws, hl, hp => by
    obtain ⟨j, e1, e2⟩ := hp 0 e (by simp)
    obtain ⟨v, G, e3, r, s⟩ := h.get e1
    rw [e3] at e2
    simp at e2
    subst e2
    obtain ⟨G2, r2, s2⟩ := RpAll.pick h es ws (by simpa using hl) fun i d hd => by
      obtain ⟨j, q1, q2⟩ := hp (i + 1) d (by simpa using hd)
      exact ⟨j, q1, by simpa using q2⟩
    refine ⟨G ++ G2, .cons r r2, fun a ha => ?_⟩
    rcases List.mem_append.mp ha with z | z
    · exact s a z
    · exact s2 a z
theorem RpAll.take {ds : List D} {vs : List V} {F : List Addr} (h : RpAll K H ds vs F) (n : Nat) : ∃ G, RpAll K H (ds.take n) (vs.take n) G ∧ ∀ a ∈ G, a ∈ F := by
  refine h.pick _ _ (by simp [h.len]) fun i d hd => ⟨i, ?_, ?_⟩
  · rw [List.getElem?_take] at hd
    split at hd
    · exact hd
    · cases hd
  · rw [List.getElem?_take] at hd ⊢
    split at hd
    · rename_i q
      rw [if_pos q]
    · cases hd
theorem RpAll.drop {ds : List D} {vs : List V} {F : List Addr} (h : RpAll K H ds vs F) (n : Nat) : ∃ G, RpAll K H (ds.drop n) (vs.drop n) G ∧ ∀ a ∈ G, a ∈ F := by
  refine h.pick _ _ (by simp [h.len]) fun i d hd => ⟨n + i, ?_, ?_⟩
  · rw [List.getElem?_drop] at hd
    exact hd
  · rw [List.getElem?_drop]
end

/-! ### environments -/
abbrev En := List (Option D)
structure EnvOk (K : PySem.W.Frag) (H : Hp) (σ : Sg) (ρ : En) (Fs : List (List Addr)) : Prop where
  ls : σ.length = ρ.length
  lF : Fs.length = ρ.length
  dm : ∀ F ∈ Fs, ∀ a ∈ F, ∃ x, H a = some x
  get : ∀ (i : Nat) (d : D), ρ[i]? = some (some d) → ∃ v F, σ[i]? = some (some v) ∧ Fs[i]? = some F ∧ Rp K H d v F

/-- F comes of the slots lk, or is new -/
def Sub (F : List Addr) (Fs : List (List Addr)) (lk : List Nat) (H : Hp) : Prop := ∀ a ∈ F, (∃ j ∈ lk, ∃ G, Fs[j]? = some G ∧ a ∈ G) ∨ H a = none
theorem Sub.nil {Fs : List (List Addr)} {lk : List Nat} {H : Hp} : Sub [] Fs lk H := fun _ z => by cases z
theorem Sub.mono {F : List Addr} {Fs : List (List Addr)} {lk lk' : List Nat} {H : Hp} (h : Sub F Fs lk H) (hl : ∀ j ∈ lk, j ∈ lk') : Sub F Fs lk' H := fun a ha => by
  rcases h a ha with ⟨j, hj, G, e, m⟩ | z
  · exact .inl ⟨j, hl j hj, G, e, m⟩
  · exact .inr z
theorem Sub.back {F : List Addr} {Fs : List (List Addr)} {lk : List Nat} {H H1 : Hp} (h : Sub F Fs lk H1) (e : Same H H1) : Sub F Fs lk H := fun a ha => by
  rcases h a ha with z | z
  · exact .inl z
  · exact .inr (e.free z)
theorem Sub.of {F G : List Addr} {Fs : List (List Addr)} {lk : List Nat} {H : Hp} (h : Sub F Fs lk H) (s : ∀ a ∈ G, a ∈ F) : Sub G Fs lk H := fun a ha => h a (s a ha)
theorem Sub.app {F G : List Addr} {Fs : List (List Addr)} {lk : List Nat} {H : Hp} (h : Sub F Fs lk H) (h' : Sub G Fs lk H) : Sub (F ++ G) Fs lk H := fun a ha => (List.mem_append.mp ha).elim (h a) (h' a)
theorem Sub.left {F : List Addr} {Fs : List (List Addr)} {l m : List Nat} {H : Hp} (h : Sub F Fs l H) : Sub F Fs (l ++ m) H := h.mono fun _ z => List.mem_append_left _ z
theorem Sub.right {F : List Addr} {Fs : List (List Addr)} {l m : List Nat} {H : Hp} (h : Sub F Fs m H) : Sub F Fs (l ++ m) H := h.mono fun _ z => List.mem_append_right _ z

theorem EnvOk.ext {K : PySem.W.Frag} {H H' : Hp} {σ : Sg} {ρ : En} {Fs : List (List Addr)} {N : Addr → Prop} (h : EnvOk K H σ ρ Fs) (e : Ext N H H') (n : ∀ F ∈ Fs, ∀ a ∈ F, ¬ N a) : EnvOk K H' σ ρ Fs :=
  ⟨h.ls, h.lF, fun F hF a ha => let ⟨x, q⟩ := h.dm F hF a ha; e.stay a x q, fun i d hd => by
    obtain ⟨v, F, e1, e2, r⟩ := h.get i d hd
    exact ⟨v, F, e1, e2, Rp.ext e d v F (n F (List.mem_of_getElem? e2)) r⟩⟩
theorem EnvOk.same {K : PySem.W.Frag} {H H' : Hp} {σ : Sg} {ρ : En} {Fs : List (List Addr)} (h : EnvOk K H σ ρ Fs) (e : Same H H') : EnvOk K H' σ ρ Fs := h.ext (N := fun _ => False) (.of e) fun _ _ _ _ z => z
/-- a slot is given a value -/
theorem EnvOk.set {K : PySem.W.Frag} {H : Hp} {σ : Sg} {ρ : En} {Fs : List (List Addr)} {i : Nat} {d : D} {v : V} {F : List Addr} (h : EnvOk K H σ ρ Fs) (r : Rp K H d v F) : EnvOk K H (σ.set i (some v)) (ρ.set i (some d)) (Fs.set i F) := by
  refine ⟨by simp [h.ls], by simp [h.lF], fun G hG a ha => ?_, fun j d' hd => ?_⟩
  · rcases List.mem_or_eq_of_mem_set hG with z | z
    · exact h.dm G z a ha
    · rw [z] at ha
      exact r.dom a ha
  by_cases hj : i = j
  · subst hj
    have hl : i < ρ.length := by
      have := (List.getElem?_eq_some_iff.mp hd).1
      simpa using this
    rw [List.getElem?_set_self hl] at hd
    cases hd
    exact ⟨v, F, List.getElem?_set_self (by rw [h.ls]; exact hl), List.getElem?_set_self (by rw [h.lF]; exact hl), r⟩
  · rw [List.getElem?_set_ne hj] at hd
    obtain ⟨w, G, e1, e2, q⟩ := h.get j d' hd
    exact ⟨w, G, by rw [List.getElem?_set_ne hj]; exact e1, by rw [List.getElem?_set_ne hj]; exact e2, q⟩

/-! ### the wish of exceptions -/
/-- an own error of class c with the number n, at the top's name of the class -/
def IsX (mg : Str → Option Value) (H : Hp) (cls : Value) (dd : Option Addr) (c : String) (n : Int) : Prop :=
  mg (Str.ofString c) = some cls ∧ ∃ d, dd = some d ∧ H d = some (.xd [("at", .int n)])

def EndE (K : PySem.W.Frag) (mg : Str → Option Value) (W : XK) (Fs : List (List Addr)) (lk : List Nat) (H : Hp) (Q : VK) : R D → Prop
  | .ok d => ∀ v H' F, Same H H' → Rp K H' d v F → Sub F Fs lk H → Q v H'
  | .rs c n => ∀ cls dd H', Same H H' → IsX mg H' cls dd c n → W cls dd H'
  | .st => False
def tE (X : Cx) (W : XK) (f : En → R D) (lk : List Nat) : TE := fun σ H Q => ∃ ρ Fs, EnvOk X.K H σ ρ Fs ∧ EndE X.K X.mg W Fs lk H Q (f ρ)
/-- the expression e is worth f; its lists come of the slots lk or are new -/
structure SE (X : Cx) (W : XK) (e : Expr) (f : En → R D) (lk : List Nat) : Prop where
  pe : PE X e (tE X W f lk)

def EndA (K : PySem.W.Frag) (mg : Str → Option Value) (W : XK) (Fs : List (List Addr)) (lk : List Nat) (H : Hp) (Q : List V → Hp → Prop) : R (List D) → Prop
  | .ok d => ∀ v H' F, Same H H' → RpAll K H' d v F → Sub F Fs lk H → Q v H'
  | .rs c n => ∀ cls dd H', Same H H' → IsX mg H' cls dd c n → W cls dd H'
  | .st => False
def tA (X : Cx) (W : XK) (f : En → R (List D)) (lk : List Nat) : TA := fun σ H Q => ∃ ρ Fs, EnvOk X.K H σ ρ Fs ∧ EndA X.K X.mg W Fs lk H Q (f ρ)
structure SA (X : Cx) (W : XK) (es : List Expr) (f : En → R (List D)) (lk : List Nat) : Prop where
  pa : PA X es (tA X W f lk)

/-- a rule of the layer, weakened -/
theorem PE.imp {X : Cx} {e : Expr} {t t' : TE} (h : PE X e t) (i : ∀ σ H Q, t' σ H Q → t σ H Q) : PE X e t' := ⟨fun pins s σ H Q I q => h.run pins s σ H Q I (i σ H Q q)⟩
theorem PA.imp {X : Cx} {e : List Expr} {t t' : TA} (h : PA X e t) (i : ∀ σ H Q, t' σ H Q → t σ H Q) : PA X e t' := ⟨fun pos pins s σ H Q I q => h.run pos pins s σ H Q I (i σ H Q q)⟩
theorem PS.imp {X : Cx} {e : Stmt} {t t' : TS} (h : PS X e t) (i : ∀ D σ H, t' D σ H → t D σ H) : PS X e t' := ⟨fun pins s σ H Q I q => h.run pins s σ H Q I (i Q σ H q)⟩
theorem PSs.imp {X : Cx} {e : List Stmt} {t t' : TS} (h : PSs X e t) (i : ∀ D σ H, t' D σ H → t D σ H) : PSs X e t' := ⟨fun pins s σ H Q I q => h.run pins s σ H Q I (i Q σ H q)⟩

theorem EndE.mono {K : PySem.W.Frag} {mg : Str → Option Value} {W : XK} {Fs : List (List Addr)} {lk : List Nat} {H H1 : Hp} {Q : VK} {r : R D} (h : EndE K mg W Fs lk H Q r) (e : Same H H1) : EndE K mg W Fs lk H1 Q r := by
  cases r with
  | ok d => exact fun v H' F e' r s => h v H' F (e.trans e') r (s.back e)
  | rs c n => exact fun cls dd H' e' x => h cls dd H' (e.trans e') x
  | st => exact h
theorem EndE.lk {K : PySem.W.Frag} {mg : Str → Option Value} {W : XK} {Fs : List (List Addr)} {lk lk' : List Nat} {H : Hp} {Q : VK} {r : R D} (h : EndE K mg W Fs lk H Q r) (e : ∀ j ∈ lk', j ∈ lk) : EndE K mg W Fs lk' H Q r := by
  cases r with
  | ok d => exact fun v H' F e' r s => h v H' F e' r (s.mono e)
  | rs c n => exact h
  | st => exact h

/-- on from a base H0: first fa, then g -/
theorem tE_bind {X : Cx} {W : XK} {fa : En → R D} {la lk : List Nat} {σ : Sg} {ρ : En} {Fs : List (List Addr)} {H0 H : Hp} {Q P : VK} {g : D → R D} (s0 : Same H0 H) (ok : EnvOk X.K H σ ρ Fs) (hl : ∀ j ∈ la, j ∈ lk)
    (h : EndE X.K X.mg W Fs lk H0 Q ((fa ρ).bind g)) (k : ∀ d v H1 F, Same H0 H1 → Same H H1 → Rp X.K H1 d v F → Sub F Fs lk H0 → EndE X.K X.mg W Fs lk H0 Q (g d) → P v H1) : tE X W fa la σ H P := by
  refine ⟨ρ, Fs, ok, ?_⟩
  cases e : fa ρ with
  | ok d =>
    rw [e] at h
    exact fun v H' F e r s => k d v H' F (s0.trans e) e r ((s.back s0).mono hl) h
  | rs c n =>
    rw [e] at h
    exact fun cls dd H' e x => h cls dd H' (s0.trans e) x
  | st =>
    rw [e] at h
    exact h
theorem tA_bind {X : Cx} {W : XK} {fa : En → R (List D)} {la lk : List Nat} {σ : Sg} {ρ : En} {Fs : List (List Addr)} {H0 H : Hp} {Q : VK} {P : List V → Hp → Prop} {g : List D → R D} (s0 : Same H0 H) (ok : EnvOk X.K H σ ρ Fs) (hl : ∀ j ∈ la, j ∈ lk)
    (h : EndE X.K X.mg W Fs lk H0 Q ((fa ρ).bind g)) (k : ∀ d v H1 F, Same H0 H1 → Same H H1 → RpAll X.K H1 d v F → Sub F Fs lk H0 → EndE X.K X.mg W Fs lk H0 Q (g d) → P v H1) : tA X W fa la σ H P := by
  refine ⟨ρ, Fs, ok, ?_⟩
  cases e : fa ρ with
  | ok d =>
    rw [e] at h
    exact fun v H' F e r s => k d v H' F (s0.trans e) e r ((s.back s0).mono hl) h
  | rs c n =>
    rw [e] at h
    exact fun cls dd H' e x => h cls dd H' (s0.trans e) x
  | st =>
    rw [e] at h
    exact h
end Ev

/-! Ev, part B: names, constants, operators, subscripts, displays, calls of built-ins by values. -/
namespace Ev
open PySem PySem.Spec L2

/-! ### combinators -/
@[simp] def cV (i : Nat) : En → R D := fun ρ => match ρ[i]? with
  | some (some d) => .ok d
  | _ => .st
@[simp] def cC (d : D) : En → R D := fun _ => .ok d
@[simp] def c1 (g : D → R D) (a : En → R D) : En → R D := fun ρ => (a ρ).bind g
@[simp] def c2 (g : D → D → R D) (a b : En → R D) : En → R D := fun ρ => (a ρ).bind fun x => (b ρ).bind fun y => g x y
@[simp] def cA (g : List D → R D) (a : En → R (List D)) : En → R D := fun ρ => (a ρ).bind g
@[simp] def cM (g : D → List D → R D) (o : En → R D) (a : En → R (List D)) : En → R D := fun ρ => (o ρ).bind fun x => (a ρ).bind fun ds => g x ds
@[simp] def aN : En → R (List D) := fun _ => .ok []
@[simp] def aC (a : En → R D) (r : En → R (List D)) : En → R (List D) := fun ρ => (a ρ).bind fun x => (r ρ).bind fun xs => .ok (x :: xs)

section
variable {X : Cx} {W : XK} {e a b : Expr} {es : List Expr} {fa fb : En → R D} {fs : En → R (List D)} {la lb ls : List Nat} {pos : Pos}

theorem SE.lk {f : En → R D} {l l' : List Nat} (h : SE X W e f l) (hl : ∀ j ∈ l, j ∈ l') : SE X W e f l' :=
  ⟨PE.imp h.pe fun σ H Q ⟨ρ, Fs, ok, q⟩ => ⟨ρ, Fs, ok, q.lk hl⟩⟩

theorem se_v {i : Nat} {x : Str} (hN : X.N[i]? = some x) (hv : Vis X.env.scope x) (hd : (x == ("__debug__" : Str)) = false := by decide) (hcd : (x == ("__classdict__" : Str)) = false := by decide) : SE X W (.Name x pos) (cV i) [i] := by
  refine ⟨PE.imp (pe_var hN hv hd hcd) fun σ H Q h => ?_⟩
  obtain ⟨ρ, Fs, ok, h⟩ := h
  unfold cV at h
  cases e : ρ[i]? with
  | none => rw [e] at h; exact h.elim
  | some o =>
    cases o with
    | none => rw [e] at h; exact h.elim
    | some d =>
      rw [e] at h
      obtain ⟨v, F, e1, e2, r⟩ := ok.get i d e
      exact ⟨v, e1, h v H F (Same.refl H) r fun q hq => .inl ⟨i, by simp, F, e2, hq⟩⟩

theorem se_const {d : D} {v : V} {t : Expr} (h : PE X t (tC v)) (r : ∀ H, Rp X.K H d v []) : SE X W t (cC d) [] :=
  ⟨PE.imp h fun σ H Q ⟨ρ, Fs, ok, q⟩ => q v H [] (Same.refl H) (r H) .nil⟩
theorem se_int {i : Int} {j} : SE X W (.Constant (.int i) j pos) (cC (.int i)) [] := se_const pe_int fun H => by simp [Rp]
theorem se_bl {i : Bool} {j} : SE X W (.Constant (.bool i) j pos) (cC (.bl i)) [] := se_const pe_bl fun H => by simp [Rp]
theorem se_non {j} : SE X W (.Constant .none j pos) (cC .non) [] := se_const pe_non fun H => by simp [Rp]
theorem se_str {x : Str} {j} (s : List Nat) (hx : x = ⟨s.toArray⟩) (hs : okS s = true) : SE X W (.Constant (.str x) j pos) (cC (.str s)) [] := by
  subst hx
  exact se_const pe_str fun H => by simp [Rp, hs]
/-- a module's constant -/
theorem se_glob {x : Str} {v : V} {u : Value} (d : D) (hg : Gl X x) (hm : X.mg x = some u) (r : RelV v u) (hr : ∀ H, Rp X.K H d v []) (hd : (x == ("__debug__" : Str)) = false := by decide) : SE X W (.Name x pos) (cC d) [] :=
  se_const (pe_glob hg hm r hd) hr

/-! ### arguments -/
theorem sa_nil : SA X W [] aN [] := ⟨PA.imp pa_nil fun σ H Q ⟨ρ, Fs, ok, q⟩ => q [] H [] (Same.refl H) .nil .nil⟩
theorem sa_cons (ha : SE X W e fa la) (hr : SA X W es fs ls) (hs : starEach (e :: es) X.env = (false, eval e X.env) :: starEach es X.env := by rfl) : SA X W (e :: es) (aC fa fs) (la ++ ls) := by
  refine ⟨PA.imp (pa_cons ha.pe hr.pa hs) fun σ H Q h => ?_⟩
  obtain ⟨ρ, Fs, ok, h⟩ := h
  unfold aC at h
  refine ⟨ρ, Fs, ok, ?_⟩
  cases e1 : fa ρ with
  | rs c n => rw [e1] at h; exact h
  | st => rw [e1] at h; exact h
  | ok d =>
    rw [e1] at h
    intro v H1 F s1 r1 u1
    refine ⟨ρ, Fs, ok.same s1, ?_⟩
    cases e2 : fs ρ with
    | rs c n =>
      rw [R.bind, e2] at h
      exact fun cls dd H' s x => h cls dd H' (s1.trans s) x
    | st => rw [R.bind, e2] at h; exact h
    | ok ds =>
      rw [R.bind, e2] at h
      intro vs H2 G s2 r2 u2
      exact h (v :: vs) H2 (F ++ G) (s1.trans s2) (.cons (r1.same s2) r2) (.app u1.left (u2.back s1).right)

/-! ### operators by values -/
def Snd2 (X : Cx) (W : XK) (r : R2) (g : D → D → R D) : Prop := ∀ (H0 H : Hp) (x y : V) (d1 d2 : D) (F1 F2 : List Addr) (Q : VK) (Fs : List (List Addr)) (lk : List Nat), Same H0 H → Rp X.K H d1 x F1 → Rp X.K H d2 y F2 → Sub F1 Fs lk H0 → Sub F2 Fs lk H0 →
  EndE X.K X.mg W Fs lk H0 Q (g d1 d2) → r x y H Q
theorem snd_use {r : R2} {g : D → D → R D} (hg : Snd2 X W r g) (ha : SE X W a fa la) (hb : SE X W b fb lb) : ∀ σ H Q, tE X W (c2 g fa fb) (la ++ lb) σ H Q → tOp r (tE X W fa la) (tE X W fb lb) σ H Q := fun σ H Q h => by
  obtain ⟨ρ, Fs, ok, h⟩ := h
  refine tE_bind (Same.refl H) ok (fun j hj => List.mem_append_left _ hj) h fun d1 v1 H1 F1 s1 _ r1 u1 h1 => ?_
  refine tE_bind s1 (ok.same s1) (fun j hj => List.mem_append_right _ hj) h1 fun d2 v2 H2 F2 s2 s12 r2 u2 h2 => ?_
  exact hg H H2 v1 v2 d1 d2 F1 F2 Q Fs _ s2 (r1.same s12) r2 u1 u2 h2
theorem se_op {op : Operator} {r : R2} {g : D → D → R D} (ho : OpR X (binaryOp op) r) (hg : Snd2 X W r g) (ha : SE X W a fa la) (hb : SE X W b fb lb) : SE X W (.BinOp a op b pos) (c2 g fa fb) (la ++ lb) :=
  ⟨PE.imp (pe_op ho ha.pe hb.pe) (snd_use hg ha hb)⟩
theorem se_cmp {op : CmpOp} {r : R2} {g : D → D → R D} (ho : OpR X (compareOp op) r) (hg : Snd2 X W r g) (ha : SE X W a fa la) (hb : SE X W b fb lb) (hm : behindInMarks op b = false) : SE X W (.Compare a [op] [b] pos) (c2 g fa fb) (la ++ lb) :=
  ⟨PE.imp (pe_cmpR ho ha.pe hb.pe hm) (snd_use hg ha hb)⟩
theorem OpR.or {f : Value → Value → Sem Value} {r r' : R2} (h : OpR X f r) (h' : OpR X f r') : OpR X f (fun x y H Q => r x y H Q ∨ r' x y H Q) := fun pins s σ H x y v u Q I rx ry q =>
  q.elim (h pins s σ H x y v u Q I rx ry) (h' pins s σ H x y v u Q I rx ry)
theorem CallR.or {f : Value} {r r' : List V → Hp → VK → Prop} (h : CallR X f r) (h' : CallR X f r') : CallR X f (fun x H Q => r x H Q ∨ r' x H Q) := fun pins s σ H x v Q I rx q =>
  q.elim (h pins s σ H x v Q I rx) (h' pins s σ H x v Q I rx)

/-! ### new objects -/
theorem same_new {H : Hp} {p : Addr} {o : HO} (h : H p = none) : Same H (upd H p o) := fun b x q => by
  rw [upd_ne (ne_of_none q h)]
  exact q
theorem Rp.newL {K : PySem.W.Frag} {H : Hp} {p : Addr} {ds : List D} {xs : List V} {F : List Addr} (h : H p = none) (r : RpAll K H ds xs F) (l : ds.length ≤ big) : Rp K (upd H p (.lst xs)) (.lst ds) (.ref p) (p :: F) := by
  simp only [Rp]
  exact ⟨p, xs, F, rfl, rfl, upd_same, r.same (same_new h), l⟩
theorem Rp.newT {K : PySem.W.Frag} {H : Hp} {p : Addr} {ds : List D} {xs : List V} {F : List Addr} (h : H p = none) (r : RpAll K H ds xs F) (l : ds.length ≤ big) : Rp K (upd H p (.tup xs)) (.tup ds) (.ref p) F := by
  simp only [Rp]
  exact ⟨p, xs, rfl, .inl (.inl upd_same), r.same (same_new h), l⟩
theorem Sub.new {F : List Addr} {Fs : List (List Addr)} {lk : List Nat} {H0 H : Hp} {p : Addr} (h : Sub F Fs lk H0) (s : Same H0 H) (hp : H p = none) : Sub (p :: F) Fs lk H0 := fun a ha => by
  rcases List.mem_cons.mp ha with z | z
  · rw [z]
    exact .inr (s.free hp)
  · exact h a z
/-- an end at a new list, a new tuple -/
theorem EndE.newL {K : PySem.W.Frag} {mg : Str → Option Value} {Fs : List (List Addr)} {lk : List Nat} {H0 H : Hp} {Q : VK} {ds : List D} {xs : List V} {F : List Addr} {p : Addr} (h : EndE K mg W Fs lk H0 Q (.ok (.lst ds))) (s : Same H0 H) (r : RpAll K H ds xs F) (u : Sub F Fs lk H0) (hp : H p = none) (l : ds.length ≤ big) : Q (.ref p) (upd H p (.lst xs)) :=
  h _ _ _ (s.trans (same_new hp)) (.newL hp r l) (u.new s hp)
theorem EndE.newT {K : PySem.W.Frag} {mg : Str → Option Value} {Fs : List (List Addr)} {lk : List Nat} {H0 H : Hp} {Q : VK} {ds : List D} {xs : List V} {F : List Addr} {p : Addr} (h : EndE K mg W Fs lk H0 Q (.ok (.tup ds))) (s : Same H0 H) (r : RpAll K H ds xs F) (u : Sub F Fs lk H0) (hp : H p = none) (l : ds.length ≤ big) : Q (.ref p) (upd H p (.tup xs)) :=
  h _ _ _ (s.trans (same_new hp)) (.newT hp r l) u
theorem EndE.int {K : PySem.W.Frag} {mg : Str → Option Value} {Fs : List (List Addr)} {lk : List Nat} {H0 H : Hp} {Q : VK} {i : Int} (h : EndE K mg W Fs lk H0 Q (.ok (.int i))) (s : Same H0 H) : Q (.int i) H := h _ _ [] s (by simp [Rp]) .nil
theorem EndE.bl {K : PySem.W.Frag} {mg : Str → Option Value} {Fs : List (List Addr)} {lk : List Nat} {H0 H : Hp} {Q : VK} {i : Bool} (h : EndE K mg W Fs lk H0 Q (.ok (.bl i))) (s : Same H0 H) : Q (.bl i) H := h _ _ [] s (by simp [Rp]) .nil
theorem EndE.non {K : PySem.W.Frag} {mg : Str → Option Value} {Fs : List (List Addr)} {lk : List Nat} {H0 H : Hp} {Q : VK} (h : EndE K mg W Fs lk H0 Q (.ok .non)) (s : Same H0 H) : Q .non H := h _ _ [] s (by simp [Rp]) .nil
theorem EndE.str {K : PySem.W.Frag} {mg : Str → Option Value} {Fs : List (List Addr)} {lk : List Nat} {H0 H : Hp} {Q : VK} {t : List Nat} (h : EndE K mg W Fs lk H0 Q (.ok (.str t))) (s : Same H0 H) (o : okS t = true) : Q (.str ⟨t.toArray⟩) H := h _ _ [] s (by simp [Rp, o]) .nil

/-! ### + -/
def gAdd : D → D → R D
  | .int i, .int j => .ok (.int (i + j))
  | .str s, .str t => if s.length + t.length ≤ big then .ok (.str (s ++ t)) else .st
  | .lst s, .lst t => if s.length + t.length ≤ big then .ok (.lst (s ++ t)) else .st
  | .tup s, .tup t => if s.length + t.length ≤ big ∧ s ≠ [] then .ok (.tup (s ++ t)) else .st
  | _, _ => .st
def rAdd (K : PySem.W.Frag) : R2 := fun x y H Q => ((rI0 (fun i j => V.int (i + j)) x y H Q ∨ ∃ i j, x = .str i ∧ y = .str j ∧ i.length + j.length ≤ sizeLine ∧ Q (.str (i ++ j)) H) ∨ rCat x y H Q) ∨ rCatT K x y H Q
theorem or_add : OpR X (binaryOp .Add) (rAdd X.K) := ((op_add.or op_add_str).or op_cat).or op_catT
theorem okS_app {s t : List Nat} (h : okS s = true) (h' : okS t = true) (hl : s.length + t.length ≤ big) : okS (s ++ t) = true := by
  simp only [okS, Bool.and_eq_true, decide_eq_true_eq, List.all_append, List.length_append] at h h' ⊢
  exact ⟨⟨h.1, h'.1⟩, hl⟩
theorem snd_add : Snd2 X W (rAdd X.K) gAdd := fun H0 H x y d1 d2 F1 F2 Q Fs lk s r1 r2 u1 u2 h => by
  unfold gAdd at h
  split at h
  · simp only [Rp] at r1 r2
    obtain ⟨rfl, _⟩ := r1
    obtain ⟨rfl, _⟩ := r2
    exact .inl (.inl (.inl ⟨_, _, rfl, rfl, h.int s⟩))
  · rename_i a b
    split at h
    · rename_i hl
      simp only [Rp] at r1 r2
      obtain ⟨rfl, o1, _⟩ := r1
      obtain ⟨rfl, o2, _⟩ := r2
      refine .inl (.inl (.inr ⟨_, _, rfl, rfl, by rw [← big_line]; simpa [Str.length] using hl, ?_⟩))
      have := h.str s (okS_app o1 o2 hl)
      have e : (⟨a.toArray⟩ : Str) ++ (⟨b.toArray⟩ : Str) = ⟨(a ++ b).toArray⟩ := by
        show Str.append _ _ = _
        simp [Str.append]
      rw [e]
      exact this
    · exact h.elim
  · rename_i a b
    split at h
    · rename_i hl
      simp only [Rp] at r1 r2
      obtain ⟨p, xs, G, rfl, rfl, q, r, _⟩ := r1
      obtain ⟨p2, xs2, G2, rfl, rfl, q2, r2, _⟩ := r2
      exact .inl (.inr ⟨p, p2, xs, xs2, rfl, rfl, q, q2, by rw [← r.len, ← r2.len, ← big_line]; exact hl, fun c hc => h.newL s (r.append r2) (.app (u1.of fun _ z => List.mem_cons_of_mem _ z) (u2.of fun _ z => List.mem_cons_of_mem _ z)) hc (by rw [List.length_append]; exact hl)⟩)
    · exact h.elim
  · rename_i a b
    split at h
    · rename_i hl
      simp only [Rp] at r1 r2
      obtain ⟨p, xs, rfl, q, r, l1⟩ := r1
      obtain ⟨p2, xs2, rfl, q2, r2, _⟩ := r2
      refine .inr ⟨p, p2, xs, xs2, rfl, rfl, q, q2, fun z => ?_, by rw [← r.len, ← r2.len, ← big_line]; exact hl.1, fun z => ?_, fun z c hc => h.newT s (r.append r2) (.app u1 u2) hc (by rw [List.length_append]; exact hl.1)⟩
      · have := r.len
        rw [z] at this
        exact hl.2 (List.eq_nil_of_length_eq_zero (by simpa using this))
      · have l2 := r2.len
        rw [z] at l2
        have e2 : b = [] := List.eq_nil_of_length_eq_zero (by simpa using l2)
        subst e2
        refine h _ _ F1 s ?_ u1
        simp only [Rp, List.append_nil]
        exact ⟨p, xs, rfl, q, r, l1⟩
    · exact h.elim
  · exact h.elim

/-! ### ints -/
def gSub : D → D → R D
  | .int i, .int j => .ok (.int (i - j))
  | _, _ => .st
theorem snd_sub : Snd2 X W (rI0 fun i j => .int (i - j)) gSub := fun H0 H x y d1 d2 F1 F2 Q Fs lk s r1 r2 u1 u2 h => by
  unfold gSub at h
  split at h
  · simp only [Rp] at r1 r2
    obtain ⟨rfl, _⟩ := r1
    obtain ⟨rfl, _⟩ := r2
    exact ⟨_, _, rfl, rfl, h.int s⟩
  · exact h.elim
def gMul : D → D → R D
  | .int i, .int j => if (-18446744073709551616 < i ∧ i < 18446744073709551616) ∨ (-18446744073709551616 < j ∧ j < 18446744073709551616) then .ok (.int (i * j)) else .st
  | .lst s, .int j => if (-9223372036854775808 ≤ j ∧ j < 9223372036854775808) ∧ s.length * j.toNat ≤ big then .ok (.lst (List.replicate j.toNat s).flatten) else .st
  | _, _ => .st
theorem RpAll.rep {K : PySem.W.Frag} {H : Hp} {ds : List D} {xs : List V} {F : List Addr} (r : RpAll K H ds xs F) : ∀ n : Nat, ∃ G, RpAll K H (List.replicate n ds).flatten (List.replicate n xs).flatten G ∧ ∀ a ∈ G, a ∈ F
  | 0 => ⟨[], by simpa using .nil, fun _ z => by cases z⟩
  | n + 1 => by
    obtain ⟨G, r2, s⟩ := RpAll.rep r n
    refine ⟨F ++ G, ?_, fun a ha => (List.mem_append.mp ha).elim id (s a)⟩
    rw [List.replicate_succ, List.replicate_succ, List.flatten_cons, List.flatten_cons]
    exact r.append r2
def rMul : R2 := fun x y H Q => rI CMul (fun i j => V.int (i * j)) x y H Q ∨ rRep x y H Q
theorem lit_mul {i j : Int} (h : (-18446744073709551616 < i ∧ i < 18446744073709551616) ∨ (-18446744073709551616 < j ∧ j < 18446744073709551616)) : CMul i j := by
  have e : (2 : Int) ^ 64 = 18446744073709551616 := by decide
  unfold CMul
  rw [e]
  exact h
theorem snd_mul : Snd2 X W rMul gMul := fun H0 H x y d1 d2 F1 F2 Q Fs lk s r1 r2 u1 u2 h => by
  unfold gMul at h
  split at h
  · split at h
    · rename_i hc
      simp only [Rp] at r1 r2
      obtain ⟨rfl, _⟩ := r1
      obtain ⟨rfl, _⟩ := r2
      exact .inl ⟨_, _, rfl, rfl, lit_mul hc, h.int s⟩
    · exact h.elim
  · split at h
    · rename_i hc
      simp only [Rp] at r1 r2
      obtain ⟨p, xs, G, rfl, rfl, q, r, _⟩ := r1
      obtain ⟨rfl, _⟩ := r2
      obtain ⟨G2, r3, s3⟩ := r.rep (Int.toNat _)
      have e63 : (2 : Int) ^ 63 = 9223372036854775808 := by decide
      exact .inr ⟨p, _, xs, rfl, rfl, q, by rw [e63]; exact hc.1.1, by rw [e63]; exact hc.1.2, by rw [← r.len, ← big_line]; exact hc.2, fun c hd => h.newL s r3 (u1.of fun _ z => List.mem_cons_of_mem _ (s3 _ z)) hd (by simpa [Nat.mul_comm] using hc.2)⟩
    · exact h.elim
  · exact h.elim
def gDiv : D → D → R D
  | .int i, .int j => if 0 < j ∧ j < 1073741824 then .ok (.int (i / j)) else .st
  | _, _ => .st
theorem snd_div : Snd2 X W (rI CDiv fun i j => .int (i / j)) gDiv := fun H0 H x y d1 d2 F1 F2 Q Fs lk s r1 r2 u1 u2 h => by
  unfold gDiv at h
  split at h
  · split at h
    · rename_i hc
      simp only [Rp] at r1 r2
      obtain ⟨rfl, _⟩ := r1
      obtain ⟨rfl, _⟩ := r2
      exact ⟨_, _, rfl, rfl, hc, h.int s⟩
    · exact h.elim
  · exact h.elim
def gMod : D → D → R D
  | .int i, .int j => if 0 < j then .ok (.int (i % j)) else .st
  | _, _ => .st
theorem snd_mod : Snd2 X W (rI (fun _ j => 0 < j) fun i j => .int (i % j)) gMod := fun H0 H x y d1 d2 F1 F2 Q Fs lk s r1 r2 u1 u2 h => by
  unfold gMod at h
  split at h
  · split at h
    · rename_i hc
      simp only [Rp] at r1 r2
      obtain ⟨rfl, _⟩ := r1
      obtain ⟨rfl, _⟩ := r2
      exact ⟨_, _, rfl, rfl, hc, h.int s⟩
    · exact h.elim
  · exact h.elim
def gPow : D → D → R D
  | .int i, .int j => if 0 ≤ j ∧ j ≤ 1000000 ∧ i.natAbs < 18446744073709551616 then .ok (.int (i ^ j.toNat)) else .st
  | _, _ => .st
theorem snd_pow : Snd2 X W (rI CPow fun i j => .int (i ^ j.toNat)) gPow := fun H0 H x y d1 d2 F1 F2 Q Fs lk s r1 r2 u1 u2 h => by
  unfold gPow at h
  split at h
  · split at h
    · rename_i hc
      simp only [Rp] at r1 r2
      obtain ⟨rfl, _⟩ := r1
      obtain ⟨rfl, _⟩ := r2
      have e64 : (2 : Nat) ^ 64 = 18446744073709551616 := by decide
      exact ⟨_, _, rfl, rfl, ⟨hc.1, hc.2.1, by rw [e64]; exact hc.2.2⟩, h.int s⟩
    · exact h.elim
  · exact h.elim
end
end Ev

/-! Ev, part C: comparisons, tests, and, or, not, subscripts, slices, displays. -/
namespace Ev
open PySem PySem.Spec L2

/-! ### == -/
mutual
def eqv : D → D → Bool
  | .non, .non => true
  | .bl a, .bl b => a == b
  | .bl a, .int j => (if a then 1 else 0) == j
  | .int i, .bl b => i == (if b then 1 else 0)
  | .int i, .int j => decide (i = j)
  | .str x, .str y => decide (x = y)
  | .lst xs, .lst ys => eqvAll xs ys
  | .tup xs, .tup ys => eqvAll xs ys
  | _, _ => false
def eqvAll : List D → List D → Bool
  | [], [] => true
  | x :: xs, y :: ys => eqv x y && eqvAll xs ys
  | _, _ => false
end

theorem str_inj {x y : List Nat} : ((⟨x.toArray⟩ : Str) = ⟨y.toArray⟩) ↔ x = y := by
  constructor
  · intro h
    injection h with h
    simpa using h
  · intro h
    rw [h]
theorem str_beq {x y : List Nat} : ((⟨x.toArray⟩ : Str) == ⟨y.toArray⟩) = decide (x = y) := by
  rw [Bool.eq_iff_iff]
  simp only [beq_iff_eq, decide_eq_true_eq]
  exact str_inj
theorem int_beq {i j : Int} : (i == j) = decide (i = j) := by
  rw [Bool.eq_iff_iff]
  simp
mutual
theorem eqv_py : ∀ x y : D, flat x = true → flat y = true → PyData.eqv (toPy x) (toPy y) = eqv x y
  | .lst xs, y, h1, h2 => by
    cases y <;> simp only [toPy, PyData.eqv, eqv, flat, Bool.false_eq_true] at h1 h2 ⊢
    exact eqvAll_py _ _ h1 h2
  | .tup xs, y, h1, h2 => by
    cases y <;> simp only [toPy, PyData.eqv, eqv, flat, Bool.false_eq_true] at h1 h2 ⊢
    exact eqvAll_py _ _ h1 h2
  | .non, y, h1, h2 => by cases y <;> simp only [toPy, PyData.eqv, eqv, flat, Bool.false_eq_true] at h1 h2 ⊢
  | .bl _, y, h1, h2 => by cases y <;> simp only [toPy, PyData.eqv, eqv, flat, Bool.false_eq_true] at h1 h2 ⊢
  | .int _, y, h1, h2 => by cases y <;> simp only [toPy, PyData.eqv, eqv, flat, Bool.false_eq_true, int_beq] at h1 h2 ⊢
  | .str _, y, h1, h2 => by cases y <;> simp only [toPy, PyData.eqv, eqv, flat, Bool.false_eq_true, str_beq] at h1 h2 ⊢
  | .dct _, y, h1, h2 => by simp only [flat, Bool.false_eq_true] at h1
  | .exc _ _, y, h1, h2 => by simp only [flat, Bool.false_eq_true] at h1
  | .scr _, y, h1, h2 => by simp only [flat, Bool.false_eq_true] at h1
  | .rep _, y, h1, h2 => by simp only [flat, Bool.false_eq_true] at h1
theorem eqvAll_py : ∀ xs ys : List D, flatAll xs = true → flatAll ys = true → PyData.eqvAll (toPyAll xs) (toPyAll ys) = eqvAll xs ys
  | [], ys, h1, h2 => by cases ys <;> simp only [toPyAll, PyData.eqvAll, eqvAll]
  | x :: xs, ys, h1, h2 => by
    cases ys with
    | nil => simp only [toPyAll, PyData.eqvAll, eqvAll]
    | cons y ys =>
      simp only [flatAll, Bool.and_eq_true] at h1 h2
      simp only [toPyAll, PyData.eqvAll, eqvAll, eqv_py x y h1.1 h2.1, eqvAll_py xs ys h1.2 h2.2]
end
mutual
theorem dep_py : ∀ x : D, flat x = true → (toPy x).depth = dep x
  | .lst xs, h => by
    simp only [flat] at h
    simp only [toPy, PyData.depth, dep, depAll_py xs h]
  | .tup xs, h => by
    simp only [flat] at h
    simp only [toPy, PyData.depth, dep, depAll_py xs h]
  | .non, _ => by simp only [toPy, PyData.depth, dep]
  | .bl _, _ => by simp only [toPy, PyData.depth, dep]
  | .int _, _ => by simp only [toPy, PyData.depth, dep]
  | .str _, _ => by simp only [toPy, PyData.depth, dep]
  | .dct _, h => by simp only [flat, Bool.false_eq_true] at h
  | .exc _ _, h => by simp only [flat, Bool.false_eq_true] at h
  | .scr _, h => by simp only [flat, Bool.false_eq_true] at h
  | .rep _, h => by simp only [flat, Bool.false_eq_true] at h
theorem depAll_py : ∀ xs : List D, flatAll xs = true → PyData.depthAll (toPyAll xs) = depAll xs
  | [], _ => by simp only [toPyAll, PyData.depthAll, depAll]
  | x :: xs, h => by
    simp only [flatAll, Bool.and_eq_true] at h
    simp only [toPyAll, PyData.depthAll, depAll, dep_py x h.1, depAll_py xs h.2]
end
section
variable {K : PySem.W.Frag} {H : Hp}
theorem strOk_of {s : List Nat} (h : okS s = true) : PyData.strOk ⟨s.toArray⟩ = true := by
  unfold okS at h
  simp only [Bool.and_eq_true] at h
  unfold PyData.strOk
  rw [← Array.all_toList]
  exact h.1
mutual
theorem lay_py : ∀ (x : D) (v : V) (F : List Addr), flat x = true → Rp K H x v F → (toPy x).canLay0 = true
  | .lst xs, v, F, h, r => by
    simp only [flat] at h
    simp only [Rp] at r
    obtain ⟨a, ys, G, _, _, _, r, _⟩ := r
    simp only [toPy, PyData.canLay0]
    exact layAll_py xs ys G h r
  | .tup xs, v, F, h, r => by
    simp only [flat] at h
    simp only [Rp] at r
    obtain ⟨a, ys, _, _, r, _⟩ := r
    simp only [toPy, PyData.canLay0]
    exact layAll_py xs ys F h r
  | .non, _, _, _, _ => by simp only [toPy, PyData.canLay0]
  | .bl _, _, _, _, _ => by simp only [toPy, PyData.canLay0]
  | .int _, _, _, _, _ => by simp only [toPy, PyData.canLay0]
  | .str _, _, _, _, r => by
    simp only [Rp] at r
    simp only [toPy, PyData.canLay0]
    exact strOk_of r.2.1
  | .dct _, _, _, h, _ => by simp only [flat, Bool.false_eq_true] at h
  | .exc _ _, _, _, h, _ => by simp only [flat, Bool.false_eq_true] at h
  | .scr _, _, _, h, _ => by simp only [flat, Bool.false_eq_true] at h
  | .rep _, _, _, h, _ => by simp only [flat, Bool.false_eq_true] at h
theorem layAll_py : ∀ (xs : List D) (vs : List V) (F : List Addr), flatAll xs = true → RpAll K H xs vs F → PyData.canLayAll0 (toPyAll xs) = true
  | [], _, _, _, _ => by simp only [toPyAll, PyData.canLayAll0]
  | x :: xs, vs, F, h, r => by
    simp only [flatAll, Bool.and_eq_true] at h
    simp only [RpAll] at r
    obtain ⟨v, vr, G1, G2, _, _, r1, r2⟩ := r
    simp only [toPyAll, PyData.canLayAll0, lay_py x v G1 h.1 r1, layAll_py xs vr G2 h.2 r2, Bool.and_self]
end
mutual
theorem dp_py : ∀ (x : D) (v : V) (F : List Addr), flat x = true → Rp K H x v F → Dp K H v (toPy x)
  | .lst xs, v, F, h, r => by
    simp only [flat] at h
    simp only [Rp] at r
    obtain ⟨a, ys, G, rfl, _, q, r, _⟩ := r
    simp only [toPy]
    exact .lst (.inl (.inl q)) (dpAll_py xs ys G h r)
  | .tup xs, v, F, h, r => by
    simp only [flat] at h
    simp only [Rp] at r
    obtain ⟨a, ys, rfl, q, r, _⟩ := r
    simp only [toPy]
    exact .tup q (dpAll_py xs ys F h r)
  | .non, _, _, _, r => by
    simp only [Rp] at r
    obtain ⟨rfl, _⟩ := r
    simp only [toPy]
    exact .non
  | .bl _, _, _, _, r => by
    simp only [Rp] at r
    obtain ⟨rfl, _⟩ := r
    simp only [toPy]
    exact .bl _
  | .int _, _, _, _, r => by
    simp only [Rp] at r
    obtain ⟨rfl, _⟩ := r
    simp only [toPy]
    exact .int _
  | .str _, _, _, _, r => by
    simp only [Rp] at r
    obtain ⟨rfl, _⟩ := r
    simp only [toPy]
    exact .str _
  | .dct _, _, _, h, _ => by simp only [flat, Bool.false_eq_true] at h
  | .exc _ _, _, _, h, _ => by simp only [flat, Bool.false_eq_true] at h
  | .scr _, _, _, h, _ => by simp only [flat, Bool.false_eq_true] at h
  | .rep _, _, _, h, _ => by simp only [flat, Bool.false_eq_true] at h
theorem dpAll_py : ∀ (xs : List D) (vs : List V) (F : List Addr), flatAll xs = true → RpAll K H xs vs F → DpAll K H vs (toPyAll xs)
  | [], _, _, _, r => by
    simp only [RpAll] at r
    obtain ⟨rfl, _⟩ := r
    simp only [toPyAll]
    exact .nil
  | x :: xs, vs, F, h, r => by
    simp only [flatAll, Bool.and_eq_true] at h
    simp only [RpAll] at r
    obtain ⟨v, vr, G1, G2, rfl, _, r1, r2⟩ := r
    simp only [toPyAll]
    exact .cons (dp_py x v G1 h.1 r1) (dpAll_py xs vr G2 h.2 r2)
end
end
/-- comparable: no dict within, not deep -/
def cmpOk (x : D) : Bool := flat x && decide (dep x ≤ 60)
theorem shaped_py {K : PySem.W.Frag} {H : Hp} {x : D} {v : V} {F : List Addr} (h : cmpOk x = true) (r : Rp K H x v F) : Dp K H v (toPy x) ∧ SeqAt.shaped (toPy x) = true ∧ flat x = true := by
  unfold cmpOk at h
  simp only [Bool.and_eq_true, decide_eq_true_eq] at h
  refine ⟨dp_py x v F h.1 r, ?_, h.1⟩
  unfold SeqAt.shaped
  rw [lay_py x v F h.1 r, dep_py x h.1, decide_eq_true (by omega)]
  rfl

section
variable {X : Cx} {W : XK} {e a b c : Expr} {es : List Expr} {fa fb fc : En → R D} {fs : En → R (List D)} {la lb lc ls : List Nat} {pos : Pos}

/- the same data -/
mutual
def idn : D → D → Bool
  | .non, .non => true
  | .bl a, .bl b => a == b
  | .int i, .int j => decide (i = j)
  | .str x, .str y => decide (x = y)
  | .lst xs, .lst ys => idnAll xs ys
  | .tup xs, .tup ys => idnAll xs ys
  | _, _ => false
def idnAll : List D → List D → Bool
  | [], [] => true
  | x :: xs, y :: ys => idn x y && idnAll xs ys
  | _, _ => false
end
mutual
theorem idn_eq : ∀ x y : D, idn x y = true → x = y
  | .lst xs, y, h => by
    cases y <;> simp only [idn, Bool.false_eq_true] at h
    rw [idnAll_eq _ _ h]
  | .tup xs, y, h => by
    cases y <;> simp only [idn, Bool.false_eq_true] at h
    rw [idnAll_eq _ _ h]
  | .non, y, h => by
    cases y <;> simp only [idn, Bool.false_eq_true] at h
    rfl
  | .bl _, y, h => by
    cases y <;> simp only [idn, Bool.false_eq_true, beq_iff_eq] at h
    rw [h]
  | .int _, y, h => by
    cases y <;> simp only [idn, Bool.false_eq_true, decide_eq_true_eq] at h
    rw [h]
  | .str _, y, h => by
    cases y <;> simp only [idn, Bool.false_eq_true, decide_eq_true_eq] at h
    rw [h]
  | .dct _, y, h => by simp only [idn, Bool.false_eq_true] at h
  | .exc _ _, y, h => by simp only [idn, Bool.false_eq_true] at h
  | .scr _, y, h => by simp only [idn, Bool.false_eq_true] at h
  | .rep _, y, h => by simp only [idn, Bool.false_eq_true] at h
theorem idnAll_eq : ∀ xs ys : List D, idnAll xs ys = true → xs = ys
  | [], ys, h => by
    cases ys with
    | nil => rfl
    | cons y ys => simp only [idnAll, Bool.false_eq_true] at h
  | x :: xs, ys, h => by
    cases ys with
    | nil => simp only [idnAll, Bool.false_eq_true] at h
    | cons y ys =>
      simp only [idnAll, Bool.and_eq_true] at h
      rw [idn_eq _ _ h.1, idnAll_eq _ _ h.2]
end
mutual
theorem idn_refl : ∀ x : D, flat x = true → idn x x = true
  | .lst xs, h => by
    simp only [flat] at h
    simp only [idn, idnAll_refl xs h]
  | .tup xs, h => by
    simp only [flat] at h
    simp only [idn, idnAll_refl xs h]
  | .non, _ => by simp only [idn]
  | .bl _, _ => by simp only [idn, beq_self_eq_true]
  | .int _, _ => by simp only [idn, decide_true]
  | .str _, _ => by simp only [idn, decide_true]
  | .dct _, h => by simp only [flat, Bool.false_eq_true] at h
  | .exc _ _, h => by simp only [flat, Bool.false_eq_true] at h
  | .scr _, h => by simp only [flat, Bool.false_eq_true] at h
  | .rep _, h => by simp only [flat, Bool.false_eq_true] at h
theorem idnAll_refl : ∀ xs : List D, flatAll xs = true → idnAll xs xs = true
  | [], _ => by simp only [idnAll]
  | x :: xs, h => by
    simp only [flatAll, Bool.and_eq_true] at h
    simp only [idnAll, idn_refl x h.1, idnAll_refl xs h.2, Bool.and_self]
end
/-- texts of repr are compared only where they are alike -/
def gEq : D → D → R D
  | .rep a, .rep b => if idn a b then .ok (.bl true) else .st
  | x, y => if cmpOk x && cmpOk y then .ok (.bl (eqv x y)) else .st
def gNe : D → D → R D
  | .rep a, .rep b => if idn a b then .ok (.bl false) else .st
  | x, y => if cmpOk x && cmpOk y then .ok (.bl (!eqv x y)) else .st
def rEqA (K : PySem.W.Frag) : R2 := fun x y H Q => rEqD K x y H Q ∨ rEq x y H Q
def rNeA (K : PySem.W.Frag) : R2 := fun x y H Q => rNeD K x y H Q ∨ rNe x y H Q
theorem or_eqA (hu : X.A.units + 64 < cLine) : OpR X (compareOp .Eq) (rEqA X.K) := (op_eqD hu).or op_eq
theorem or_neA (hu : X.A.units + 64 < cLine) : OpR X (compareOp .NotEq) (rNeA X.K) := (op_neD hu).or op_ne
theorem snd_eq : Snd2 X W (rEqA X.K) gEq := fun H0 H x y d1 d2 F1 F2 Q Fs lk s r1 r2 u1 u2 h => by
  unfold gEq at h
  split at h
  · split at h
    · rename_i e
      have e := idn_eq _ _ e
      subst e
      simp only [Rp] at r1 r2
      obtain ⟨rfl, _⟩ := r1
      obtain ⟨rfl, _⟩ := r2
      exact .inr ⟨rfl, by rw [decide_eq_true rfl]; exact h.bl s⟩
    · exact h.elim
  · split at h
    · rename_i hc
      simp only [Bool.and_eq_true] at hc
      obtain ⟨p1, s1, f1⟩ := shaped_py hc.1 r1
      obtain ⟨p2, s2, f2⟩ := shaped_py hc.2 r2
      exact .inl ⟨_, _, p1, p2, s1, s2, by rw [eqv_py _ _ f1 f2]; exact h.bl s⟩
    · exact h.elim
theorem snd_ne : Snd2 X W (rNeA X.K) gNe := fun H0 H x y d1 d2 F1 F2 Q Fs lk s r1 r2 u1 u2 h => by
  unfold gNe at h
  split at h
  · split at h
    · rename_i e
      have e := idn_eq _ _ e
      subst e
      simp only [Rp] at r1 r2
      obtain ⟨rfl, _⟩ := r1
      obtain ⟨rfl, _⟩ := r2
      exact .inr ⟨rfl, by rw [decide_eq_true rfl]; exact h.bl s⟩
    · exact h.elim
  · split at h
    · rename_i hc
      simp only [Bool.and_eq_true] at hc
      obtain ⟨p1, s1, f1⟩ := shaped_py hc.1 r1
      obtain ⟨p2, s2, f2⟩ := shaped_py hc.2 r2
      exact .inl ⟨_, _, p1, p2, s1, s2, by rw [eqv_py _ _ f1 f2]; exact h.bl s⟩
    · exact h.elim

/-! ### < and its like on ints and texts -/
def rOrd (p : Int → Int → Bool) (q : List Nat → List Nat → Bool) : R2 := fun x y H Q => rI0 (fun i j => V.bl (p i j)) x y H Q ∨ ∃ i j, x = .str i ∧ y = .str j ∧ Q (.bl (q i.cps.toList j.cps.toList)) H
def gOrd (p : Int → Int → Bool) (q : List Nat → List Nat → Bool) : D → D → R D
  | .int i, .int j => .ok (.bl (p i j))
  | .str i, .str j => .ok (.bl (q i j))
  | _, _ => .st
theorem snd_ord {p : Int → Int → Bool} {q : List Nat → List Nat → Bool} : Snd2 X W (rOrd p q) (gOrd p q) := fun H0 H x y d1 d2 F1 F2 Q Fs lk s r1 r2 u1 u2 h => by
  unfold gOrd at h
  split at h
  · simp only [Rp] at r1 r2
    obtain ⟨rfl, _⟩ := r1
    obtain ⟨rfl, _⟩ := r2
    exact .inl ⟨_, _, rfl, rfl, h.bl s⟩
  · simp only [Rp] at r1 r2
    obtain ⟨rfl, _⟩ := r1
    obtain ⟨rfl, _⟩ := r2
    exact .inr ⟨_, _, rfl, rfl, h.bl s⟩
  · exact h.elim
abbrev gLt := gOrd (fun i j => decide (i < j)) (fun i j => decide (i < j))
abbrev gLe := gOrd (fun i j => decide (i ≤ j)) (fun i j => !decide (j < i))
abbrev gGt := gOrd (fun i j => decide (i > j)) (fun i j => decide (j < i))
abbrev gGe := gOrd (fun i j => decide (i ≥ j)) (fun i j => !decide (i < j))
theorem or_lt : OpR X (compareOp .Lt) (rOrd (fun i j => decide (i < j)) (fun i j => decide (i < j))) := op_lt.or op_lt_str
theorem or_le : OpR X (compareOp .LtE) (rOrd (fun i j => decide (i ≤ j)) (fun i j => !decide (j < i))) := op_le.or op_le_str
theorem or_gt : OpR X (compareOp .Gt) (rOrd (fun i j => decide (i > j)) (fun i j => decide (j < i))) := op_gt.or op_gt_str
theorem or_ge : OpR X (compareOp .GtE) (rOrd (fun i j => decide (i ≥ j)) (fun i j => !decide (i < j))) := op_ge.or op_ge_str

/-! ### is None -/
def isNon : D → Bool
  | .non => true
  | _ => false
def gIs : D → D → R D
  | x, .non => .ok (.bl (isNon x))
  | _, _ => .st
def gIsNot : D → D → R D
  | x, .non => .ok (.bl (!isNon x))
  | _, _ => .st
theorem non_iff {K : PySem.W.Frag} {H : Hp} {x : D} {v : V} {F : List Addr} (r : Rp K H x v F) : decide (v = .non) = isNon x := by
  cases x <;> simp only [Rp] at r
  case non => rw [r.1]; rfl
  case bl => rw [r.1]; rfl
  case int => rw [r.1]; rfl
  case str => rw [r.1]; rfl
  case lst => obtain ⟨a, _, _, rfl, _⟩ := r; rfl
  case tup => obtain ⟨a, _, rfl, _⟩ := r; rfl
  case dct => obtain ⟨a, _, _, rfl, _⟩ := r; rfl
  case scr => obtain ⟨a, rfl, _⟩ := r; rfl
  case rep => rw [r.1]; rfl
theorem snd_is : Snd2 X W (fun x y H Q => y = .non ∧ Q (.bl (decide (x = .non))) H) gIs := fun H0 H x y d1 d2 F1 F2 Q Fs lk s r1 r2 u1 u2 h => by
  unfold gIs at h
  split at h
  · rw [non_iff r1]
    simp only [Rp] at r2
    exact ⟨r2.1, h.bl s⟩
  · exact h.elim
theorem snd_isNot : Snd2 X W (fun x y H Q => y = .non ∧ Q (.bl (!decide (x = .non))) H) gIsNot := fun H0 H x y d1 d2 F1 F2 Q Fs lk s r1 r2 u1 u2 h => by
  unfold gIsNot at h
  split at h
  · rw [non_iff r1]
    simp only [Rp] at r2
    exact ⟨r2.1, h.bl s⟩
  · exact h.elim

/-! ### in -/
def gIn : D → D → R D
  | .str [c], .str t => .ok (.bl (decide (c ∈ t)))
  | x, .lst ys => if cmpOk x && cmpOk (.lst ys) then .ok (.bl (ys.any fun z => eqv z x)) else .st
  | _, _ => .st
def gNotIn (x y : D) : R D := (gIn x y).bind fun
  | .bl k => .ok (.bl (!k))
  | _ => .st
def rInA (K : PySem.W.Frag) : R2 := fun x y H Q => (∃ (c : Nat) (z : Str), x = .str ⟨#[c]⟩ ∧ y = .str z ∧ Q (.bl (decide (c ∈ z.cps.toList))) H) ∨ rInD K x y H Q
def rNotInA (K : PySem.W.Frag) : R2 := fun x y H Q => (∃ (c : Nat) (z : Str), x = .str ⟨#[c]⟩ ∧ y = .str z ∧ Q (.bl (!decide (c ∈ z.cps.toList))) H) ∨ rNotInD K x y H Q
theorem any_py : ∀ (ys : List D) (x : D), flatAll ys = true → flat x = true → ((toPyAll ys).any fun z => PyData.eqv z (toPy x)) = ys.any fun z => eqv z x
  | [], _, _, _ => rfl
  | y :: ys, x, h, hx => by
    simp only [flatAll, Bool.and_eq_true] at h
    simp only [toPyAll, List.any_cons, any_py ys x h.2 hx, eqv_py y x h.1 hx]
theorem snd_inA : Snd2 X W (rInA X.K) gIn := fun H0 H x y d1 d2 F1 F2 Q Fs lk s r1 r2 u1 u2 h => by
  unfold gIn at h
  split at h
  · simp only [Rp] at r1 r2
    obtain ⟨rfl, _⟩ := r1
    obtain ⟨rfl, _⟩ := r2
    exact .inl ⟨_, _, rfl, rfl, by simpa using h.bl s⟩
  · split at h
    · rename_i hc
      simp only [Bool.and_eq_true] at hc
      obtain ⟨p1, s1, f1⟩ := shaped_py hc.1 r1
      obtain ⟨p2, s2, f2⟩ := shaped_py hc.2 r2
      simp only [toPy] at p2 s2
      simp only [flat] at f2
      exact .inr ⟨_, _, p1, p2, s1, s2, by rw [any_py _ _ f2 f1]; exact h.bl s⟩
    · exact h.elim
  · exact h.elim
theorem snd_notInA : Snd2 X W (rNotInA X.K) gNotIn := fun H0 H x y d1 d2 F1 F2 Q Fs lk s r1 r2 u1 u2 h => by
  unfold gNotIn gIn at h
  split at h
  · simp only [Rp] at r1 r2
    obtain ⟨rfl, _⟩ := r1
    obtain ⟨rfl, _⟩ := r2
    have h := EndE.bl h s
    exact .inl ⟨_, _, rfl, rfl, by simpa using h⟩
  · split at h
    · rename_i hc
      simp only [Bool.and_eq_true] at hc
      obtain ⟨p1, s1, f1⟩ := shaped_py hc.1 r1
      obtain ⟨p2, s2, f2⟩ := shaped_py hc.2 r2
      simp only [toPy] at p2 s2
      simp only [flat] at f2
      have h := EndE.bl h s
      exact .inr ⟨_, _, p1, p2, s1, s2, by rw [any_py _ _ f2 f1]; exact h⟩
    · exact h.elim
  · exact h.elim
theorem or_inA (hu : X.A.units + 65 < cLine) : OpR X (compareOp .In) (rInA X.K) := op_in_sign.or (op_inD hu)
theorem or_notInA (hu : X.A.units + 65 < cLine) : OpR X (compareOp .NotIn) (rNotInA X.K) := op_notIn_sign.or (op_notInD hu)

/-! ### a < b < c -/
def asB : D → R Bool
  | .bl k => .ok k
  | _ => .st
def cCh (g g' : D → D → R D) (fa fb fc : En → R D) : En → R D := fun ρ => (fa ρ).bind fun x => (fb ρ).bind fun y => ((g x y).bind asB).bind fun k => if k then (fc ρ).bind fun z => g' y z else .ok (.bl false)
theorem asB_ok {x : D} {k : Bool} (h : asB x = .ok k) : x = .bl k := by
  unfold asB at h
  split at h
  · injection h with h
    rw [h]
  · cases h
theorem se_chain {op op' : CmpOp} {r r' : R2} {g g' : D → D → R D} (ho : OpR X (compareOp op) r) (ho' : OpR X (compareOp op') r') (hg : Snd2 X W r g) (hg' : Snd2 X W r' g') (ha : SE X W a fa la) (hb : SE X W b fb lb) (hc : SE X W c fc lc)
    (hm : lastMarks [op, op'] [b, c] = false := by with_unfolding_all rfl) : SE X W (.Compare a [op, op'] [b, c] pos) (cCh g g' fa fb fc) (la ++ (lb ++ lc)) := by
  refine ⟨PE.imp (pe_chain ho ho' ha.pe hb.pe hc.pe hm) fun σ H Q h => ?_⟩
  obtain ⟨ρ, Fs, ok, h⟩ := h
  refine tE_bind (Same.refl H) ok (fun j hj => List.mem_append_left _ hj) h fun d1 v1 H1 F1 s1 _ r1 u1 h1 => ?_
  refine tE_bind s1 (ok.same s1) (fun j hj => List.mem_append_right _ (List.mem_append_left _ hj)) h1 fun d2 v2 H2 F2 s2 s12 r2 u2 h2 => ?_
  refine hg H2 H2 v1 v2 d1 d2 F1 F2 _ [F1 ++ F2] [0] (Same.refl _) (r1.same s12) r2 (fun q hq => .inl ⟨0, by simp, _, rfl, List.mem_append_left _ hq⟩) (fun q hq => .inl ⟨0, by simp, _, rfl, List.mem_append_right _ hq⟩) ?_
  cases e : g d1 d2 with
  | rs c n =>
    rw [e] at h2
    exact fun cls dd H' s x => h2 cls dd H' (s2.trans s) x
  | st => rw [e] at h2; exact h2
  | ok d =>
    rw [e] at h2
    intro z H3 F s3 r3 u3
    cases e2 : asB d with
    | rs c n =>
      unfold asB at e2
      split at e2 <;> cases e2
    | st =>
      simp only [R.bind, e2] at h2
      exact h2.elim
    | ok k =>
      have := asB_ok e2
      subst this
      simp only [Rp] at r3
      refine ⟨k, r3.1, ?_⟩
      simp only [R.bind, e2] at h2
      cases k with
      | false =>
        rw [if_neg Bool.false_ne_true] at h2 ⊢
        exact h2.bl (s2.trans s3)
      | true =>
        rw [if_pos rfl] at h2 ⊢
        refine tE_bind (s2.trans s3) (ok.same (s2.trans s3)) (fun j hj => List.mem_append_right _ (List.mem_append_right _ hj)) h2 fun d3 v3 H4 F3 s4 s34 r4 u4 h4 => ?_
        exact hg' H H4 v2 v3 d2 d3 F2 F3 Q Fs _ s4 (r2.same (s3.trans s34)) r4 u2 u4 h4
end
end Ev

/-! Ev, part D: tests, and, or, not, conditional expressions, subscripts, slices, displays. -/
namespace Ev
open PySem PySem.Spec L2

/-! ### tests -/
def EndT (mg : Str → Option Value) (W : XK) (H : Hp) (Q : Bool → Hp → Prop) : R Bool → Prop
  | .ok b => ∀ H', Same H H' → Q b H'
  | .rs c n => ∀ cls dd H', Same H H' → IsX mg H' cls dd c n → W cls dd H'
  | .st => False
def tT (X : Cx) (W : XK) (f : En → R Bool) : TT := fun σ H Q => ∃ ρ Fs, EnvOk X.K H σ ρ Fs ∧ EndT X.mg W H Q (f ρ)
structure ST (X : Cx) (W : XK) (e : Expr) (f : En → R Bool) : Prop where
  pt : PT X e (tT X W f)
structure SW (X : Cx) (W : XK) (e : Expr) (f : En → R Bool) : Prop where
  pw : PW X e (tT X W f)
theorem PT.imp {X : Cx} {e : Expr} {t t' : TT} (h : PT X e t) (i : ∀ σ H Q, t' σ H Q → t σ H Q) : PT X e t' := ⟨fun pins s σ H Q I q => h.run pins s σ H Q I (i σ H Q q)⟩
theorem PW.imp {X : Cx} {e : Expr} {t t' : TT} (h : PW X e t) (i : ∀ σ H Q, t' σ H Q → t σ H Q) : PW X e t' := ⟨fun wh pins s σ H Q I q => h.run wh pins s σ H Q I (i σ H Q q)⟩
theorem EndT.mono {mg : Str → Option Value} {W : XK} {H H1 : Hp} {Q : Bool → Hp → Prop} {r : R Bool} (h : EndT mg W H Q r) (e : Same H H1) : EndT mg W H1 Q r := by
  cases r with
  | ok d => exact fun H' e' => h H' (e.trans e')
  | rs c n => exact fun cls dd H' e' x => h cls dd H' (e.trans e') x
  | st => exact h
theorem tT_bind {X : Cx} {W : XK} {fa : En → R Bool} {σ : Sg} {ρ : En} {Fs : List (List Addr)} {H : Hp} {Q P : Bool → Hp → Prop} {g : Bool → R Bool} (ok : EnvOk X.K H σ ρ Fs)
    (h : EndT X.mg W H Q ((fa ρ).bind g)) (k : ∀ d H1, Same H H1 → EndT X.mg W H1 Q (g d) → P d H1) : tT X W fa σ H P := by
  refine ⟨ρ, Fs, ok, ?_⟩
  cases e : fa ρ with
  | ok d =>
    rw [e] at h
    exact fun H1 s => k d H1 s (h.mono s)
  | rs c n =>
    rw [e] at h
    exact h
  | st =>
    rw [e] at h
    exact h
/-- a test in an expression -/
theorem tT_bindE {X : Cx} {W : XK} {fa : En → R Bool} {σ : Sg} {ρ : En} {Fs : List (List Addr)} {lk : List Nat} {H0 H : Hp} {Q : VK} {P : Bool → Hp → Prop} {g : Bool → R D} (s0 : Same H0 H) (ok : EnvOk X.K H σ ρ Fs)
    (h : EndE X.K X.mg W Fs lk H0 Q ((fa ρ).bind g)) (k : ∀ d H1, Same H0 H1 → Same H H1 → EndE X.K X.mg W Fs lk H0 Q (g d) → P d H1) : tT X W fa σ H P := by
  refine ⟨ρ, Fs, ok, ?_⟩
  cases e : fa ρ with
  | ok d =>
    rw [e] at h
    exact fun H1 s => k d H1 (s0.trans s) s h
  | rs c n =>
    rw [e] at h
    exact fun cls dd H' s x => h cls dd H' (s0.trans s) x
  | st =>
    rw [e] at h
    exact h
/-- a value in a test -/
theorem tE_bindT {X : Cx} {W : XK} {fa : En → R D} {la : List Nat} {σ : Sg} {ρ : En} {Fs : List (List Addr)} {H0 H : Hp} {P : VK} {Q : Bool → Hp → Prop} {g : D → R Bool} (s0 : Same H0 H) (ok : EnvOk X.K H σ ρ Fs)
    (h : EndT X.mg W H0 Q ((fa ρ).bind g)) (k : ∀ d v H1 F, Same H0 H1 → Same H H1 → Rp X.K H1 d v F → EndT X.mg W H0 Q (g d) → P v H1) : tE X W fa la σ H P := by
  refine ⟨ρ, Fs, ok, ?_⟩
  cases e : fa ρ with
  | ok d =>
    rw [e] at h
    exact fun v H1 F s r _ => k d v H1 F (s0.trans s) s r h
  | rs c n =>
    rw [e] at h
    exact fun cls dd H' s x => h cls dd H' (s0.trans s) x
  | st =>
    rw [e] at h
    exact h

def tru : D → R Bool
  | .non => .ok false
  | .bl b => .ok b
  | .int i => .ok (i != 0)
  | .str s => .ok (!s.isEmpty)
  | .lst xs => .ok (!xs.isEmpty)
  | .tup xs => .ok (!xs.isEmpty)
  | _ => .st
theorem emp_len {α β : Type} {xs : List α} {ys : List β} (h : xs.length = ys.length) : (!xs.isEmpty) = !ys.isEmpty := by
  cases xs <;> cases ys <;> simp at h ⊢
theorem tru_v {K : PySem.W.Frag} {H : Hp} {x : D} {v : V} {F : List Addr} {k : Bool} (r : Rp K H x v F) (h : tru x = .ok k) : TruV K v H k := by
  cases x <;> simp only [Rp, tru] at r h <;> first | (injection h with h; subst h) | cases h
  case non => rw [r.1]; rfl
  case bl => rw [r.1]; rfl
  case int => rw [r.1]; rfl
  case str s =>
    rw [r.1]
    have := r.2.1
    simp only [okS, Bool.and_eq_true, decide_eq_true_eq] at this
    refine ⟨by rw [← big_line]; simpa [Str.length] using this.2, ?_⟩
    cases s with
    | nil => rfl
    | cons a s =>
      simp [Str.length]
      omega
  case lst xs =>
    obtain ⟨a, ys, G, rfl, _, q, r, _⟩ := r
    exact .inl ⟨ys, .inl (.inl q), emp_len r.len⟩
  case tup xs =>
    obtain ⟨a, ys, rfl, q, r, _⟩ := r
    exact .inr (.inl ⟨ys, q, emp_len r.len⟩)

@[simp] def cT (f : En → R D) : En → R Bool := fun ρ => (f ρ).bind tru
@[simp] def cB (f : En → R D) : En → R Bool := fun ρ => (f ρ).bind asB
@[simp] def tNotB (f : En → R Bool) : En → R Bool := fun ρ => (f ρ).bind fun k => .ok (!k)
@[simp] def tAndB (f g : En → R Bool) : En → R Bool := fun ρ => (f ρ).bind fun k => if k then g ρ else .ok false
@[simp] def tOrB (f g : En → R Bool) : En → R Bool := fun ρ => (f ρ).bind fun k => if k then .ok true else g ρ
@[simp] def cIf (t : En → R Bool) (f g : En → R D) : En → R D := fun ρ => (t ρ).bind fun k => if k then f ρ else g ρ
@[simp] def cAnd (f g : En → R D) : En → R D := fun ρ => (f ρ).bind fun x => (tru x).bind fun k => if k then g ρ else .ok x
@[simp] def cOr (f g : En → R D) : En → R D := fun ρ => (f ρ).bind fun x => (tru x).bind fun k => if k then .ok x else g ρ
@[simp] def gNot (x : D) : R D := (tru x).bind fun k => .ok (.bl (!k))

section
variable {X : Cx} {W : XK} {e a b c : Expr} {es rest : List Expr} {fa fb fc : En → R D} {ta tb tc : En → R Bool} {fs : En → R (List D)} {la lb lc ls : List Nat} {pos p2 : Pos}

theorem st_e (ha : SE X W a fa la) (he : ∀ whole, isTrue a X.env whole = (do let v ← whole; standAt a.pos; holding [v] (truthy v)) := by intro _; rfl) : ST X W a (cT fa) := by
  refine ⟨PT.imp (pt_truth ha.pe he) fun σ H Q h => ?_⟩
  obtain ⟨ρ, Fs, ok, h⟩ := h
  refine tE_bindT (Same.refl H) ok h fun d v H1 F s _ r q => ?_
  cases e : tru d with
  | ok k =>
    rw [e] at q
    exact ⟨k, tru_v r e, q H1 s⟩
  | rs c n =>
    unfold tru at e
    split at e <;> cases e
  | st =>
    rw [e] at q
    exact q.elim
theorem st_not (ha : ST X W a ta) : ST X W (.UnaryOp .Not a pos) (tNotB ta) := by
  refine ⟨PT.imp (L2.pt_not ha.pt) fun σ H Q h => ?_⟩
  obtain ⟨ρ, Fs, ok, h⟩ := h
  exact tT_bind ok h fun d H1 s q => q H1 (Same.refl _)
theorem sw_pt (h : SW X W a ta) : ST X W a ta := ⟨h.pw.pt⟩
theorem sw_and1 (ha : ST X W a ta) : SW X W (.BoolOp .And [a] pos) ta := ⟨pw_and1 ha.pt⟩
theorem sw_or1 (ha : ST X W a ta) : SW X W (.BoolOp .Or [a] pos) ta := ⟨pw_or1 ha.pt⟩
theorem sw_and (ha : ST X W a ta) (hb : SW X W (.BoolOp .And (b :: rest) pos) tb) : SW X W (.BoolOp .And (a :: b :: rest) pos) (tAndB ta tb) := by
  refine ⟨PW.imp (pw_and ha.pt hb.pw) fun σ H Q h => ?_⟩
  obtain ⟨ρ, Fs, ok, h⟩ := h
  refine tT_bind ok h fun d H1 s q => ?_
  cases d with
  | true => exact ⟨ρ, Fs, ok.same s, q⟩
  | false => exact q H1 (Same.refl _)
theorem sw_or (ha : ST X W a ta) (hb : SW X W (.BoolOp .Or (b :: rest) pos) tb) : SW X W (.BoolOp .Or (a :: b :: rest) pos) (tOrB ta tb) := by
  refine ⟨PW.imp (pw_or ha.pt hb.pw) fun σ H Q h => ?_⟩
  obtain ⟨ρ, Fs, ok, h⟩ := h
  refine tT_bind ok h fun d H1 s q => ?_
  cases d with
  | true => exact q H1 (Same.refl _)
  | false => exact ⟨ρ, Fs, ok.same s, q⟩
/-- a comparison as a test: its value is a bool -/
theorem asB_end {K : PySem.W.Frag} {mg : Str → Option Value} {Fs : List (List Addr)} {lk : List Nat} {H : Hp} {Q : Bool → Hp → Prop} {r : R D} (h : EndT mg W H Q (r.bind asB)) : EndE K mg W Fs lk H (fun x H' => ∃ k, x = .bl k ∧ Q k H') r := by
  cases r with
  | rs c n => exact h
  | st => exact h
  | ok d =>
    intro v H' F s r _
    cases e : asB d with
    | ok k =>
      have := asB_ok e
      subst this
      simp only [R.bind, e] at h
      simp only [Rp] at r
      exact ⟨k, r.1, h H' s⟩
    | rs c n =>
      unfold asB at e
      split at e <;> cases e
    | st =>
      simp only [R.bind, e] at h
      exact h.elim
theorem st_cmp {op : CmpOp} {r : R2} {g : D → D → R D} (ho : OpR X (compareOp op) r) (hg : Snd2 X W r g) (ha : SE X W a fa la) (hb : SE X W b fb lb) (hm : behindInMarks op b = false) : ST X W (.Compare a [op] [b] pos) (cB (c2 g fa fb)) := by
  refine ⟨PT.imp (pt_cmpR ho ha.pe hb.pe hm) fun σ H Q h => ?_⟩
  obtain ⟨ρ, Fs, ok, h⟩ := h
  exact snd_use hg ha hb σ H _ ⟨ρ, Fs, ok, asB_end h⟩
theorem chain_use {op op' : CmpOp} {r r' : R2} {g g' : D → D → R D} (hg : Snd2 X W r g) (hg' : Snd2 X W r' g') : ∀ σ H Q, tE X W (cCh g g' fa fb fc) (la ++ (lb ++ lc)) σ H Q → tChain r r' (tE X W fa la) (tE X W fb lb) (tE X W fc lc) σ H Q := fun σ H Q h => by
  obtain ⟨ρ, Fs, ok, h⟩ := h
  refine tE_bind (Same.refl H) ok (fun j hj => List.mem_append_left _ hj) h fun d1 v1 H1 F1 s1 _ r1 u1 h1 => ?_
  refine tE_bind s1 (ok.same s1) (fun j hj => List.mem_append_right _ (List.mem_append_left _ hj)) h1 fun d2 v2 H2 F2 s2 s12 r2 u2 h2 => ?_
  refine hg H2 H2 v1 v2 d1 d2 F1 F2 _ [F1 ++ F2] [0] (Same.refl _) (r1.same s12) r2 (fun q hq => .inl ⟨0, by simp, _, rfl, List.mem_append_left _ hq⟩) (fun q hq => .inl ⟨0, by simp, _, rfl, List.mem_append_right _ hq⟩) ?_
  cases e : g d1 d2 with
  | rs c n =>
    rw [e] at h2
    exact fun cls dd H' s x => h2 cls dd H' (s2.trans s) x
  | st => rw [e] at h2; exact h2
  | ok d =>
    rw [e] at h2
    intro z H3 F s3 r3 u3
    cases e2 : asB d with
    | rs c n =>
      unfold asB at e2
      split at e2 <;> cases e2
    | st =>
      simp only [R.bind, e2] at h2
      exact h2.elim
    | ok k =>
      have := asB_ok e2
      subst this
      simp only [Rp] at r3
      refine ⟨k, r3.1, ?_⟩
      simp only [R.bind, e2] at h2
      cases k with
      | false =>
        rw [if_neg Bool.false_ne_true] at h2 ⊢
        exact h2.bl (s2.trans s3)
      | true =>
        rw [if_pos rfl] at h2 ⊢
        refine tE_bind (s2.trans s3) (ok.same (s2.trans s3)) (fun j hj => List.mem_append_right _ (List.mem_append_right _ hj)) h2 fun d3 v3 H4 F3 s4 s34 r4 u4 h4 => ?_
        exact hg' H H4 v2 v3 d2 d3 F2 F3 Q Fs _ s4 (r2.same (s3.trans s34)) r4 u2 u4 h4
theorem st_chain {op op' : CmpOp} {r r' : R2} {g g' : D → D → R D} (ho : OpR X (compareOp op) r) (ho' : OpR X (compareOp op') r') (hg : Snd2 X W r g) (hg' : Snd2 X W r' g') (ha : SE X W a fa la) (hb : SE X W b fb lb) (hc : SE X W c fc lc)
    (hm : lastMarks [op, op'] [b, c] = false := by with_unfolding_all rfl) : ST X W (.Compare a [op, op'] [b, c] pos) (cB (cCh g g' fa fb fc)) := by
  refine ⟨PT.imp (pt_chain ho ho' ha.pe hb.pe hc.pe hm) fun σ H Q h => ?_⟩
  obtain ⟨ρ, Fs, ok, h⟩ := h
  exact chain_use (op := op) (op' := op') hg hg' σ H _ ⟨ρ, Fs, ok, asB_end h⟩

/-! ### and, or, not, conditional expressions as values -/
theorem se_one {o : BoolOp} (ha : SE X W a fa la) : SE X W (.BoolOp o [a] pos) fa la := ⟨pe_one ha.pe⟩
theorem tru_end {K : PySem.W.Frag} {mg : Str → Option Value} {Fs : List (List Addr)} {lk : List Nat} {H0 H : Hp} {Q : VK} {d : D} {v : V} {F : List Addr} {g : Bool → R D} (r : Rp K H d v F) (h : EndE K mg W Fs lk H0 Q ((tru d).bind g)) :
    ∃ k, TruV K v H k ∧ EndE K mg W Fs lk H0 Q (g k) := by
  cases e : tru d with
  | ok k =>
    rw [e] at h
    exact ⟨k, tru_v r e, h⟩
  | rs c n =>
    unfold tru at e
    split at e <;> cases e
  | st =>
    rw [e] at h
    exact h.elim
theorem se_and (ha : SE X W a fa la) (hb : SE X W (.BoolOp .And (b :: rest) pos) fb lb) : SE X W (.BoolOp .And (a :: b :: rest) pos) (cAnd fa fb) (la ++ lb) := by
  refine ⟨PE.imp (pe_andT ha.pe hb.pe) fun σ H Q h => ?_⟩
  obtain ⟨ρ, Fs, ok, h⟩ := h
  refine tE_bind (Same.refl H) ok (fun j hj => List.mem_append_left _ hj) h fun d1 v1 H1 F1 s1 _ r1 u1 h1 => ?_
  obtain ⟨k, t, q⟩ := tru_end r1 h1
  refine ⟨k, t, ?_⟩
  cases k with
  | true => exact ⟨ρ, Fs, ok.same s1, (EndE.mono q s1).lk fun j hj => List.mem_append_right _ hj⟩
  | false => exact q v1 H1 F1 s1 r1 u1
theorem se_or (ha : SE X W a fa la) (hb : SE X W (.BoolOp .Or (b :: rest) pos) fb lb) : SE X W (.BoolOp .Or (a :: b :: rest) pos) (cOr fa fb) (la ++ lb) := by
  refine ⟨PE.imp (pe_orT ha.pe hb.pe) fun σ H Q h => ?_⟩
  obtain ⟨ρ, Fs, ok, h⟩ := h
  refine tE_bind (Same.refl H) ok (fun j hj => List.mem_append_left _ hj) h fun d1 v1 H1 F1 s1 _ r1 u1 h1 => ?_
  obtain ⟨k, t, q⟩ := tru_end r1 h1
  refine ⟨k, t, ?_⟩
  cases k with
  | false => exact ⟨ρ, Fs, ok.same s1, (EndE.mono q s1).lk fun j hj => List.mem_append_right _ hj⟩
  | true => exact q v1 H1 F1 s1 r1 u1
theorem se_not (ha : SE X W a fa la) : SE X W (.UnaryOp .Not a pos) (c1 gNot fa) la := by
  refine ⟨PE.imp (pe_notT ha.pe) fun σ H Q h => ?_⟩
  obtain ⟨ρ, Fs, ok, h⟩ := h
  refine tE_bind (Same.refl H) ok (fun j hj => hj) h fun d1 v1 H1 F1 s1 _ r1 u1 h1 => ?_
  obtain ⟨k, t, q⟩ := tru_end r1 h1
  exact ⟨k, t, q.bl s1⟩
theorem se_if (ht : ST X W c tc) (ha : SE X W a fa la) (hb : SE X W b fb lb) : SE X W (.IfExp c a b pos) (cIf tc fa fb) (la ++ lb) := by
  refine ⟨PE.imp (pe_ifExp ht.pt ha.pe hb.pe) fun σ H Q h => ?_⟩
  obtain ⟨ρ, Fs, ok, h⟩ := h
  refine tT_bindE (Same.refl H) ok h fun k H1 s _ q => ?_
  cases k with
  | true => exact ⟨ρ, Fs, ok.same s, (EndE.mono q s).lk fun j hj => List.mem_append_left _ hj⟩
  | false => exact ⟨ρ, Fs, ok.same s, (EndE.mono q s).lk fun j hj => List.mem_append_right _ hj⟩

/-! ### -a -/
def gNeg : D → R D
  | .int i => .ok (.int (-i))
  | _ => .st
theorem se_neg (ha : SE X W a fa la) : SE X W (.UnaryOp .USub a pos) (c1 gNeg fa) la := by
  refine ⟨PE.imp (pe_un un_neg ha.pe) fun σ H Q h => ?_⟩
  obtain ⟨ρ, Fs, ok, h⟩ := h
  refine tE_bind (Same.refl H) ok (fun j hj => hj) h fun d1 v1 H1 F1 s1 _ r1 u1 h1 => ?_
  unfold gNeg at h1
  split at h1
  · simp only [Rp] at r1
    exact ⟨_, r1.1, h1.int s1⟩
  · exact h1.elim

/-! ### a[i] -/
def gIx : D → D → R D
  | .lst xs, .int i => match atI xs i with
    | some d => .ok d
    | none => .st
  | .tup xs, .int i => match atI xs i with
    | some d => .ok d
    | none => .st
  | .str s, .int i => match atI s i with
    | some c => .ok (.str [c])
    | none => .st
  | .scr ns, .int i => match atI ns i with
    | some d => .ok (.int d)
    | none => .st
  | _, _ => .st
theorem atI_all {K : PySem.W.Frag} {H : Hp} {ds : List D} {vs : List V} {F : List Addr} {i : Int} {d : D} (r : RpAll K H ds vs F) (h : atI ds i = some d) : ∃ v G, atI vs i = some v ∧ Rp K H d v G ∧ ∀ a ∈ G, a ∈ F := by
  unfold atI at h ⊢
  rw [← r.len]
  cases e : ixN ds.length i with
  | none => rw [e] at h; cases h
  | some j =>
    rw [e] at h
    exact r.get h
theorem okS_at {s : List Nat} {i : Int} {c : Nat} (o : okS s = true) (h : atI s i = some c) : okS [c] = true := by
  unfold atI at h
  cases e : ixN s.length i with
  | none => rw [e] at h; cases h
  | some j =>
    rw [e] at h
    have hm := List.mem_of_getElem? (show s[j]? = some c from h)
    simp only [okS, Bool.and_eq_true, List.all_eq_true, decide_eq_true_eq] at o ⊢
    refine ⟨fun x hx => ?_, by show 1 ≤ 16777216; decide⟩
    simp at hx
    rw [hx]
    exact o.1 c hm
theorem atI_map {α β : Type} (f : α → β) (xs : List α) (i : Int) : atI (xs.map f) i = (atI xs i).map f := by
  unfold atI
  rw [List.length_map]
  cases ixN xs.length i <;> simp
def rIxA (K : PySem.W.Frag) : R2 := fun x y H Q => (rIxL K x y H Q ∨ rIxT K x y H Q) ∨ rIxS x y H Q
theorem ixr_a : IxR X (rIxA X.K) := (ix_list.or ix_tup).or ix_str
theorem snd_ix : Snd2 X W (rIxA X.K) gIx := fun H0 H x y d1 d2 F1 F2 Q Fs lk s r1 r2 u1 u2 h => by
  unfold gIx at h
  split at h
  · split at h
    · rename_i q
      simp only [Rp] at r1 r2
      obtain ⟨a, ys, G, rfl, rfl, q1, r, _⟩ := r1
      obtain ⟨rfl, _⟩ := r2
      obtain ⟨v, G2, e, r2, s2⟩ := atI_all r q
      exact .inl (.inl ⟨a, ys, _, v, rfl, rfl, .inl (.inl q1), e, h v H G2 s r2 (u1.of fun z hz => List.mem_cons_of_mem _ (s2 z hz))⟩)
    · exact h.elim
  · split at h
    · rename_i q
      simp only [Rp] at r1 r2
      obtain ⟨a, ys, rfl, q1, r, _⟩ := r1
      obtain ⟨rfl, _⟩ := r2
      obtain ⟨v, G2, e, r2, s2⟩ := atI_all r q
      exact .inl (.inr ⟨a, ys, _, v, rfl, rfl, q1, e, h v H G2 s r2 (u1.of s2)⟩)
    · exact h.elim
  · split at h
    · rename_i q
      simp only [Rp] at r1 r2
      obtain ⟨rfl, o, _⟩ := r1
      obtain ⟨rfl, _⟩ := r2
      have o2 := o
      simp only [okS, Bool.and_eq_true, decide_eq_true_eq] at o2
      exact .inr ⟨_, _, _, rfl, rfl, by rw [← big_line]; simpa [Str.length] using o2.2, by simpa using q, h.str s (okS_at o q)⟩
    · exact h.elim
  · split at h
    · rename_i ns i d q
      simp only [Rp] at r1 r2
      obtain ⟨a, rfl, rfl, q1⟩ := r1
      obtain ⟨rfl, _⟩ := r2
      exact .inl (.inl ⟨a, _, _, .int d, rfl, rfl, q1.sq, by rw [atI_map, q]; rfl, h.int s⟩)
    · exact h.elim
  · exact h.elim
theorem se_ix (ha : SE X W a fa la) (hb : SE X W b fb lb) (hs : PlainIx b) : SE X W (.Subscript a b pos) (c2 gIx fa fb) (la ++ lb) :=
  ⟨PE.imp (pe_ix ixr_a ha.pe hb.pe hs) (snd_use snd_ix ha hb)⟩

/-! ### a[i:j] -/
def cut {α : Type} (xs : List α) (lo hi : Option Int) : List α := (xs.drop (HT.sIx xs.length 0 lo)).take (HT.sIx xs.length xs.length hi - HT.sIx xs.length 0 lo)
def gSl : D → Option Int → Option Int → R D
  | .lst xs, lo, hi => .ok (.lst (cut xs lo hi))
  | .str s, lo, hi => .ok (.str (cut s lo hi))
  | .tup xs, lo, hi => if HT.sIx xs.length 0 lo = 0 ∧ HT.sIx xs.length xs.length hi = xs.length then .st else .ok (.tup (cut xs lo hi))
  | _, _, _ => .st
def asI : D → R (Option Int)
  | .int i => .ok (some i)
  | _ => .st
def pN : En → R (Option Int) := fun _ => .ok none
def pS (f : En → R D) : En → R (Option Int) := fun ρ => (f ρ).bind asI
@[simp] def cSl (fa : En → R D) (lo hi : En → R (Option Int)) : En → R D := fun ρ => (fa ρ).bind fun x => (lo ρ).bind fun l => (hi ρ).bind fun u => gSl x l u
/-- a part of a slice -/
structure SO (X : Cx) (W : XK) (e : Option Expr) (f : En → R (Option Int)) : Prop where
  run : ∃ t, PO X e t ∧ ∀ (σ : Sg) (ρ : En) (Fs : List (List Addr)) (lk : List Nat) (H0 H : Hp) (Q : VK) (g : Option Int → R D) (P : Option Int → Hp → Prop), Same H0 H → EnvOk X.K H σ ρ Fs → EndE X.K X.mg W Fs lk H0 Q ((f ρ).bind g) →
    (∀ o H1, Same H0 H1 → Same H H1 → EndE X.K X.mg W Fs lk H0 Q (g o) → P o H1) → t σ H P
theorem so_none : SO X W none pN := ⟨tNoPart, po_none, fun σ ρ Fs lk H0 H Q g P s ok h k => k none H s (Same.refl H) h⟩
theorem so_some (ha : SE X W a fa la) : SO X W (some a) (pS fa) := by
  refine ⟨_, po_some ha.pe, fun σ ρ Fs lk H0 H Q g P s ok h k => ?_⟩
  have h' : EndE X.K X.mg W Fs (lk ++ la) H0 Q ((fa ρ).bind fun d => (asI d).bind g) ∨ True := .inr trivial
  refine ⟨ρ, Fs, ok, ?_⟩
  unfold pS at h
  cases e : fa ρ with
  | ok d =>
    rw [e] at h
    intro v H1 F s1 r _
    cases d <;> simp only [R.bind, asI] at h <;> first | exact h.elim | skip
    simp only [Rp] at r
    exact ⟨_, r.1, k _ H1 (s.trans s1) s1 h⟩
  | rs c n =>
    rw [e] at h
    exact fun cls dd H' s1 x => h cls dd H' (s.trans s1) x
  | st => rw [e] at h; exact h
theorem cut_len {α : Type} (xs : List α) (lo hi : Option Int) : (cut xs lo hi).length ≤ xs.length := by
  unfold cut
  rw [List.length_take, List.length_drop]
  omega
theorem RpAll.cut {K : PySem.W.Frag} {H : Hp} {ds : List D} {vs : List V} {F : List Addr} (r : RpAll K H ds vs F) (lo hi : Option Int) : ∃ G, RpAll K H (Ev.cut ds lo hi) (cutV vs lo hi) G ∧ ∀ a ∈ G, a ∈ F := by
  unfold Ev.cut cutV
  rw [← r.len]
  obtain ⟨G, r1, s1⟩ := r.drop (HT.sIx ds.length 0 lo)
  obtain ⟨G2, r2, s2⟩ := r1.take (HT.sIx ds.length ds.length hi - HT.sIx ds.length 0 lo)
  exact ⟨G2, r2, fun a ha => s1 a (s2 a ha)⟩
theorem okS_cut {s : List Nat} {lo hi : Option Int} (o : okS s = true) : okS (cut s lo hi) = true := by
  simp only [okS, Bool.and_eq_true, List.all_eq_true, decide_eq_true_eq] at o ⊢
  unfold cut
  refine ⟨fun x hx => o.1 x (List.mem_of_mem_drop (List.mem_of_mem_take hx)), ?_⟩
  rw [List.length_take, List.length_drop]
  omega
def rSlA (K : PySem.W.Frag) : V → Option Int → Option Int → Hp → VK → Prop := fun x lo hi H Q => (rSlL K x lo hi H Q ∨ rSlT K x lo hi H Q) ∨ rSlS x lo hi H Q
theorem slr_a : SlR X (rSlA X.K) := (sl_list.or sl_tup).or sl_str
theorem se_sl {lo hi : Option Expr} {fl fh : En → R (Option Int)} (ha : SE X W a fa la) (hl : SO X W lo fl) (hh : SO X W hi fh) : SE X W (.Subscript a (.Slice lo hi none p2) pos) (cSl fa fl fh) la := by
  obtain ⟨tl, pl, kl⟩ := hl.run
  obtain ⟨th, ph, kh⟩ := hh.run
  refine ⟨PE.imp (pe_slice slr_a ha.pe pl ph) fun σ H Q h => ?_⟩
  obtain ⟨ρ, Fs, ok, h⟩ := h
  refine tE_bind (Same.refl H) ok (fun j hj => hj) h fun d1 v1 H1 F1 s1 _ r1 u1 h1 => ?_
  refine kl σ ρ Fs la H H1 Q _ _ s1 (ok.same s1) h1 fun o H2 s2 s12 h2 => ?_
  refine kh σ ρ Fs la H H2 Q _ _ s2 (ok.same s2) h2 fun o2 H3 s3 s23 h3 => ?_
  have r3 := r1.same (s12.trans s23)
  unfold gSl at h3
  split at h3
  · simp only [Rp] at r3
    obtain ⟨p, xs, G, rfl, rfl, q, r, l⟩ := r3
    obtain ⟨G2, r4, s4⟩ := r.cut o o2
    exact .inl (.inl ⟨p, xs, rfl, .inl (.inl q), fun c hc => h3.newL s3 r4 (u1.of fun z hz => List.mem_cons_of_mem _ (s4 z hz)) hc (Nat.le_trans (cut_len _ _ _) l)⟩)
  · rename_i t
    simp only [Rp] at r3
    obtain ⟨rfl, ok2, _⟩ := r3
    have o3 := ok2
    simp only [okS, Bool.and_eq_true, decide_eq_true_eq] at o3
    refine .inr ⟨_, rfl, by rw [← big_line]; simpa [Str.length] using o3.2, ?_⟩
    have := h3.str s3 (okS_cut ok2)
    simpa [cutS, Ev.cut, Str.length] using this
  · split at h3
    · exact h3.elim
    · rename_i hn
      simp only [Rp] at r3
      obtain ⟨p, xs, rfl, q, r, l⟩ := r3
      obtain ⟨G2, r4, s4⟩ := r.cut o o2
      exact .inl (.inr ⟨p, xs, rfl, q, by rw [← r.len]; exact hn, fun c hc => h3.newT s3 r4 (u1.of s4) hc (Nat.le_trans (cut_len _ _ _) l)⟩)
  · exact h3.elim

/-! ### displays -/
@[simp] def cTup (fs : En → R (List D)) : En → R D := fun ρ => (fs ρ).bind fun ds => if ds.length ≤ big then .ok (.tup ds) else .st
@[simp] def cLst (fs : En → R (List D)) : En → R D := fun ρ => (fs ρ).bind fun ds => if ds.length ≤ big then .ok (.lst ds) else .st
theorem se_tup {k} (ha : SA X W es fs ls) : SE X W (.Tuple es k pos) (cTup fs) ls := by
  refine ⟨PE.imp (pe_tup ha.pa) fun σ H Q h => ?_⟩
  obtain ⟨ρ, Fs, ok, h⟩ := h
  refine tA_bind (Same.refl H) ok (fun j hj => hj) h fun d1 v1 H1 F1 s1 _ r1 u1 h1 => ?_
  split at h1
  · rename_i hl
    exact ⟨by rw [← r1.len, ← big_line]; exact hl, fun p hp => h1.newT s1 r1 u1 hp hl⟩
  · exact h1.elim
theorem se_lst (ha : SA X W es fs ls) : SE X W (.List es pos) (cLst fs) ls := by
  refine ⟨PE.imp (pe_lst ha.pa) fun σ H Q h => ?_⟩
  obtain ⟨ρ, Fs, ok, h⟩ := h
  refine tA_bind (Same.refl H) ok (fun j hj => hj) h fun d1 v1 H1 F1 s1 _ r1 u1 h1 => ?_
  split at h1
  · rename_i hl
    exact ⟨by rw [← r1.len, ← big_line]; exact hl, fun p hp => h1.newL s1 r1 u1 hp hl⟩
  · exact h1.elim
/-- *a among the items -/
def items : D → R (List D)
  | .lst xs => .ok xs
  | .tup xs => .ok xs
  | _ => .st
@[simp] def aS (a : En → R D) (r : En → R (List D)) : En → R (List D) := fun ρ => (a ρ).bind fun x => (items x).bind fun xs => (r ρ).bind fun ys => .ok (xs ++ ys)
theorem sa_star (ha : SE X W e fa la) (hr : SA X W es fs ls) (hs : starEach (.Starred e p2 :: es) X.env = (true, eval e X.env) :: starEach es X.env := by rfl) : SA X W (.Starred e p2 :: es) (aS fa fs) (la ++ ls) := by
  refine ⟨PA.imp (StX.pa_star ha.pe hr.pa hs) fun σ H Q h => ?_⟩
  obtain ⟨ρ, Fs, ok, h⟩ := h
  unfold aS at h
  refine ⟨ρ, Fs, ok, ?_⟩
  cases e1 : fa ρ with
  | rs c n => rw [e1] at h; exact h
  | st => rw [e1] at h; exact h
  | ok d =>
    rw [e1] at h
    intro v H1 F s1 r1 u1
    have fin : ∀ (xs : List D) (p : Addr) (vs : List V) (G : List Addr), v = .ref p → (SqT X.K H1 p vs ∨ SqL X.K H1 p vs) → RpAll X.K H1 xs vs G → Sub G Fs la H → EndA X.K X.mg W Fs (la ++ ls) H Q ((fs ρ).bind fun ys => .ok (xs ++ ys)) →
        ∃ p ws, v = .ref p ∧ (SqT X.K H1 p ws ∨ SqL X.K H1 p ws) ∧ tA X W fs ls σ H1 fun ys H2 => Q (ws ++ ys) H2 := fun xs p vs G e q r u h => by
      refine ⟨p, vs, e, q, ρ, Fs, ok.same s1, ?_⟩
      cases e2 : fs ρ with
      | rs c n =>
        rw [e2] at h
        exact fun cls dd H' s x => h cls dd H' (s1.trans s) x
      | st => rw [e2] at h; exact h
      | ok ds =>
        rw [e2] at h
        intro ws H2 G2 s2 r2 u2
        exact h (vs ++ ws) H2 (G ++ G2) (s1.trans s2) ((r.same s2).append r2) (.app u.left (u2.back s1).right)
    cases d <;> simp only [R.bind, items] at h
    case lst xs =>
      simp only [Rp] at r1
      obtain ⟨p, vs, G, e, rfl, q, r, _⟩ := r1
      exact fin xs p vs G e (.inr (.inl (.inl q))) r (u1.of fun z hz => List.mem_cons_of_mem _ hz) h
    case tup xs =>
      simp only [Rp] at r1
      obtain ⟨p, vs, e, q, r, _⟩ := r1
      exact fin xs p vs F e (.inl q) r u1 h
    all_goals exact h.elim
end
end Ev

/-! Ev, part E: calls of the text's own defs and of built-ins. -/
namespace Ev
open PySem PySem.Spec L2

structure Good (lv : Nat) (X : Cx) (W : XK) : Prop where
  calm : X.calm = true
  nd : X.N.Nodup
  room : Room lv X.A
  own : PassesOwn (model X.prog X.w) X.A X.env X.xe
  ps : Passes (L2.CX X.prog X.w) X W
abbrev W0 : XK := fun _ _ _ => False

theorem Good.blk {lv : Nat} {X : Cx} {W : XK} (G : Good lv X W) {s : Shared} {H : Hp} {sc : Scope} {env : Env} {fp : List Addr} : Good lv (X.blk s H sc env fp) W0 :=
  ⟨G.calm, G.nd, G.room, .never, passL⟩

/-! ### promises -/
def spD (K : PySem.W.Frag) (mg : Str → Option Value) (f : List D → R D) : Sp := fun vs H Q E => ∃ ds F, RpAll K H ds vs F ∧ match f ds with
  | .ok d => ∀ v H' G, Same H H' → Rp K H' d v G → (∀ a ∈ G, a ∈ F ∨ H a = none) → Q v H'
  | .rs c n => ∀ cls dd H', Same H H' → IsX mg H' cls dd c n → E cls dd H'
  | .st => False
/-- the def x, called by its name, is worth f -/
def CalK (P : Program) (w : World) (K : PySem.W.Frag) (mg : Str → Option Value) (base : Heap) (k : Nat) (x : Str) (f : List D → R D) : Prop :=
  ∃ (a : Addr) (fd : FuncData) (ps : List Str), FnOk P w K mg base (L2.CX P w) k a fd ps (spD K mg f) ∧ mg x = some (.ref a) ∧ PySem.W.keepIn K (.ref a) = true ∧ Binds K fd ps []

section
variable {X : Cx} {W : XK} {e a b c : Expr} {es rest : List Expr} {fa fb fc : En → R D} {fs : En → R (List D)} {la lb lc ls : List Nat} {pos p : Pos} {lv k : Nat} {x : Str}

theorem se_call {f : List D → R D} (G : Good lv X W) (c : CalK X.prog X.w X.K X.mg X.base k x f) (hk : k ≤ lv) (ha : SA X W (e :: es) fs ls) (hg : Gl X x := by rfl) (hdb : (x == ("__debug__" : Str)) = false := by decide)
    (he : starEach (e :: es) X.env = (false, eval e X.env) :: starEach es X.env := by rfl) (hpl : (backTo pos (starEach es X.env)).any (·.1) = false := by rfl) : SE X W (.Call (.Name x p) (e :: es) [] pos) (cA f fs) ls := by
  obtain ⟨adr, fd, ps, F, m, kp, bd⟩ := c
  refine ⟨PE.imp (pe_call (E := W) F (G.room.mono hk) hg m kp bd (dvs := []) .nil G.ps ha.pa hdb he hpl) fun σ H Q h => ?_⟩
  obtain ⟨ρ, Fs, ok, h⟩ := h
  refine tA_bind (Same.refl H) ok (fun j hj => hj) h fun d1 v1 H1 F1 s1 _ r1 u1 h1 => ?_
  rw [List.append_nil]
  refine ⟨d1, F1, r1, ?_⟩
  cases e : f d1 with
  | ok d =>
    rw [e] at h1
    exact fun v H' G s r u => h1 v H' G (s1.trans s) r fun z hz => by
      rcases u z hz with q | q
      · exact u1 z q
      · exact .inr (s1.free q)
  | rs c n =>
    rw [e] at h1
    exact fun cls dd H' s x => h1 cls dd H' (s1.trans s) x
  | st =>
    rw [e] at h1
    exact h1

/-! ### built-ins -/
def SndC (X : Cx) (W : XK) (r : List V → Hp → VK → Prop) (g : List D → R D) : Prop := ∀ (H0 H : Hp) (xs : List V) (ds : List D) (F : List Addr) (Q : VK) (Fs : List (List Addr)) (lk : List Nat), Same H0 H → RpAll X.K H ds xs F → Sub F Fs lk H0 →
  EndE X.K X.mg W Fs lk H0 Q (g ds) → r xs H Q
theorem se_callB {id : String} {r : List V → Hp → VK → Prop} {g : List D → R D} (hc : CallR X (.builtin id) r) (hs : SndC X W r g) (hm : X.mg x = none) (hv : bootBuiltins x = some (.builtin id)) (ha : SA X W (e :: es) fs ls) (hg : Gl X x := by rfl) (hn : x ≠ "__name__" := by decide)
    (hdb : (x == ("__debug__" : Str)) = false := by decide) (he : starEach (e :: es) X.env = (false, eval e X.env) :: starEach es X.env := by rfl) (hpl : (backTo pos (starEach es X.env)).any (·.1) = false := by rfl) : SE X W (.Call (.Name x p) (e :: es) [] pos) (cA g fs) ls := by
  refine ⟨PE.imp (pe_callB hc hg hm hv ha.pa hn hdb he hpl) fun σ H Q h => ?_⟩
  obtain ⟨ρ, Fs, ok, h⟩ := h
  exact tA_bind (Same.refl H) ok (fun j hj => hj) h fun d1 v1 H1 F1 s1 _ r1 u1 h1 => hs H H1 v1 d1 F1 Q Fs ls s1 r1 u1 h1
theorem se_callTy {id : String} {r : List V → Hp → VK → Prop} {g : List D → R D} (hc : CallR X (.type id) r) (hs : SndC X W r g) (hm : X.mg x = none) (hv : bootBuiltins x = some (.type id)) (ha : SA X W (e :: es) fs ls) (hg : Gl X x := by rfl) (hn : x ≠ "__name__" := by decide)
    (hdb : (x == ("__debug__" : Str)) = false := by decide) (he : starEach (e :: es) X.env = (false, eval e X.env) :: starEach es X.env := by rfl) (hpl : (backTo pos (starEach es X.env)).any (·.1) = false := by rfl) : SE X W (.Call (.Name x p) (e :: es) [] pos) (cA g fs) ls := by
  refine ⟨PE.imp (pe_callTy hc hg hm hv ha.pa hn hdb he hpl) fun σ H Q h => ?_⟩
  obtain ⟨ρ, Fs, ok, h⟩ := h
  exact tA_bind (Same.refl H) ok (fun j hj => hj) h fun d1 v1 H1 F1 s1 _ r1 u1 h1 => hs H H1 v1 d1 F1 Q Fs ls s1 r1 u1 h1

theorem RpAll.one_inv {K : PySem.W.Frag} {H : Hp} {d : D} {xs : List V} {F : List Addr} (r : RpAll K H [d] xs F) : ∃ v, xs = [v] ∧ Rp K H d v F := by
  simp only [RpAll] at r
  obtain ⟨v, vr, G1, G2, rfl, rfl, h, rfl, rfl⟩ := r
  exact ⟨v, rfl, by simpa using h⟩
theorem RpAll.two_inv {K : PySem.W.Frag} {H : Hp} {d d2 : D} {xs : List V} {F : List Addr} (r : RpAll K H [d, d2] xs F) : ∃ v v2 G1 G2, xs = [v, v2] ∧ F = G1 ++ G2 ∧ Rp K H d v G1 ∧ Rp K H d2 v2 G2 := by
  simp only [RpAll] at r
  obtain ⟨v, vr, G1, G2, rfl, rfl, h, v2, vr2, G3, G4, rfl, rfl, h2, rfl, rfl⟩ := r
  exact ⟨v, v2, G1, G3, rfl, by simp, h, h2⟩
theorem okS_len {s : List Nat} (h : okS s = true) : s.length ≤ sizeLine := by
  simp only [okS, Bool.and_eq_true, decide_eq_true_eq] at h
  rw [← big_line]
  exact h.2

/-- len -/
def gLen : List D → R D
  | [.lst xs] => .ok (.int xs.length)
  | [.tup xs] => .ok (.int xs.length)
  | [.str s] => .ok (.int s.length)
  | [.scr ns] => .ok (.int ns.length)
  | _ => .st
def rLenA (K : PySem.W.Frag) : List V → Hp → VK → Prop := fun xs H Q => (∃ p ys, xs = [.ref p] ∧ (SqL K H p ys ∨ SqT K H p ys) ∧ Q (.int ys.length) H) ∨ ∃ z, xs = [.str z] ∧ z.length ≤ sizeLine ∧ Q (.int z.length) H
theorem cr_lenA : CallR X (.builtin "len") (rLenA X.K) := call_len_seq.or call_len_str
theorem snd_len : SndC X W (rLenA X.K) gLen := fun H0 H xs ds F Q Fs lk s r u h => by
  unfold gLen at h
  split at h
  · obtain ⟨v, rfl, t⟩ := r.one_inv
    simp only [Rp] at t
    obtain ⟨a, ys, G, rfl, _, q, r, _⟩ := t
    exact .inl ⟨a, ys, rfl, .inl (.inl (.inl q)), by rw [← r.len]; exact h.int s⟩
  · obtain ⟨v, rfl, t⟩ := r.one_inv
    simp only [Rp] at t
    obtain ⟨a, ys, rfl, q, r, _⟩ := t
    exact .inl ⟨a, ys, rfl, .inr q, by rw [← r.len]; exact h.int s⟩
  · obtain ⟨v, rfl, t⟩ := r.one_inv
    simp only [Rp] at t
    obtain ⟨rfl, o, _⟩ := t
    exact .inr ⟨_, rfl, by simpa [Str.length] using okS_len o, by simpa [Str.length] using h.int s⟩
  · obtain ⟨v, rfl, t⟩ := r.one_inv
    simp only [Rp] at t
    obtain ⟨a, rfl, _, q⟩ := t
    exact .inl ⟨a, _, rfl, .inl q.sq, by rw [List.length_map]; exact h.int s⟩
  · exact h.elim
/-- abs, min, max of two numbers, int, sum, all, any -/
def gAbs : List D → R D
  | [.int i] => .ok (.int (if i < 0 then -i else i))
  | _ => .st
theorem snd_abs : SndC X W (fun xs H Q => ∃ i, xs = [.int i] ∧ Q (.int (if i < 0 then -i else i)) H) gAbs := fun H0 H xs ds F Q Fs lk s r u h => by
  unfold gAbs at h
  split at h
  · obtain ⟨v, rfl, t⟩ := r.one_inv
    simp only [Rp] at t
    obtain ⟨rfl, _⟩ := t
    exact ⟨_, rfl, h.int s⟩
  · exact h.elim
def gMin2 : List D → R D
  | [.int i, .int j] => .ok (.int (if j < i then j else i))
  | _ => .st
theorem snd_min2 : SndC X W (fun xs H Q => ∃ i j, xs = [.int i, .int j] ∧ Q (.int (if j < i then j else i)) H) gMin2 := fun H0 H xs ds F Q Fs lk s r u h => by
  unfold gMin2 at h
  split at h
  · obtain ⟨v, v2, G1, G2, rfl, rfl, r1, r2⟩ := r.two_inv
    simp only [Rp] at r1 r2
    obtain ⟨rfl, _⟩ := r1
    obtain ⟨rfl, _⟩ := r2
    exact ⟨_, _, rfl, h.int s⟩
  · exact h.elim
def gMax2 : List D → R D
  | [.int i, .int j] => .ok (.int (if j > i then j else i))
  | _ => .st
theorem snd_max2 : SndC X W (fun xs H Q => ∃ i j, xs = [.int i, .int j] ∧ Q (.int (if j > i then j else i)) H) gMax2 := fun H0 H xs ds F Q Fs lk s r u h => by
  unfold gMax2 at h
  split at h
  · obtain ⟨v, v2, G1, G2, rfl, rfl, r1, r2⟩ := r.two_inv
    simp only [Rp] at r1 r2
    obtain ⟨rfl, _⟩ := r1
    obtain ⟨rfl, _⟩ := r2
    exact ⟨_, _, rfl, h.int s⟩
  · exact h.elim
def gInt : List D → R D
  | [.int i] => .ok (.int i)
  | [.bl k] => .ok (.int (if k then 1 else 0))
  | _ => .st
theorem snd_int : SndC X W (fun xs H Q => (∃ i, xs = [.int i] ∧ Q (.int i) H) ∨ ∃ k, xs = [.bl k] ∧ Q (.int (if k then 1 else 0)) H) gInt := fun H0 H xs ds F Q Fs lk s r u h => by
  unfold gInt at h
  split at h
  · obtain ⟨v, rfl, t⟩ := r.one_inv
    simp only [Rp] at t
    obtain ⟨rfl, _⟩ := t
    exact .inl ⟨_, rfl, h.int s⟩
  · obtain ⟨v, rfl, t⟩ := r.one_inv
    simp only [Rp] at t
    obtain ⟨rfl, _⟩ := t
    exact .inr ⟨_, rfl, h.int s⟩
  · exact h.elim
/-- a list of intsOf, of bools, of texts -/
def intsOf : List D → Option (List Int)
  | [] => some []
  | .int i :: r => (intsOf r).map (i :: ·)
  | _ => none
def blsOf : List D → Option (List Bool)
  | [] => some []
  | .bl i :: r => (blsOf r).map (i :: ·)
  | _ => none
def strsOf : List D → Option (List (List Nat))
  | [] => some []
  | .str i :: r => (strsOf r).map (i :: ·)
  | _ => none
theorem ints_v {K : PySem.W.Frag} {H : Hp} : ∀ {ds : List D} {vs : List V} {F : List Addr} {ns : List Int}, RpAll K H ds vs F → intsOf ds = some ns → vs = ns.map V.int
  | [], _, _, _, r, h => by
    simp only [RpAll] at r
    simp only [intsOf, Option.some.injEq] at h
    rw [r.1, ← h]
    rfl
  | d :: ds, _, _, ns, r, h => by
    simp only [RpAll] at r
    obtain ⟨v, vr, G1, G2, rfl, _, r1, r2⟩ := r
    cases d <;> simp only [intsOf, reduceCtorEq, Option.map_eq_some_iff] at h
    obtain ⟨ms, e, rfl⟩ := h
    simp only [Rp] at r1
    rw [r1.1, ints_v r2 e]
    rfl
theorem bls_v {K : PySem.W.Frag} {H : Hp} : ∀ {ds : List D} {vs : List V} {F : List Addr} {ns : List Bool}, RpAll K H ds vs F → blsOf ds = some ns → vs = ns.map V.bl
  | [], _, _, _, r, h => by
    simp only [RpAll] at r
    simp only [blsOf, Option.some.injEq] at h
    rw [r.1, ← h]
    rfl
  | d :: ds, _, _, ns, r, h => by
    simp only [RpAll] at r
    obtain ⟨v, vr, G1, G2, rfl, _, r1, r2⟩ := r
    cases d <;> simp only [blsOf, reduceCtorEq, Option.map_eq_some_iff] at h
    obtain ⟨ms, e, rfl⟩ := h
    simp only [Rp] at r1
    rw [r1.1, bls_v r2 e]
    rfl
def toStr (s : List Nat) : Str := ⟨s.toArray⟩
theorem strs_v {K : PySem.W.Frag} {H : Hp} : ∀ {ds : List D} {vs : List V} {F : List Addr} {ns : List (List Nat)}, RpAll K H ds vs F → strsOf ds = some ns → vs = (ns.map toStr).map V.str ∧ ∀ s ∈ ns, okS s = true
  | [], _, _, _, r, h => by
    simp only [RpAll] at r
    simp only [strsOf, Option.some.injEq] at h
    rw [r.1, ← h]
    exact ⟨rfl, fun _ z => by cases z⟩
  | d :: ds, _, _, ns, r, h => by
    simp only [RpAll] at r
    obtain ⟨v, vr, G1, G2, rfl, _, r1, r2⟩ := r
    cases d <;> simp only [strsOf, reduceCtorEq, Option.map_eq_some_iff] at h
    obtain ⟨ms, e, rfl⟩ := h
    simp only [Rp] at r1
    obtain ⟨e2, o⟩ := strs_v r2 e
    rw [r1.1, e2]
    refine ⟨rfl, fun z hz => ?_⟩
    rcases List.mem_cons.mp hz with q | q
    · rw [q]; exact r1.2.1
    · exact o z q
def gSum : List D → R D
  | [.lst xs] => match intsOf xs with
    | some ns => .ok (.int ns.sum)
    | none => .st
  | _ => .st
theorem snd_sum : SndC X W (rSum X.K) gSum := fun H0 H xs ds F Q Fs lk s r u h => by
  unfold gSum at h
  split at h
  · split at h
    · rename_i e
      obtain ⟨v, rfl, t⟩ := r.one_inv
      simp only [Rp] at t
      obtain ⟨a, ys, G, rfl, _, q, r, _⟩ := t
      rw [ints_v r e] at q
      exact ⟨a, _, rfl, .inl (.inl q), h.int s⟩
    · exact h.elim
  · exact h.elim
def gAll : List D → R D
  | [.lst xs] => match blsOf xs with
    | some ns => .ok (.bl (ns.all id))
    | none => .st
  | _ => .st
theorem snd_all : SndC X W (rAll X.K) gAll := fun H0 H xs ds F Q Fs lk s r u h => by
  unfold gAll at h
  split at h
  · split at h
    · rename_i e
      obtain ⟨v, rfl, t⟩ := r.one_inv
      simp only [Rp] at t
      obtain ⟨a, ys, G, rfl, _, q, r, _⟩ := t
      rw [bls_v r e] at q
      exact ⟨a, _, rfl, .inl (.inl q), h.bl s⟩
    · exact h.elim
  · exact h.elim
def gAny : List D → R D
  | [.lst xs] => match blsOf xs with
    | some ns => .ok (.bl (ns.any id))
    | none => .st
  | _ => .st
theorem snd_any : SndC X W (rAny X.K) gAny := fun H0 H xs ds F Q Fs lk s r u h => by
  unfold gAny at h
  split at h
  · split at h
    · rename_i e
      obtain ⟨v, rfl, t⟩ := r.one_inv
      simp only [Rp] at t
      obtain ⟨a, ys, G, rfl, _, q, r, _⟩ := t
      rw [bls_v r e] at q
      exact ⟨a, _, rfl, .inl (.inl q), h.bl s⟩
    · exact h.elim
  · exact h.elim
/-- list(xs), tuple(xs) -/
def gList : List D → R D
  | [.lst xs] => .ok (.lst xs)
  | [.tup xs] => .ok (.lst xs)
  | _ => .st
theorem snd_list : SndC X W (fun xs H Q => ∃ p ys, xs = [.ref p] ∧ (SqL X.K H p ys ∨ SqT X.K H p ys) ∧ ∀ l, H l = none → Q (.ref l) (upd H l (.lst ys))) gList := fun H0 H xs ds F Q Fs lk s r u h => by
  unfold gList at h
  split at h
  · obtain ⟨v, rfl, t⟩ := r.one_inv
    simp only [Rp] at t
    obtain ⟨a, ys, G, rfl, rfl, q, r, l⟩ := t
    exact ⟨a, ys, rfl, .inl (.inl (.inl q)), fun c hc => h.newL s r (u.of fun z hz => List.mem_cons_of_mem _ hz) hc l⟩
  · obtain ⟨v, rfl, t⟩ := r.one_inv
    simp only [Rp] at t
    obtain ⟨a, ys, rfl, q, r, l⟩ := t
    exact ⟨a, ys, rfl, .inr q, fun c hc => h.newL s r u hc l⟩
  · exact h.elim
def gTuple : List D → R D
  | [.lst xs] => .ok (.tup xs)
  | [.tup xs] => .ok (.tup xs)
  | _ => .st
theorem snd_tuple : SndC X W (fun xs H Q => ∃ p ys, xs = [.ref p] ∧ ((SqL X.K H p ys ∧ ∀ l, H l = none → Q (.ref l) (upd H l (.tup ys))) ∨ (SqT X.K H p ys ∧ Q (.ref p) H))) gTuple := fun H0 H xs ds F Q Fs lk s r u h => by
  unfold gTuple at h
  split at h
  · obtain ⟨v, rfl, t⟩ := r.one_inv
    simp only [Rp] at t
    obtain ⟨a, ys, G, rfl, rfl, q, r, l⟩ := t
    exact ⟨a, ys, rfl, .inl ⟨.inl (.inl q), fun c hc => h.newT s r (u.of fun z hz => List.mem_cons_of_mem _ hz) hc l⟩⟩
  · obtain ⟨v, rfl, r1⟩ := r.one_inv
    have r2 := r1
    simp only [Rp] at r1
    obtain ⟨a, ys, rfl, q, r, _⟩ := r1
    exact ⟨a, ys, rfl, .inr ⟨q, h _ _ _ s r2 u⟩⟩
  · exact h.elim
end
end Ev

/-! Ev, part F: what is walked, targets, list comprehensions. -/
namespace Ev
open PySem PySem.Spec L2

/-! ### what is walked -/
def ItOk (K : PySem.W.Frag) (J : It) (ds : List D) (Fi : List Addr) (H1 : Hp) : Prop :=
  ∀ (N : Addr → Prop) (H2 : Hp), Ext N H1 H2 → (∀ a ∈ Fi, ¬ N a) → ∀ i : Nat,
    (∀ d, ds[i]? = some d → J.go i H2 ∧ ∀ x H3, J.yld i H2 x H3 → Same H2 H3 ∧ ∃ G, Rp K H3 d x G ∧ ∀ a ∈ G, a ∈ Fi) ∧ (ds.length ≤ i → J.stop i H2)
def EndI (K : PySem.W.Frag) (mg : Str → Option Value) (W : XK) (Fs : List (List Addr)) (lk : List Nat) (H : Hp) (P : It → Hp → Prop) : R (List D) → Prop
  | .ok ds => ∀ J H1 Fi, Same H H1 → ItOk K J ds Fi H1 → Sub Fi Fs lk H → (∀ a ∈ Fi, ∃ x, H1 a = some x) → ds.length ≤ big → P J H1
  | .rs c n => ∀ cls dd H', Same H H' → IsX mg H' cls dd c n → W cls dd H'
  | .st => False
def tI (X : Cx) (W : XK) (f : En → R (List D)) (lk : List Nat) : TI := fun σ H P => ∃ ρ Fs, EnvOk X.K H σ ρ Fs ∧ EndI X.K X.mg W Fs lk H P (f ρ)
structure SI (X : Cx) (W : XK) (tg iter : Expr) (f : En → R (List D)) (lk : List Nat) : Prop where
  pi : PI X tg iter (tI X W f lk)
theorem PI.imp {X : Cx} {tg e : Expr} {t t' : TI} (h : PI X tg e t) (i : ∀ σ H Q, t' σ H Q → t σ H Q) : PI X tg e t' := ⟨fun pins s σ H Q I q => h.run pins s σ H Q I (i σ H Q q)⟩
theorem pi_or {X : Cx} {tg e : Expr} {t t' : TI} (h : PI X tg e t) (h' : PI X tg e t') : PI X tg e (fun σ H Q => t σ H Q ∨ t' σ H Q) := ⟨fun pins s σ H Q I q => q.elim (h.run pins s σ H Q I) (h'.run pins s σ H Q I)⟩
/-- a container whose kind is told by its data -/
theorem tE_bindI {X : Cx} {W : XK} {fa : En → R D} {la : List Nat} {σ : Sg} {ρ : En} {Fs : List (List Addr)} {H : Hp} {P : VK} {Q : It → Hp → Prop} {g : D → R (List D)} (ok : EnvOk X.K H σ ρ Fs) {d : D} (e : fa ρ = .ok d)
    (h : EndI X.K X.mg W Fs la H Q (g d)) (k : ∀ v H1 F, Same H H1 → Rp X.K H1 d v F → Sub F Fs la H → P v H1) : tE X W fa la σ H P := by
  refine ⟨ρ, Fs, ok, ?_⟩
  rw [e]
  exact fun v H1 F s r u => k v H1 F s r u

def walked : D → R (List D)
  | .lst xs => .ok xs
  | .tup xs => .ok xs
  | .str s => .ok (s.map fun c => .str [c])
  | _ => .st
@[simp] def iA (f : En → R D) : En → R (List D) := fun ρ => (f ρ).bind walked
theorem ItOk.list {K : PySem.W.Frag} {H1 : Hp} {a : Addr} {xs : List V} {ds : List D} {G : List Addr} (q : H1 a = some (.lst xs)) (r : RpAll K H1 ds xs G) : ItOk K (Itl K a) ds (a :: G) H1 := fun N H2 e n i => by
  have q2 : SqL K H2 a xs := .inl (.inl (e.keep a _ q (n a List.mem_cons_self)))
  have r2 : RpAll K H2 ds xs G := RpAll.ext e ds xs G (fun b hb => n b (List.mem_cons_of_mem _ hb)) r
  refine ⟨fun d hd => ?_, fun hl => ⟨xs, q2, by rw [← r2.len]; exact hl⟩⟩
  obtain ⟨v, G2, e1, r3, s3⟩ := r2.get hd
  refine ⟨⟨xs, v, q2, e1⟩, fun x H3 hy => ?_⟩
  obtain ⟨rfl, f⟩ := hy
  have := f xs q2
  rw [e1] at this
  injection this with this
  subst this
  exact ⟨Same.refl _, G2, r3, fun b hb => List.mem_cons_of_mem _ (s3 b hb)⟩
theorem ItOk.tup {K : PySem.W.Frag} {H1 : Hp} {a : Addr} {xs : List V} {ds : List D} {G : List Addr} (q : SqT K H1 a xs) (r : RpAll K H1 ds xs G) : ItOk K (Itt K a) ds G H1 := fun N H2 e n i => by
  have q2 : SqT K H2 a xs := e.sqT q
  have r2 : RpAll K H2 ds xs G := RpAll.ext e ds xs G n r
  refine ⟨fun d hd => ?_, fun hl => ⟨xs, q2, by rw [← r2.len]; exact hl⟩⟩
  obtain ⟨v, G2, e1, r3, s3⟩ := r2.get hd
  refine ⟨⟨xs, v, q2, e1⟩, fun x H3 hy => ?_⟩
  obtain ⟨rfl, f⟩ := hy
  have := f xs q2
  rw [e1] at this
  injection this with this
  subst this
  exact ⟨Same.refl _, G2, r3, s3⟩
theorem okS_one {s : List Nat} {c : Nat} (o : okS s = true) (h : c ∈ s) : okS [c] = true := by
  simp only [okS, Bool.and_eq_true, List.all_eq_true, decide_eq_true_eq] at o ⊢
  refine ⟨fun x hx => ?_, by show 1 ≤ 16777216; decide⟩
  simp at hx
  rw [hx]
  exact o.1 c h
theorem ItOk.str {K : PySem.W.Frag} {H1 : Hp} {s : List Nat} (o : okS s = true) : ItOk K (Its ⟨s.toArray⟩) (s.map fun c => D.str [c]) [] H1 := fun N H2 e n i => by
  refine ⟨fun d hd => ?_, fun hl => by simpa [Its] using hl⟩
  rw [List.getElem?_map] at hd
  cases hc : s[i]? with
  | none => rw [hc] at hd; cases hd
  | some c =>
    rw [hc] at hd
    injection hd with hd
    subst hd
    refine ⟨?_, fun x H3 hy => ?_⟩
    · have := (List.getElem?_eq_some_iff.mp hc).1
      simpa [Its] using this
    · obtain ⟨rfl, c', e1, rfl⟩ := hy
      have e1 : s[i]? = some c' := by simpa using e1
      rw [hc] at e1
      injection e1 with e1
      subst e1
      refine ⟨Same.refl _, [], ?_, fun _ z => by cases z⟩
      simp only [Rp]
      exact ⟨trivial, okS_one o (List.mem_of_getElem? hc), trivial⟩

section
variable {X : Cx} {W : XK} {e a b c tg : Expr} {es rest : List Expr} {fa fb fc : En → R D} {fs : En → R (List D)} {la lb lc ls : List Nat} {pos p2 p : Pos}
theorem si_a (ha : SE X W a fa la) : SI X W tg a (iA fa) la := by
  refine ⟨PI.imp (pi_or (pi_or (pi_list ha.pe) (pi_tup ha.pe)) (pi_str ha.pe)) fun σ H P h => ?_⟩
  obtain ⟨ρ, Fs, ok, h⟩ := h
  unfold iA at h
  cases e : fa ρ with
  | st => rw [e] at h; exact h.elim
  | rs c n =>
    rw [e] at h
    refine .inl (.inl ⟨ρ, Fs, ok, ?_⟩)
    rw [e]
    exact h
  | ok d =>
    rw [e] at h
    simp only [R.bind] at h
    cases d <;> simp only [walked] at h <;> first | exact h.elim | skip
    case lst xs =>
      refine .inl (.inl (tE_bindI (g := walked) (Q := P) ok e h fun v H1 F s r u => ?_))
      simp only [Rp] at r
      obtain ⟨a, ys, G, rfl, rfl, q, r, l⟩ := r
      exact ⟨a, rfl, ⟨ys, .inl (.inl q)⟩, h _ H1 (a :: G) s (.list q r) u (fun b hb => by
        rcases List.mem_cons.mp hb with z | z
        · exact ⟨_, by rw [z]; exact q⟩
        · exact r.dom b z) l⟩
    case tup xs =>
      refine .inl (.inr (tE_bindI (g := walked) (Q := P) ok e h fun v H1 F s r u => ?_))
      simp only [Rp] at r
      obtain ⟨a, ys, rfl, q, r, l⟩ := r
      exact ⟨a, rfl, ⟨ys, q⟩, h _ H1 F s (.tup q r) u r.dom l⟩
    case str t =>
      refine .inr (tE_bindI (g := walked) (Q := P) ok e h fun v H1 F s r u => ?_)
      simp only [Rp] at r
      obtain ⟨rfl, o, rfl⟩ := r
      exact ⟨_, rfl, h _ H1 [] s (.str o) .nil (fun _ z => by cases z) (by
        rw [List.length_map]
        simp only [okS, Bool.and_eq_true, decide_eq_true_eq] at o
        exact o.2)⟩

def rngD (lo : Int) (n : Nat) : List D := (List.range n).map fun (k : Nat) => D.int (lo + (k : Int))
theorem rngD_len (lo : Int) (n : Nat) : (rngD lo n).length = n := by simp only [rngD, List.length_map, List.length_range]
def range1 : List D → R (List D)
  | [.int j] => if -4611686018427387904 ≤ j ∧ j.toNat ≤ big then .ok (rngD 0 j.toNat) else .st
  | _ => .st
def range2 : List D → R (List D)
  | [.int i, .int j] => if (-4611686018427387904 ≤ i ∧ i < 4611686018427387904) ∧ (-4611686018427387904 ≤ j ∧ j < 4611686018427387904) ∧ (j - i).toNat ≤ big then .ok (rngD i (j - i).toNat) else .st
  | _ => .st
@[simp] def iF (g : List D → R (List D)) (f : En → R (List D)) : En → R (List D) := fun ρ => (f ρ).bind g
theorem ItOk.rng {K : PySem.W.Frag} {H1 : Hp} {lo : Int} {n : Nat} : ItOk K (Itr lo n) (rngD lo n) [] H1 := fun N H2 e _ i => by
  refine ⟨fun d hd => ?_, fun hl => by simpa [Itr, rngD] using hl⟩
  unfold rngD at hd
  rw [List.getElem?_map] at hd
  cases hc : (List.range n)[i]? with
  | none => rw [hc] at hd; cases hd
  | some c =>
    rw [hc] at hd
    injection hd with hd
    subst hd
    have hi := (List.getElem?_eq_some_iff.mp hc).1
    have hv := (List.getElem?_eq_some_iff.mp hc).2
    simp at hi hv
    subst hv
    refine ⟨hi, fun x H3 hy => ?_⟩
    obtain ⟨rfl, rfl⟩ := hy
    exact ⟨Same.refl _, [], by simp [Rp], fun _ z => by cases z⟩
theorem tA_bindI {fa : En → R (List D)} {σ : Sg} {ρ : En} {Fs : List (List Addr)} {H : Hp} {P : List V → Hp → Prop} {Q : It → Hp → Prop} {g : List D → R (List D)} (ok : EnvOk X.K H σ ρ Fs)
    (h : EndI X.K X.mg W Fs la H Q ((fa ρ).bind g)) (k : ∀ ds v H1 F, Same H H1 → RpAll X.K H1 ds v F → Sub F Fs la H → EndI X.K X.mg W Fs la H Q (g ds) → P v H1) : tA X W fa la σ H P := by
  refine ⟨ρ, Fs, ok, ?_⟩
  cases e : fa ρ with
  | st => rw [e] at h; exact h.elim
  | rs c n => rw [e] at h; exact h
  | ok d =>
    rw [e] at h
    exact fun v H1 F s r u => k d v H1 F s r u h
theorem si_range1 (hm : X.mg "range" = none) (ha : SA X W [a] fs ls) (hg : Gl X "range" := by rfl) (hs : starEach [a] X.env = [(false, eval a X.env)] := by rfl) : SI X W tg (.Call (.Name "range" p) [a] [] pos) (iF range1 fs) ls := by
  refine ⟨PI.imp (pi_range1 hg hm ha.pa hs) fun σ H P h => ?_⟩
  obtain ⟨ρ, Fs, ok, h⟩ := h
  refine tA_bindI ok h fun ds v H1 F s r u h => ?_
  unfold range1 at h
  split at h
  · split at h
    · rename_i j hc
      obtain ⟨v, rfl, t⟩ := r.one_inv
      simp only [Rp] at t
      obtain ⟨rfl, _⟩ := t
      have hb : big = 16777216 := rfl
      have e62 : (2 : Int) ^ 62 = 4611686018427387904 := by decide
      exact ⟨j, rfl, by rw [e62]; exact hc.1, by omega, h _ H1 [] s .rng .nil (fun _ z => by cases z) (by rw [rngD_len]; exact hc.2)⟩
    · exact h.elim
  · exact h.elim
theorem si_range2 (hm : X.mg "range" = none) (ha : SA X W [a, b] fs ls) (hg : Gl X "range" := by rfl) (hs : starEach [a, b] X.env = [(false, eval a X.env), (false, eval b X.env)] := by rfl) (hs2 : starEach [b] X.env = [(false, eval b X.env)] := by rfl) :
    SI X W tg (.Call (.Name "range" p) [a, b] [] pos) (iF range2 fs) ls := by
  refine ⟨PI.imp (pi_range2 hg hm ha.pa hs hs2) fun σ H P h => ?_⟩
  obtain ⟨ρ, Fs, ok, h⟩ := h
  refine tA_bindI ok h fun ds v H1 F s r u h => ?_
  unfold range2 at h
  split at h
  · split at h
    · rename_i i j hc
      obtain ⟨v, v2, G1, G2, rfl, rfl, t1, t2⟩ := r.two_inv
      simp only [Rp] at t1 t2
      obtain ⟨rfl, _⟩ := t1
      obtain ⟨rfl, _⟩ := t2
      have e62 : (2 : Int) ^ 62 = 4611686018427387904 := by decide
      exact ⟨i, j, rfl, by rw [e62]; exact ⟨hc.1.1, hc.1.2, hc.2.1.1, hc.2.1.2⟩, h _ H1 [] s .rng .nil (fun _ z => by cases z) (by rw [rngD_len]; exact hc.2.2)⟩
    · exact h.elim
  · exact h.elim
/-- enumerate(list), zip(list, list) -/
def enumD (xs : List D) : List D := xs.zipIdx.map fun p => .tup [.int (p.2 : Int), p.1]
def enum1 : List D → R (List D)
  | [.lst xs] => .ok (enumD xs)
  | _ => .st
def zipD (xs ys : List D) : List D := List.zipWith (fun x y => .tup [x, y]) xs ys
def zip2 : List D → R (List D)
  | [.lst xs, .lst ys] => .ok (zipD xs ys)
  | _ => .st
theorem Rp.pair {K : PySem.W.Frag} {H : Hp} {T : Addr} {d d2 : D} {v v2 : V} {G G2 : List Addr} (n : H T = none) (r : Rp K H d v G) (r2 : Rp K H d2 v2 G2) : Rp K (upd H T (.tup [v, v2])) (.tup [d, d2]) (.ref T) (G ++ G2) :=
  .newT n (by simpa using RpAll.cons r (RpAll.one r2)) (by show 2 ≤ 16777216; decide)
theorem ItOk.enum {K : PySem.W.Frag} {H1 : Hp} {a : Addr} {xs : List V} {ds : List D} {G : List Addr} (q : H1 a = some (.lst xs)) (r : RpAll K H1 ds xs G) : ItOk K (Ite K a) (enumD ds) (a :: G) H1 := fun N H2 e n i => by
  have q2 : SqL K H2 a xs := .inl (.inl (e.keep a _ q (n a List.mem_cons_self)))
  have r2 : RpAll K H2 ds xs G := RpAll.ext e ds xs G (fun b hb => n b (List.mem_cons_of_mem _ hb)) r
  refine ⟨fun d hd => ?_, fun hl => ⟨xs, q2, by rw [← r2.len]; simpa [enumD] using hl⟩⟩
  unfold enumD at hd
  rw [List.getElem?_map, List.getElem?_zipIdx] at hd
  cases hc : ds[i]? with
  | none => rw [hc] at hd; cases hd
  | some c =>
    rw [hc] at hd
    simp at hd
    subst hd
    obtain ⟨v, G2, e1, r3, s3⟩ := r2.get hc
    refine ⟨⟨xs, v, q2, e1⟩, fun x H3 hy => ?_⟩
    obtain ⟨T, y, rfl, nT, rfl, f⟩ := hy
    have := f xs q2
    rw [e1] at this
    injection this with this
    subst this
    refine ⟨same_new nT, [] ++ G2, .pair nT (by simp [Rp]) r3, fun b hb => List.mem_cons_of_mem _ (s3 b (by simpa using hb))⟩
theorem ItOk.zip {K : PySem.W.Frag} {H1 : Hp} {a b : Addr} {xs ys : List V} {ds es : List D} {G G' : List Addr} (q : H1 a = some (.lst xs)) (r : RpAll K H1 ds xs G) (q' : H1 b = some (.lst ys)) (r' : RpAll K H1 es ys G') : ItOk K (Itz K a b) (zipD ds es) ((a :: G) ++ (b :: G')) H1 := fun N H2 e n i => by
  have q2 : SqL K H2 a xs := .inl (.inl (e.keep a _ q (n a (by simp))))
  have r2 : RpAll K H2 ds xs G := RpAll.ext e ds xs G (fun b hb => n b (by simp [hb])) r
  have q3 : SqL K H2 b ys := .inl (.inl (e.keep b _ q' (n b (by simp))))
  have r3 : RpAll K H2 es ys G' := RpAll.ext e es ys G' (fun b hb => n b (by simp [hb])) r'
  refine ⟨fun d hd => ?_, fun hl => ⟨xs, ys, q2, q3, by
    rw [← r2.len, ← r3.len]
    simp [zipD] at hl
    omega⟩⟩
  unfold zipD at hd
  rw [List.getElem?_zipWith] at hd
  cases hc : ds[i]? with
  | none => rw [hc] at hd; cases hd
  | some c =>
    rw [hc] at hd
    cases hc2 : es[i]? with
    | none => rw [hc2] at hd; cases hd
    | some c2 =>
      rw [hc2] at hd
      simp at hd
      subst hd
      obtain ⟨v, G2, e1, r4, s4⟩ := r2.get hc
      obtain ⟨v2, G3, e2, r5, s5⟩ := r3.get hc2
      refine ⟨⟨xs, ys, v, v2, q2, q3, e1, e2⟩, fun x H3 hy => ?_⟩
      obtain ⟨T, y, y2, rfl, nT, rfl, f, f2⟩ := hy
      have z := f xs q2
      rw [e1] at z
      injection z with z
      subst z
      have z := f2 ys q3
      rw [e2] at z
      injection z with z
      subst z
      refine ⟨same_new nT, G2 ++ G3, .pair nT r4 r5, fun c hc => ?_⟩
      rcases List.mem_append.mp hc with z | z
      · have := s4 c z; simp [this]
      · have := s5 c z; simp [this]
theorem si_enum {elts : List Expr} {kk : Nat} {tpos : Pos} (hm : X.mg "enumerate" = none) (ha : SA X W [a] fs ls) (hg : Gl X "enumerate" := by rfl) (hs : starEach [a] X.env = [(false, eval a X.env)] := by rfl) :
    SI X W (.Tuple elts kk tpos) (.Call (.Name "enumerate" p) [a] [] pos) (iF enum1 fs) ls := by
  refine ⟨PI.imp (pi_enum hg hm ha.pa hs) fun σ H P h => ?_⟩
  obtain ⟨ρ, Fs, ok, h⟩ := h
  refine tA_bindI ok h fun ds v H1 F s r u h => ?_
  unfold enum1 at h
  split at h
  · obtain ⟨v, rfl, t⟩ := r.one_inv
    simp only [Rp] at t
    obtain ⟨a, ys, G, rfl, rfl, q, r, l⟩ := t
    exact ⟨a, ys, rfl, .inl (.inl q), h _ H1 _ s (.enum q r) u (fun b hb => by
        rcases List.mem_cons.mp hb with z | z
        · exact ⟨_, by rw [z]; exact q⟩
        · exact r.dom b z) (by simpa [enumD] using l)⟩
  · exact h.elim
theorem si_zip {elts : List Expr} {kk : Nat} {tpos : Pos} (hm : X.mg "zip" = none) (ha : SA X W [a, b] fs ls) (hg : Gl X "zip" := by rfl) (hs : starEach [a, b] X.env = (false, eval a X.env) :: starEach [b] X.env := by rfl) (hpl : (backTo pos (starEach [b] X.env)).any (·.1) = false := by rfl) :
    SI X W (.Tuple elts kk tpos) (.Call (.Name "zip" p) [a, b] [] pos) (iF zip2 fs) ls := by
  refine ⟨PI.imp (pi_zip hg hm ha.pa hs hpl) fun σ H P h => ?_⟩
  obtain ⟨ρ, Fs, ok, h⟩ := h
  refine tA_bindI ok h fun ds v H1 F s r u h => ?_
  unfold zip2 at h
  split at h
  · obtain ⟨v, v2, G1, G2, rfl, rfl, t1, t2⟩ := r.two_inv
    have t1' := t1
    have t2' := t2
    simp only [Rp] at t1 t2
    obtain ⟨a, ys, G, rfl, rfl, q, r1, l⟩ := t1
    obtain ⟨b, zs, G', rfl, rfl, q', r2, l'⟩ := t2
    exact ⟨a, b, ys, zs, rfl, .inl (.inl q), .inl (.inl q'), h _ H1 _ s (.zip q r1 q' r2) u (fun c hc => by
        rcases List.mem_append.mp hc with z | z
        · exact t1'.dom c z
        · exact t2'.dom c z) (by simp [zipD]; omega)⟩
  · exact h.elim

/-! ### targets -/
def tG (X : Cx) (vs : List Nat) (g : D → En → R En) : TG := fun v σ H Q => ∃ d F ρ Fs, EnvOk X.K H σ ρ Fs ∧ Rp X.K H d v F ∧ match g d ρ with
  | .ok ρ' => ∀ σ' Fs', EnvOk X.K H σ' ρ' Fs' → σ'.length = σ.length → (∀ j, j ∉ vs → σ'[j]? = σ[j]? ∧ Fs'[j]? = Fs[j]?) → (∀ j ∈ vs, ∀ G, Fs'[j]? = some G → ∀ a ∈ G, a ∈ F) → Q σ' H
  | _ => False
structure SG (X : Cx) (tg : Expr) (vs : List Nat) (g : D → En → R En) : Prop where
  pg : PG X tg (tG X vs g)
theorem PG.imp {X : Cx} {e : Expr} {t t' : TG} (h : PG X e t) (i : ∀ v σ H Q, t' v σ H Q → t v σ H Q) : PG X e t' := ⟨fun pins s σ H v u Q I r q => h.run pins s σ H v u Q I r (i v σ H Q q)⟩
@[simp] def gN (i : Nat) : D → En → R En := fun d ρ => .ok (ρ.set i (some d))
theorem sg_name {i : Nat} {x : Str} (hN : X.N.Nodup) (hi : X.N[i]? = some x) (hx : Loc X.env.scope x) (hf : X.fn x = true ∨ X.env.scope.names.lookup x = some .local := by first | exact .inl rfl | exact .inr rfl | assumption) : SG X (.Name x pos) [i] (gN i) := by
  refine ⟨PG.imp (pg_name hN hi hx hf) fun v σ H Q h => ?_⟩
  obtain ⟨d, F, ρ, Fs, ok, r, h⟩ := h
  refine h _ (Fs.set i F) (ok.set r) (by simp) (fun j hj => ?_) (fun j hj G e a ha => ?_)
  · have : i ≠ j := fun z => hj (by simp [z])
    rw [List.getElem?_set_ne this, List.getElem?_set_ne this]
    exact ⟨rfl, rfl⟩
  · simp at hj
    subst hj
    by_cases hl : j < Fs.length
    · rw [List.getElem?_set_self hl] at e
      injection e with e
      rw [e]
      exact ha
    · rw [List.getElem?_eq_none (by simpa using hl)] at e
      cases e
/-- several targets -/
def tGs (X : Cx) (vs : List Nat) (g : List D → En → R En) : TGs := fun xs σ H Q => ∃ ds F ρ Fs, EnvOk X.K H σ ρ Fs ∧ RpAll X.K H ds xs F ∧ match g ds ρ with
  | .ok ρ' => ∀ σ' Fs', EnvOk X.K H σ' ρ' Fs' → σ'.length = σ.length → (∀ j, j ∉ vs → σ'[j]? = σ[j]? ∧ Fs'[j]? = Fs[j]?) → (∀ j ∈ vs, ∀ G, Fs'[j]? = some G → ∀ a ∈ G, a ∈ F) → Q σ' H
  | _ => False
structure SGs (X : Cx) (tg : List Expr) (vs : List Nat) (g : List D → En → R En) : Prop where
  pg : PGs X tg (tGs X vs g)
@[simp] def gsN : List D → En → R En
  | [], ρ => .ok ρ
  | _, _ => .st
@[simp] def gsC (g : D → En → R En) (r : List D → En → R En) : List D → En → R En
  | d :: ds, ρ => (g d ρ).bind fun ρ' => r ds ρ'
  | _, _ => .st
theorem sgs_nil : SGs X [] [] gsN := by
  refine ⟨⟨fun pins s σ H vs us Q I r h => pgs_nil.run pins s σ H vs us Q I r ?_⟩⟩
  obtain ⟨ds, F, ρ, Fs, ok, ra, h⟩ := h
  cases ds with
  | nil =>
    simp only [RpAll] at ra
    exact ⟨ra.1, h σ Fs ok rfl (fun _ _ => ⟨rfl, rfl⟩) (fun _ z => by cases z)⟩
  | cons d ds => exact h.elim
theorem sgs_cons {vs vs2 : List Nat} {g : D → En → R En} {g2 : List D → En → R En} (h1 : SG X e vs g) (h2 : SGs X es vs2 g2) (hd : ∀ j ∈ vs, j ∉ vs2) (hs : (assignEach (e :: es) X.env).map (·.2) = assign e X.env :: (assignEach es X.env).map (·.2) := by rfl) : SGs X (e :: es) (vs ++ vs2) (gsC g g2) := by
  refine ⟨⟨fun pins s σ H xs us Q I r h => (pgs_cons h1.pg h2.pg hs).run pins s σ H xs us Q I r ?_⟩⟩
  obtain ⟨ds, F, ρ, Fs, ok, ra, h⟩ := h
  cases ds with
  | nil => exact h.elim
  | cons d ds =>
    simp only [RpAll] at ra
    obtain ⟨v, vr, G1, G2, rfl, rfl, r1, r2⟩ := ra
    refine ⟨v, vr, rfl, d, G1, ρ, Fs, ok, r1, ?_⟩
    simp only [gsC] at h
    cases e1 : g d ρ with
    | st => rw [e1] at h; exact h.elim
    | rs c n => rw [e1] at h; exact h.elim
    | ok ρ1 =>
      rw [e1] at h
      intro σ1 Fs1 ok1 z1 k1 u1
      refine ⟨ds, G2, ρ1, Fs1, ok1, r2, ?_⟩
      simp only [R.bind] at h
      cases e2 : g2 ds ρ1 with
      | st => rw [e2] at h; exact h.elim
      | rs c n => rw [e2] at h; exact h.elim
      | ok ρ2 =>
        rw [e2] at h
        intro σ2 Fs2 ok2 z2 k2 u2
        refine h σ2 Fs2 ok2 (z2.trans z1) (fun j hj => ?_) (fun j hj G hG a ha => ?_)
        · simp only [List.mem_append, not_or] at hj
          obtain ⟨q1, q2⟩ := k1 j hj.1
          obtain ⟨q3, q4⟩ := k2 j hj.2
          exact ⟨q3.trans q1, q4.trans q2⟩
        · rcases List.mem_append.mp hj with z | z
          · have := (k2 j (hd j z)).2
            rw [this] at hG
            exact List.mem_append_left _ (u1 j z G hG a ha)
          · exact List.mem_append_right _ (u2 j z G hG a ha)
@[simp] def gT (n : Nat) (g : List D → En → R En) : D → En → R En
  | .tup ds, ρ => if ds.length = n then g ds ρ else .st
  | _, _ => .st
theorem sg_tup {k n : Nat} {vs : List Nat} {g : List D → En → R En} (hc : X.calm = true) (h : SGs X es vs g) (hn : (assignEach es X.env).length = n := by rfl) (hst : (assignEach es X.env).findIdx? (·.1) = none := by rfl) : SG X (.Tuple es k pos) vs (gT n g) := by
  refine ⟨PG.imp (pg_tup hc h.pg hn hst) fun v σ H Q h => ?_⟩
  obtain ⟨d, F, ρ, Fs, ok, r, h⟩ := h
  cases d <;> simp only [gT] at h <;> first | exact h.elim | skip
  split at h
  · rename_i ds ρ' e
    split at e
    · rename_i hl
      simp only [Rp] at r
      obtain ⟨a, xs, rfl, q, r, _⟩ := r
      refine ⟨a, xs, rfl, q, by rw [← r.len]; exact hl, _, F, ρ, Fs, ok, r, ?_⟩
      rw [e]
      exact h
    · cases e
  · exact h.elim

/-! ### list comprehensions -/
structure STs (X : Cx) (W : XK) (e : List Expr) (f : En → R Bool) : Prop where
  pt : PTs X e (tT X W f)
@[simp] def tY : En → R Bool := fun _ => .ok true
theorem sts_nil : STs X W [] tY := by
  refine ⟨⟨fun pins s σ H Q I h => pts_nil.run pins s σ H Q I ?_⟩⟩
  obtain ⟨ρ, Fs, ok, h⟩ := h
  exact h H (Same.refl H)
theorem sts_one {f : En → R Bool} (h : ST X W e f) : STs X W [e] f := ⟨pts_one h.pt⟩

def noR {α : Type} : R α → R α
  | .ok a => .ok a
  | _ => .st
@[simp] theorem noR_ok {α : Type} (a : α) : noR (.ok a) = .ok a := rfl
@[simp] def wipeE (ρ : En) : List Nat → En
  | [] => ρ
  | v :: vs => (wipeE ρ vs).set v none
def lcTurn (g : D → En → R En) (t : En → R Bool) (el : En → R D) (ρ0 : En) (d : D) : R (Option D) := noR ((g d ρ0).bind fun ρ2 => (t ρ2).bind fun k => if k then (el ρ2).bind fun y => .ok (some y) else .ok none)
def lcL (f : D → R (Option D)) : List D → R (List D)
  | [] => .ok []
  | d :: ds => (f d).bind fun o => (lcL f ds).bind fun ys => .ok (o.toList ++ ys)
def cLC (vs : List Nat) (it : En → R (List D)) (g : D → En → R En) (t : En → R Bool) (el : En → R D) : En → R D := fun ρ => (it ρ).bind fun ds => (lcL (lcTurn g t el (wipeE ρ vs)) ds).bind fun ys => .ok (.lst ys)

theorem wipe_ok {K : PySem.W.Frag} {H : Hp} {σ : Sg} {ρ : En} {Fs : List (List Addr)} (ok : EnvOk K H σ ρ Fs) : ∀ vs : List Nat, EnvOk K H (wipe σ vs) (wipeE ρ vs) Fs
  | [] => ok
  | v :: vs => by
    have ih := wipe_ok ok vs
    unfold wipe wipeE
    refine ⟨by rw [List.length_set, List.length_set]; exact ih.ls, by rw [List.length_set]; exact ih.lF, ih.dm, fun i d hd => ?_⟩
    by_cases hi : v = i
    · subst hi
      by_cases hl : v < (wipeE ρ vs).length
      · rw [List.getElem?_set_self hl] at hd
        cases hd
      · rw [List.getElem?_eq_none (by simpa using hl)] at hd
        cases hd
    · rw [List.getElem?_set_ne hi] at hd ⊢
      exact ih.get i d hd
theorem wipe_get (σ : Sg) (j : Nat) : ∀ vs : List Nat, (wipe σ vs)[j]? = if j ∈ vs ∧ j < σ.length then some none else σ[j]?
  | [] => by simp [wipe]
  | v :: vs => by
    unfold wipe
    by_cases hv : v = j
    · subst hv
      by_cases hl : v < σ.length
      · rw [List.getElem?_set_self (by rw [wipe_length]; exact hl), if_pos ⟨List.mem_cons_self, hl⟩]
      · rw [List.getElem?_eq_none (by rw [List.length_set, wipe_length]; omega), if_neg (fun z => hl z.2), List.getElem?_eq_none (by omega)]
    · rw [List.getElem?_set_ne hv, wipe_get σ j vs]
      have : (j ∈ v :: vs ∧ j < σ.length) ↔ (j ∈ vs ∧ j < σ.length) := by simp [Ne.symm hv]
      by_cases hc : j ∈ vs ∧ j < σ.length
      · rw [if_pos hc, if_pos (this.mpr hc)]
      · rw [if_neg hc, if_neg fun z => hc (this.mp z)]
theorem wipe_back {σ σ2 : Sg} {vs tv : List Nat} (hl : σ2.length = (wipe σ vs).length) (hs : ∀ j, j ∉ tv → σ2[j]? = (wipe σ vs)[j]?) (ht : ∀ j ∈ tv, j ∈ vs) : wipe σ2 vs = wipe σ vs := by
  refine List.ext_getElem? fun j => ?_
  rw [wipe_get, wipe_get]
  rw [wipe_length] at hl
  by_cases hj : j ∈ vs
  · by_cases hz : j < σ.length
    · rw [if_pos ⟨hj, by omega⟩, if_pos ⟨hj, hz⟩]
    · rw [if_neg (fun z => hz (by omega)), if_neg (fun z => hz z.2), List.getElem?_eq_none (by omega), List.getElem?_eq_none (by omega)]
  · rw [if_neg (fun z => hj z.1), if_neg (fun z => hj z.1), hs j fun z => hj (ht j z), wipe_get, if_neg (fun z => hj z.1)]

/-- the end of a comprehension, at its new list -/
def EndN (K : PySem.W.Frag) (mg : Str → Option Value) (W : XK) (Fs : List (List Addr)) (lk : List Nat) (H : Hp) (Q : VK) : R D → Prop
  | .ok d => ∀ p H' F xs, Same H H' → Rp K H' d (.ref p) (p :: F) → Sub (p :: F) Fs lk H → H p = none → p ∉ F → H' p = some xs → Mut (some xs) → Q (.ref p) H'
  | .rs c n => ∀ cls dd H', Same H H' → IsX mg H' cls dd c n → W cls dd H'
  | .st => False
def tN (X : Cx) (W : XK) (f : En → R D) (lk : List Nat) : TE := fun σ H Q => ∃ ρ Fs, EnvOk X.K H σ ρ Fs ∧ EndN X.K X.mg W Fs lk H Q (f ρ)
/-- the expression e makes a new object that is worth f -/
structure SN (X : Cx) (W : XK) (e : Expr) (f : En → R D) (lk : List Nat) : Prop where
  pe : PE X e (tN X W f lk)
theorem EndE.toN {K : PySem.W.Frag} {mg : Str → Option Value} {Fs : List (List Addr)} {lk : List Nat} {H : Hp} {Q : VK} {r : R D} (h : EndE K mg W Fs lk H Q r) : EndN K mg W Fs lk H Q r := by
  cases r with
  | ok d => exact fun p H' F xs s r u _ _ _ _ => h _ H' _ s r u
  | rs c n => exact h
  | st => exact h
theorem SN.se {f : En → R D} (h : SN X W e f la) : SE X W e f la := ⟨PE.imp h.pe fun σ H Q ⟨ρ, Fs, ok, q⟩ => ⟨ρ, Fs, ok, q.toN⟩⟩

theorem lcL_drop {f : D → R (Option D)} {ds : List D} {ys : List D} {i : Nat} {d : D} (h : lcL f (ds.drop i) = .ok ys) (e : ds[i]? = some d) : ∃ o zs, f d = .ok o ∧ lcL f (ds.drop (i + 1)) = .ok zs ∧ ys = o.toList ++ zs := by
  have hd : ds.drop i = d :: ds.drop (i + 1) := by
    obtain ⟨hl, he⟩ := List.getElem?_eq_some_iff.mp e
    rw [List.drop_eq_getElem_cons hl, he]
  rw [hd, lcL] at h
  cases e1 : f d with
  | st => rw [e1] at h; cases h
  | rs c n => rw [e1] at h; cases h
  | ok o =>
    rw [e1] at h
    simp only [R.bind] at h
    cases e2 : lcL f (ds.drop (i + 1)) with
    | st => rw [e2] at h; cases h
    | rs c n => rw [e2] at h; cases h
    | ok zs =>
      rw [e2] at h
      injection h with h
      exact ⟨o, zs, rfl, rfl, h.symm⟩
theorem lcL_len {f : D → R (Option D)} : ∀ {ds ys : List D}, lcL f ds = .ok ys → ys.length ≤ ds.length
  | [], ys, h => by
    simp only [lcL] at h
    injection h with h
    rw [← h]
    exact Nat.le_refl _
  | d :: ds, ys, h => by
    obtain ⟨o, zs, _, h2, rfl⟩ := lcL_drop (ds := d :: ds) (i := 0) (d := d) h rfl
    have := lcL_len (ds := ds) h2
    cases o <;> simp <;> omega
theorem noR_inv {α : Type} {r : R α} {a : α} (h : noR r = .ok a) : r = .ok a := by
  cases r with
  | ok b => exact h
  | rs c n => cases h
  | st => cases h
theorem bind_inv {α β : Type} {r : R α} {g : α → R β} {b : β} (h : r.bind g = .ok b) : ∃ a, r = .ok a ∧ g a = .ok b := by
  cases r with
  | ok a => exact ⟨a, rfl, h⟩
  | rs c n => cases h
  | st => cases h

/-- what the reading of a comprehension asks, from its parts -/
theorem lc_use {own : List Nat} {li le : List Nat} {tv : List Nat} {fi : En → R (List D)} {g : D → En → R En} {t : En → R Bool} {el : En → R D} {wg : TG} {wt : TT} {we : TE} {σ : Sg} {H : Hp} {Q : VK}
    (htv : ∀ j ∈ tv, j ∈ own) (hle : ∀ j ∈ le, j ∈ tv ∨ j ∈ lb)
    (hg : ∀ v σ H Q, tG X tv g v σ H Q → wg v σ H Q) (ht : ∀ σ H Q, tT X W0 t σ H Q → wt σ H Q) (he : ∀ σ H Q, tE X W0 el le σ H Q → we σ H Q)
    (h : tN X W (cLC own fi g t el) (li ++ lb) σ H Q) : tLc (tI X W fi li) wg wt we own σ H Q := by
  obtain ⟨ρ, Fs, ok, h⟩ := h
  unfold cLC at h
  refine ⟨ρ, Fs, ok, ?_⟩
  cases e : fi ρ with
  | st => rw [e] at h; exact h.elim
  | rs c n => rw [e] at h; exact h
  | ok ds =>
    rw [e] at h
    simp only [R.bind] at h
    intro J H1 Fi s1 io ui di hb D nD
    cases e2 : lcL (lcTurn g t el (wipeE ρ own)) ds with
    | st => rw [e2] at h; exact h.elim
    | rs c n =>
      exfalso
      clear h
      revert e2
      clear io hb e
      induction ds with
      | nil => intro e2; cases e2
      | cons d ds ih =>
        intro e2
        rw [lcL] at e2
        cases e3 : lcTurn g t el (wipeE ρ own) d with
        | st => rw [e3] at e2; cases e2
        | rs c n =>
          unfold lcTurn noR at e3
          split at e3 <;> cases e3
        | ok o =>
          rw [e3] at e2
          simp only [R.bind] at e2
          cases e4 : lcL (lcTurn g t el (wipeE ρ own)) ds with
          | st => rw [e4] at e2; cases e2
          | ok ys => rw [e4] at e2; cases e2
          | rs c2 n2 =>
            rw [e4] at e2
            cases e2
            exact ih e4
    | ok all =>
      rw [e2] at h
      have nF : ∀ a ∈ Fi, a ≠ D := fun a ha z => by
        obtain ⟨x, q⟩ := di a ha
        rw [z, nD] at q
        cases q
      have nFs : ∀ F ∈ Fs, ∀ a ∈ F, a ≠ D := fun F hF a ha z => by
        obtain ⟨x, q⟩ := ok.dm F hF a ha
        have := s1 a x q
        rw [z, nD] at this
        cases this
      have sD : Same H1 (upd H1 D (.lst [])) := same_new nD
      refine ⟨fun i m Hc => m = ds.length - i ∧ i ≤ ds.length ∧ ∃ ys acc G zs, Hc D = some (.lst acc) ∧ RpAll X.K Hc ys acc G ∧ D ∉ G ∧ Sub G Fs (li ++ lb) H ∧ Ext (fun a => a = D) H1 Hc ∧ lcL (lcTurn g t el (wipeE ρ own)) (ds.drop i) = .ok zs ∧ ys ++ zs = all ∧ ys.length ≤ i,
        ⟨ds.length, by omega, Nat.zero_le _, [], [], [], all, upd_same, .nil, (fun z => by cases z), .nil, .of sD, by simpa using e2, rfl, Nat.le_refl _⟩, ?_⟩
      rintro i m Hc ⟨rfl, hi, ys, acc, G, zs, eD, ra, nG, uG, xt, ez, ea, hy⟩
      have io2 := io (fun a => a = D) Hc xt nF i
      by_cases hlt : i < ds.length
      · -- one more turn
        have ed : ds[i]? = some ds[i] := List.getElem?_eq_getElem hlt
        obtain ⟨go, yl⟩ := io2.1 _ ed
        refine .inr ⟨go, fun H' => ∃ ys acc G zs, H' D = some (.lst acc) ∧ RpAll X.K H' ys acc G ∧ D ∉ G ∧ Sub G Fs (li ++ lb) H ∧ Ext (fun a => a = D) H1 H' ∧ lcL (lcTurn g t el (wipeE ρ own)) (ds.drop (i + 1)) = .ok zs ∧ ys ++ zs = all ∧ ys.length ≤ i + 1,
          fun H' hN => ⟨ds.length - (i + 1), by omega, rfl, hlt, hN⟩, fun x H' hy' => ?_⟩
        obtain ⟨s2, Gx, rx, ux⟩ := yl x H' hy'
        obtain ⟨o, zs2, ef, ez2, rfl⟩ := lcL_drop ez ed
        have ef := noR_inv ef
        obtain ⟨ρ2, eg, ef⟩ := bind_inv ef
        have xt2 : Ext (fun a => a = D) H1 H' := xt.trans (.of (N := fun _ => False) s2) fun a z => z.elim
        have okH : EnvOk X.K H' σ ρ Fs := (ok.same s1).ext xt2 nFs
        refine hg _ _ _ _ ⟨ds[i], Gx, wipeE ρ own, Fs, wipe_ok okH own, rx, ?_⟩
        rw [eg]
        intro σ2 Fs2 ok2 l2 k2 u2
        refine ⟨wipe_back l2 (fun j hj => (k2 j hj).1) htv, ht _ _ _ ⟨ρ2, Fs2, ok2, ?_⟩⟩
        obtain ⟨kb, et, ef⟩ := bind_inv ef
        rw [et]
        intro H3 s3
        have eD3 : H3 D = some (.lst acc) := s3 _ _ (s2 _ _ eD)
        have xt3 : Ext (fun a => a = D) H1 H3 := xt2.trans (.of (N := fun _ => False) s3) fun a z => z.elim
        have ra3 : RpAll X.K H3 ys acc G := (ra.same s2).same s3
        cases kb with
        | false =>
          rw [if_neg Bool.false_ne_true] at ef ⊢
          injection ef with ef
          subst ef
          exact ⟨ys, acc, G, zs2, eD3, ra3, nG, uG, xt3, ez2, by simpa using ea, by omega⟩
        | true =>
          rw [if_pos rfl] at ef ⊢
          obtain ⟨y, ee, ef⟩ := bind_inv ef
          injection ef with ef
          subst ef
          refine he _ _ _ ⟨ρ2, Fs2, ok2.same s3, ?_⟩
          rw [ee]
          intro v H4 Fy s4 ry uy
          have eD4 : H4 D = some (.lst acc) := s4 _ _ eD3
          have back : ∀ a, H3 a = none → H a = none := fun a z => by
            cases q : H a with
            | none => rfl
            | some x =>
              obtain ⟨y, q2⟩ := xt3.stay a x (s1 a x q)
              rw [z] at q2
              cases q2
          have uy2 : Sub Fy Fs (li ++ lb) H := fun a ha => by
            rcases uy a ha with ⟨j, hj, G2, e3, m⟩ | z
            · by_cases hjt : j ∈ tv
              · rcases ui a (ux a (u2 j hjt G2 e3 a m)) with ⟨j2, hj2, q⟩ | z
                · exact .inl ⟨j2, List.mem_append_left _ hj2, q⟩
                · exact .inr z
              · rw [(k2 j hjt).2] at e3
                exact .inl ⟨j, List.mem_append_right _ ((hle j hj).resolve_left hjt), G2, e3, m⟩
            · exact .inr (back a z)
          have nDy : D ∉ Fy := fun ha => by
            rcases uy D ha with ⟨j, hj, G2, e3, m⟩ | z
            · by_cases hjt : j ∈ tv
              · exact nF D (ux D (u2 j hjt G2 e3 D m)) rfl
              · rw [(k2 j hjt).2] at e3
                exact nFs G2 (List.mem_of_getElem? e3) D m rfl
            · rw [eD3] at z
              cases z
          have xu : Ext (fun a => a = D) H4 (upd H4 D (.lst (acc ++ [v]))) := ⟨fun b x q n => by rw [upd_ne n]; exact q, fun b x q n => by
            have : b ≠ D := fun z => by
              rw [z, eD4] at q
              injection q with q
              subst q
              exact n trivial
            rw [upd_ne this]
            exact q, fun b x q => by
            by_cases z : b = D
            · exact ⟨_, by rw [z]; exact upd_same⟩
            · exact ⟨x, by rw [upd_ne z]; exact q⟩⟩
          have hlen : ys.length = acc.length := ra.len
          have hbb : big = sizeLine := big_line
          refine ⟨acc, eD4, by omega, ys ++ [y], acc ++ [v], G ++ Fy, zs2, upd_same, ?_, ?_, uG.app uy2, ?_, ez2, by simpa using ea, by simp; omega⟩
          · refine RpAll.ext xu _ _ _ (fun a ha z => ?_) ((ra3.same s4).append (.one ry))
            subst z
            rcases List.mem_append.mp ha with q | q
            · exact nG q
            · exact nDy q
          · intro ha
            rcases List.mem_append.mp ha with q | q
            · exact nG q
            · exact nDy q
          · exact (xt3.trans (.of (N := fun _ => False) s4) fun a z => z.elim).trans xu fun a z => .inl z
      · -- the end
        have hie : i = ds.length := by omega
        subst hie
        refine .inl ⟨io2.2 (Nat.le_refl _), ?_⟩
        rw [List.drop_length] at ez
        injection ez with ez
        subst ez
        rw [List.append_nil] at ea
        subst ea
        refine h D Hc G _ (fun b x q => xt.keep b x (s1 b x q) fun z => ?_) ?_ ?_ (s1.free nD) nG eD trivial
        · rw [z] at q
          have := s1 D x q
          rw [nD] at this
          cases this
        · simp only [Rp]
          exact ⟨D, acc, G, rfl, rfl, eD, ra, Nat.le_trans hy hb⟩
        · exact fun a ha => by
            rcases List.mem_cons.mp ha with z | z
            · rw [z]; exact .inr (s1.free nD)
            · exact uG a z
end
end Ev

/-! Ev, part G: new objects; statements. -/
namespace Ev
open PySem PySem.Spec L2

def sans (l tv : List Nat) : List Nat := l.filter fun j => !(tv.contains j)
theorem sans_or {l tv : List Nat} : ∀ j ∈ l, j ∈ tv ∨ j ∈ sans l tv := fun j hj => by
  by_cases h : j ∈ tv
  · exact .inl h
  · exact .inr (List.mem_filter.mpr ⟨hj, by simpa using h⟩)
section
variable {X : Cx} {W : XK} {e a b c tg iter elt : Expr} {es rest ifs : List Expr} {fa fb fc : En → R D} {fs fi : En → R (List D)} {la lb lc ls li le : List Nat} {pos p2 p : Pos} {lv : Nat} {scope : Scope} {own : List (Str × Nat)} {tv : List Nat} {g : D → En → R En} {t : En → R Bool} {el : En → R D}

theorem sn_lc (G : Good lv X W) (hi : SI X W tg iter fi li) (ok : BlkOk X.N X.env.scope scope own) (hg : ∀ (s : Shared) (H : Hp) (C : Addr) (cl : List (Str × Addr)) (fp : List Addr), SG (X.blk s H scope (compEnvC scope cl C X.env) fp) tg tv g)
    (ht : ∀ (s : Shared) (H : Hp) (C : Addr) (cl : List (Str × Addr)) (fp : List Addr), STs (X.blk s H scope (compEnvC scope cl C X.env) fp) W0 ifs t)
    (he : ∀ (s : Shared) (H : Hp) (C : Addr) (cl : List (Str × Addr)) (fp : List Addr), SE (X.blk s H scope (compEnvC scope cl C X.env) fp) W0 elt el le)
    (htv : ∀ j ∈ tv, j ∈ own.map (·.2)) (hs : ∀ x, foldedSetIterable iter X.env x = pure x := by intro _; rfl) :
    SN X W (.ListComp elt [⟨tg, iter, ifs, 0⟩] scope pos) (cLC (own.map (·.2)) fi g t el) (li ++ sans le tv) :=
  ⟨PE.imp (pe_lc (g := tG X tv g) (tt := tT X W0 t) (te := tE X W0 el le) G.calm G.nd hi.pi ok (fun s H C cl fp => (hg s H C cl fp).pg) (fun s H C cl fp => (ht s H C cl fp).pt) (fun s H C cl fp => (he s H C cl fp).pe) hs)
    fun σ H Q h => lc_use htv sans_or (fun _ _ _ _ h => h) (fun _ _ _ h => h) (fun _ _ _ h => h) h⟩

/-- a new list of known values -/
theorem EndN.newL {K : PySem.W.Frag} {mg : Str → Option Value} {Fs : List (List Addr)} {lk : List Nat} {H0 H : Hp} {Q : VK} {ds : List D} {xs : List V} {F : List Addr} {p : Addr} (h : EndN K mg W Fs lk H0 Q (.ok (.lst ds))) (s : Same H0 H) (r : RpAll K H ds xs F) (u : Sub F Fs lk H0) (hp : H p = none) (l : ds.length ≤ big) : Q (.ref p) (upd H p (.lst xs)) :=
  h p _ F (.lst xs) (s.trans (same_new hp)) (.newL hp r l) (u.new s hp) (s.free hp) (fun z => by
    obtain ⟨x, q⟩ := r.dom p z
    rw [hp] at q
    cases q) upd_same trivial
theorem tA_bindN {fa : En → R (List D)} {σ : Sg} {ρ : En} {Fs : List (List Addr)} {H : Hp} {P : List V → Hp → Prop} {Q : VK} {g : List D → R D} (ok : EnvOk X.K H σ ρ Fs)
    (h : EndN X.K X.mg W Fs la H Q ((fa ρ).bind g)) (k : ∀ ds v H1 F, Same H H1 → RpAll X.K H1 ds v F → Sub F Fs la H → EndN X.K X.mg W Fs la H Q (g ds) → P v H1) : tA X W fa la σ H P := by
  refine ⟨ρ, Fs, ok, ?_⟩
  cases e : fa ρ with
  | st => rw [e] at h; exact h.elim
  | rs c n => rw [e] at h; exact h
  | ok d =>
    rw [e] at h
    exact fun v H1 F s r u => k d v H1 F s r u h
theorem sn_lst (ha : SA X W es fs ls) : SN X W (.List es pos) (cLst fs) ls := by
  refine ⟨PE.imp (pe_lst ha.pa) fun σ H Q h => ?_⟩
  obtain ⟨ρ, Fs, ok, h⟩ := h
  refine tA_bindN ok h fun d1 v1 H1 F1 s1 r1 u1 h1 => ?_
  split at h1
  · rename_i hl
    exact ⟨by rw [← r1.len, ← big_line]; exact hl, fun p hp => h1.newL s1 r1 u1 hp hl⟩
  · exact h1.elim
theorem sn_list {x : Str} (hm : X.mg "list" = none) (ha : SA X W [a] fs ls) (hg : Gl X "list" := by rfl) (he : starEach (a :: []) X.env = (false, eval a X.env) :: starEach [] X.env := by rfl) (hpl : (backTo pos (starEach [] X.env)).any (·.1) = false := by rfl) :
    SN X W (.Call (.Name "list" p) [a] [] pos) (cA gList fs) ls := by
  refine ⟨PE.imp (pe_callTy call_list_of hg hm (by decide +kernel) ha.pa (by decide) (by decide) he hpl) fun σ H Q h => ?_⟩
  obtain ⟨ρ, Fs, ok, h⟩ := h
  refine tA_bindN ok h fun d1 v1 H1 F1 s1 r1 u1 h1 => ?_
  unfold gList at h1
  split at h1
  · obtain ⟨v, rfl, t⟩ := r1.one_inv
    simp only [Rp] at t
    obtain ⟨a, ys, G, rfl, rfl, q, r, l⟩ := t
    exact ⟨a, ys, rfl, .inl (.inl (.inl q)), fun c hc => h1.newL s1 r (u1.of fun z hz => List.mem_cons_of_mem _ hz) hc l⟩
  · obtain ⟨v, rfl, t⟩ := r1.one_inv
    simp only [Rp] at t
    obtain ⟨a, ys, rfl, q, r, l⟩ := t
    exact ⟨a, ys, rfl, .inr q, fun c hc => h1.newL s1 r u1 hc l⟩
  · exact h1.elim
end

/-! ### states -/
def roots (Fs : List (List Addr)) (own : List Nat) (a : Addr) : Prop := ∃ i ∈ own, ∃ Fr, Fs[i]? = some (a :: Fr)
def cov (Fs : List (List Addr)) (a : Addr) : Prop := ∃ F ∈ Fs, a ∈ F
def OwnOk (H : Hp) (σ : Sg) (Fs : List (List Addr)) (own : List Nat) : Prop :=
  ∀ i ∈ own, ∃ p Fr, Fs[i]? = some (p :: Fr) ∧ σ[i]? = some (some (.ref p)) ∧ p ∉ Fr ∧ (∃ x, H p = some x ∧ Mut (some x)) ∧ ∀ (j : Nat) G, j ≠ i → Fs[j]? = some G → p ∉ G
structure Stt (K : PySem.W.Frag) (H : Hp) (σ : Sg) (ρ : En) (own : List Nat) (Fs : List (List Addr)) : Prop where
  env : EnvOk K H σ ρ Fs
  own : OwnOk H σ Fs own

inductive Out where
  | nx (ρ : En) (own : List Nat)
  | rt (d : D)
  | bk (ρ : En) (own : List Nat)
  | ct (ρ : En) (own : List Nat)

structure Pst (K : PySem.W.Frag) (Fs : List (List Addr)) (own : List Nat) (H : Hp) (σ' : Sg) (ρ' : En) (own' : List Nat) (Fs' : List (List Addr)) (H' : Hp) : Prop where
  st : Stt K H' σ' ρ' own' Fs'
  ext : Ext (roots Fs own) H H'
  rt : ∀ a, roots Fs' own' a → roots Fs own a ∨ H a = none
  cv : ∀ a, cov Fs' a → cov Fs a ∨ H a = none
def EndS (K : PySem.W.Frag) (mg : Str → Option Value) (W : XK) (Fs : List (List Addr)) (own : List Nat) (H : Hp) (D : Ends) : R Out → Prop
  | .ok (.nx ρ' own') => ∀ σ' H' Fs', Pst K Fs own H σ' ρ' own' Fs' H' → D.nx σ' H'
  | .ok (.bk ρ' own') => ∀ σ' H' Fs', Pst K Fs own H σ' ρ' own' Fs' H' → D.bk σ' H'
  | .ok (.ct ρ' own') => ∀ σ' H' Fs', Pst K Fs own H σ' ρ' own' Fs' H' → D.ct σ' H'
  | .ok (.rt d) => ∀ v H' F, Ext (roots Fs own) H H' → Rp K H' d v F → (∀ a ∈ F, cov Fs a ∨ H a = none) → D.rt v H'
  | .rs c n => ∀ cls dd H', Ext (roots Fs own) H H' → IsX mg H' cls dd c n → W cls dd H'
  | .st => False
abbrev SF := En → List Nat → R Out
def tS (X : Cx) (W : XK) (g : SF) : TS := fun D σ H => ∃ ρ own Fs, Stt X.K H σ ρ own Fs ∧ EndS X.K X.mg W Fs own H D (g ρ own)
structure SS (X : Cx) (W : XK) (st : Stmt) (g : SF) : Prop where
  ps : PS X st (tS X W g)
structure SSs (X : Cx) (W : XK) (st : List Stmt) (g : SF) : Prop where
  ps : PSs X st (tS X W g)

theorem Pst.refl {K : PySem.W.Frag} {Fs : List (List Addr)} {own : List Nat} {H : Hp} {σ : Sg} {ρ : En} (s : Stt K H σ ρ own Fs) : Pst K Fs own H σ ρ own Fs H := ⟨s, .refl, fun _ z => .inl z, fun _ z => .inl z⟩
theorem Pst.trans {K : PySem.W.Frag} {Fs Fs1 Fs2 : List (List Addr)} {own own1 own2 : List Nat} {H H1 H2 : Hp} {σ1 σ2 : Sg} {ρ1 ρ2 : En} (a : Pst K Fs own H σ1 ρ1 own1 Fs1 H1) (b : Pst K Fs1 own1 H1 σ2 ρ2 own2 Fs2 H2) : Pst K Fs own H σ2 ρ2 own2 Fs2 H2 := by
  have back : ∀ c, H1 c = none → H c = none := fun c z => by
    cases q : H c with
    | none => rfl
    | some x =>
      obtain ⟨y, q2⟩ := a.ext.stay c x q
      rw [z] at q2
      cases q2
  exact ⟨b.st, a.ext.trans b.ext a.rt, fun c z => (b.rt c z).elim (a.rt c) fun z => .inr (back c z), fun c z => (b.cv c z).elim (a.cv c) fun z => .inr (back c z)⟩
/-- on from a state that was reached -/
theorem EndS.from {K : PySem.W.Frag} {mg : Str → Option Value} {W : XK} {Fs Fs1 : List (List Addr)} {own own1 : List Nat} {H H1 : Hp} {σ1 : Sg} {ρ1 : En} {D : Ends} {r : R Out} (h : EndS K mg W Fs own H D r) (a : Pst K Fs own H σ1 ρ1 own1 Fs1 H1) : EndS K mg W Fs1 own1 H1 D r := by
  have back : ∀ c, H1 c = none → H c = none := fun c z => by
    cases q : H c with
    | none => rfl
    | some x =>
      obtain ⟨y, q2⟩ := a.ext.stay c x q
      rw [z] at q2
      cases q2
  cases r with
  | st => exact h
  | rs c n => exact fun cls dd H' x q => h cls dd H' (a.ext.trans x a.rt) q
  | ok o =>
    cases o with
    | nx ρ' own' => exact fun σ' H' Fs' b => h σ' H' Fs' (a.trans b)
    | bk ρ' own' => exact fun σ' H' Fs' b => h σ' H' Fs' (a.trans b)
    | ct ρ' own' => exact fun σ' H' Fs' b => h σ' H' Fs' (a.trans b)
    | rt d => exact fun v H' F x r u => h v H' F (a.ext.trans x a.rt) r fun c hc => (u c hc).elim (a.cv c) fun z => .inr (back c z)

/-! ### sequences -/
def seqO (g h : SF) : SF := fun ρ own => match g ρ own with
  | .ok (.nx ρ' own') => h ρ' own'
  | r => r
def sfN : SF := fun ρ own => .ok (.nx ρ own)
section
variable {X : Cx} {W : XK} {st : Stmt} {sts sts2 : List Stmt} {g h : SF} {e a b c tg iter : Expr} {fa : En → R D} {fi : En → R (List D)} {ta : En → R Bool} {la li : List Nat} {pos : Pos} {lv : Nat}
theorem sss_nil : SSs X W [] sfN := ⟨PSs.imp pss_nil fun D σ H ⟨ρ, own, Fs, s, q⟩ => q σ H Fs (.refl s)⟩
theorem sss_one (hs : SS X W st g) : SSs X W [st] g := ⟨pss_one hs.ps⟩
theorem EndS.nx {K : PySem.W.Frag} {mg : Str → Option Value} {Fs : List (List Addr)} {own : List Nat} {H : Hp} {D : Ends} {r : R Out} {h : SF} {P : L2.St → Hp → Prop}
    (q : EndS K mg W Fs own H D (match r with
      | .ok (.nx ρ' own') => h ρ' own'
      | r => r)) (k : ∀ ρ' own' σ' H' Fs', Pst K Fs own H σ' ρ' own' Fs' H' → EndS K mg W Fs own H D (h ρ' own') → P σ' H') : EndS K mg W Fs own H { D with nx := P } r := by
  cases r with
  | st => exact q
  | rs c n => exact q
  | ok o =>
    cases o with
    | nx ρ' own' => exact fun σ' H' Fs' b => k ρ' own' σ' H' Fs' b q
    | bk ρ' own' => exact q
    | ct ρ' own' => exact q
    | rt d => exact q
theorem sss_cons (h1 : SS X W st g) (h2 : SSs X W sts h) : SSs X W (st :: sts) (seqO g h) := by
  refine ⟨PSs.imp (pss_cons h1.ps h2.ps) fun D σ H q => ?_⟩
  obtain ⟨ρ, own, Fs, s, q⟩ := q
  exact ⟨ρ, own, Fs, s, EndS.nx q fun ρ' own' σ' H' Fs' b q => ⟨ρ', own', Fs', b.st, q.from b⟩⟩

/-! ### simple statements -/
theorem ss_pass : SS X W (.Pass pos) sfN := ⟨PS.imp ps_pass fun D σ H ⟨ρ, own, Fs, s, q⟩ => q σ H Fs (.refl s)⟩
def sfBk : SF := fun ρ own => .ok (.bk ρ own)
def sfCt : SF := fun ρ own => .ok (.ct ρ own)
theorem ss_break : SS X W (.Break pos) sfBk := ⟨PS.imp ps_break fun D σ H ⟨ρ, own, Fs, s, q⟩ => q σ H Fs (.refl s)⟩
theorem ss_continue : SS X W (.Continue pos) sfCt := ⟨PS.imp ps_continue fun D σ H ⟨ρ, own, Fs, s, q⟩ => q σ H Fs (.refl s)⟩
/-- lifting an expression's end -/
theorem tE_S {σ : Sg} {ρ : En} {own : List Nat} {Fs : List (List Addr)} {H : Hp} {N : Ends} {P : VK} {k : D → R Out} (s : Stt X.K H σ ρ own Fs) (q : EndS X.K X.mg W Fs own H N ((fa ρ).bind k))
    (h : ∀ d v H' F, Same H H' → Rp X.K H' d v F → Sub F Fs la H → EndS X.K X.mg W Fs own H N (k d) → P v H') : tE X W fa la σ H P := by
  refine ⟨ρ, Fs, s.env, ?_⟩
  cases e : fa ρ with
  | st => rw [e] at q; exact q
  | rs c n => rw [e] at q; exact fun cls dd H' x z => q cls dd H' (.of x) z
  | ok d => rw [e] at q; exact fun v H' F x r u => h d v H' F x r u q
theorem Sub.cov {F : List Addr} {Fs : List (List Addr)} {lk : List Nat} {H : Hp} (u : Sub F Fs lk H) : ∀ a ∈ F, cov Fs a ∨ H a = none := fun a ha => by
  rcases u a ha with ⟨j, _, G, e, m⟩ | z
  · exact .inl ⟨G, List.mem_of_getElem? e, m⟩
  · exact .inr z
def sfRet (fa : En → R D) : SF := fun ρ _ => (fa ρ).bind fun d => .ok (.rt d)
theorem ss_ret (ha : SE X W a fa la) : SS X W (.Return (some a) pos) (sfRet fa) := by
  refine ⟨PS.imp (ps_ret ha.pe) fun D σ H q => ?_⟩
  obtain ⟨ρ, own, Fs, s, q⟩ := q
  exact tE_S s q fun d v H' F x r u q => q v H' F (.of x) r u.cov
def sfRetN : SF := fun _ _ => .ok (.rt .non)
theorem ss_retN : SS X W (.Return none pos) sfRetN := by
  refine ⟨PS.imp ps_retN fun D σ H q => ?_⟩
  obtain ⟨ρ, own, Fs, s, q⟩ := q
  exact q .non H [] .refl (by simp [Rp]) (fun _ z => by cases z)
theorem Stt.same {K : PySem.W.Frag} {H H' : Hp} {σ : Sg} {ρ : En} {own : List Nat} {Fs : List (List Addr)} (s : Stt K H σ ρ own Fs) (x : Same H H') : Stt K H' σ ρ own Fs :=
  ⟨s.env.same x, fun i hi => by
    obtain ⟨p, Fr, e1, e2, n, ⟨y, q, m⟩, o⟩ := s.own i hi
    exact ⟨p, Fr, e1, e2, n, ⟨y, x p y q, m⟩, o⟩⟩
theorem Pst.same {K : PySem.W.Frag} {H H' : Hp} {σ : Sg} {ρ : En} {own : List Nat} {Fs : List (List Addr)} (s : Stt K H σ ρ own Fs) (x : Same H H') : Pst K Fs own H σ ρ own Fs H' := ⟨s.same x, .of x, fun _ z => .inl z, fun _ z => .inl z⟩
/-- e as a statement: its value is dropped -/
def sfEx (fa : En → R D) : SF := fun ρ own => (fa ρ).bind fun _ => .ok (.nx ρ own)
theorem ss_expr (ha : SE X W a fa la) (hs : swapsWith a none pos.line X.env = pure false := by rfl) : SS X W (.Expr a pos) (sfEx fa) := by
  refine ⟨PS.imp (ps_expr ha.pe hs) fun D σ H q => ?_⟩
  obtain ⟨ρ, own, Fs, s, q⟩ := q
  exact tE_S s q fun d v H' F x r u q => q σ H' Fs (.same s x)
def sfIf (t : En → R Bool) (g h : SF) : SF := fun ρ own => (t ρ).bind fun k => if k then g ρ own else h ρ own
theorem ss_if (ht : ST X W c ta) (h1 : SSs X W sts g) (h2 : SSs X W sts2 h) : SS X W (.If c sts sts2 pos) (sfIf ta g h) := by
  refine ⟨PS.imp (ps_if ht.pt h1.ps h2.ps) fun D σ H q => ?_⟩
  obtain ⟨ρ, own, Fs, s, q⟩ := q
  refine ⟨ρ, Fs, s.env, ?_⟩
  unfold sfIf at q
  cases e : ta ρ with
  | st => rw [e] at q; exact q
  | rs c n => rw [e] at q; exact fun cls dd H' x z => q cls dd H' (.of x) z
  | ok k =>
    rw [e] at q
    intro H' x
    cases k with
    | true => exact ⟨ρ, own, Fs, s.same x, EndS.from q (.same s x)⟩
    | false => exact ⟨ρ, own, Fs, s.same x, EndS.from q (.same s x)⟩

/-! ### assignments -/
/-- no list within -/
def atomic : D → Bool
  | .non => true
  | .bl _ => true
  | .int _ => true
  | .str _ => true
  | .rep _ => true
  | _ => false
theorem atomic_nil {K : PySem.W.Frag} {H : Hp} {d : D} {v : V} {F : List Addr} (h : atomic d = true) (r : Rp K H d v F) : F = [] := by
  cases d <;> simp only [atomic, Bool.false_eq_true] at h <;> simp only [Rp] at r
  · exact r.2
  · exact r.2
  · exact r.2
  · exact r.2.2
  · exact r.2
/-- the slots of own that are not shared by a value that comes of lk -/
def keepO (own lk : List Nat) (d : D) : List Nat := if atomic d then own else own.filter fun j => !(lk.contains j)
def dropO (own : List Nat) (i : Nat) : List Nat := own.filter fun j => !(j == i)
theorem keepO_sub {own lk : List Nat} {d : D} : ∀ j ∈ keepO own lk d, j ∈ own := fun j hj => by
  unfold keepO at hj
  split at hj
  · exact hj
  · exact (List.mem_filter.mp hj).1
theorem dropO_sub {own : List Nat} {i : Nat} : ∀ j ∈ dropO own i, j ∈ own ∧ j ≠ i := fun j hj => by
  have := List.mem_filter.mp hj
  exact ⟨this.1, by simpa using this.2⟩
/-- a kept root is not in a value that comes of lk -/
theorem keep_out {K : PySem.W.Frag} {H H' : Hp} {σ : Sg} {ρ : En} {own lk : List Nat} {Fs : List (List Addr)} {d : D} {v : V} {F : List Addr} (s : Stt K H σ ρ own Fs) (r : Rp K H' d v F) (u : Sub F Fs lk H) {i : Nat} (hi : i ∈ keepO own lk d) {p : Addr} {Fr : List Addr} (e : Fs[i]? = some (p :: Fr)) : p ∉ F := fun hp => by
  have io := keepO_sub i hi
  obtain ⟨p', Fr', e', _, _, ⟨x, q, _⟩, o⟩ := s.own i io
  rw [e] at e'
  injection e' with e'
  injection e' with e1 e2
  subst e1
  unfold keepO at hi
  split at hi
  · rename_i ha
    rw [atomic_nil ha r] at hp
    cases hp
  · rcases u p hp with ⟨j, hj, G, eG, m⟩ | z
    · have hji : j ≠ i := fun z => by
        have := (List.mem_filter.mp hi).2
        rw [← z] at this
        simp [hj] at this
      exact o j G hji eG m
    · rw [q] at z
      cases z
/-- a value is put into slot i -/
theorem Pst.put {K : PySem.W.Frag} {H H' : Hp} {σ : Sg} {ρ : En} {own lk : List Nat} {Fs : List (List Addr)} {d : D} {v : V} {F : List Addr} {i : Nat} (s : Stt K H σ ρ own Fs) (x : Same H H') (r : Rp K H' d v F) (u : Sub F Fs lk H) :
    Pst K Fs own H (σ.set i (some v)) (ρ.set i (some d)) (dropO (keepO own lk d) i) (Fs.set i F) H' := by
  have s' := s.same x
  refine ⟨⟨s'.env.set r, fun j hj => ?_⟩, .of x, fun a ha => ?_, fun a ha => ?_⟩
  · obtain ⟨hj1, hji⟩ := dropO_sub j hj
    have hjo := keepO_sub j hj1
    obtain ⟨p, Fr, e1, e2, n, y, o⟩ := s'.own j hjo
    refine ⟨p, Fr, by rw [List.getElem?_set_ne (Ne.symm hji)]; exact e1, by rw [List.getElem?_set_ne (Ne.symm hji)]; exact e2, n, y, fun k G hk eG => ?_⟩
    by_cases hki : i = k
    · subst hki
      by_cases hl : i < Fs.length
      · rw [List.getElem?_set_self hl] at eG
        injection eG with eG
        rw [← eG]
        exact keep_out s r u hj1 e1
      · rw [List.getElem?_eq_none (by simpa using hl)] at eG
        cases eG
    · rw [List.getElem?_set_ne hki] at eG
      exact o k G hk eG
  · obtain ⟨j, hj, Fr, e⟩ := ha
    obtain ⟨hj1, hji⟩ := dropO_sub j hj
    rw [List.getElem?_set_ne (Ne.symm hji)] at e
    exact .inl ⟨j, keepO_sub j hj1, Fr, e⟩
  · obtain ⟨G, hG, m⟩ := ha
    rcases List.mem_or_eq_of_mem_set hG with z | z
    · exact .inl ⟨G, z, m⟩
    · rw [z] at m
      exact u.cov a m
/-- .. a new object -/
theorem Pst.putN {K : PySem.W.Frag} {H H' : Hp} {σ : Sg} {ρ : En} {own lk : List Nat} {Fs : List (List Addr)} {d : D} {p : Addr} {F : List Addr} {i : Nat} {y : HO} (s : Stt K H σ ρ own Fs) (x : Same H H') (r : Rp K H' d (.ref p) (p :: F)) (u : Sub (p :: F) Fs lk H) (hp : H p = none) (np : p ∉ F) (hy : H' p = some y) (my : Mut (some y)) (hi : i < ρ.length) :
    Pst K Fs own H (σ.set i (some (.ref p))) (ρ.set i (some d)) (i :: dropO (keepO own lk d) i) (Fs.set i (p :: F)) H' := by
  have a := Pst.put (i := i) s x r u
  refine ⟨⟨a.st.env, fun j hj => ?_⟩, a.ext, fun c hc => ?_, a.cv⟩
  · rcases List.mem_cons.mp hj with z | z
    · subst z
      refine ⟨p, F, List.getElem?_set_self (by rw [s.env.lF]; exact hi), List.getElem?_set_self (by rw [s.env.ls]; exact hi), np, ⟨y, hy, my⟩, fun k G hk eG m => ?_⟩
      rw [List.getElem?_set_ne (Ne.symm hk)] at eG
      obtain ⟨z, q⟩ := s.env.dm G (List.mem_of_getElem? eG) p m
      rw [hp] at q
      cases q
    · exact a.st.own j z
  · obtain ⟨j, hj, Fr, e⟩ := hc
    rcases List.mem_cons.mp hj with z | z
    · subst z
      rw [List.getElem?_set_self (by rw [s.env.lF]; exact hi)] at e
      injection e with e
      injection e with e _
      subst e
      exact .inr hp
    · exact a.rt c ⟨j, z, Fr, e⟩
def sfSet (i : Nat) (lk : List Nat) (fa : En → R D) : SF := fun ρ own => (fa ρ).bind fun d => .ok (.nx (ρ.set i (some d)) (dropO (keepO own lk d) i))
def sfNew (i : Nat) (lk : List Nat) (fa : En → R D) : SF := fun ρ own => (fa ρ).bind fun d => if i < ρ.length then .ok (.nx (ρ.set i (some d)) (i :: dropO (keepO own lk d) i)) else .st
theorem ss_set {i : Nat} {x : Str} {pos' : Pos} (G : Good lv X W) (hi : X.N[i]? = some x) (hx : Loc X.env.scope x) (ha : SE X W a fa la) (hs : swapsWith a (some (.Name x pos')) pos.line X.env = pure false := by rfl) (hf : X.fn x = true ∨ X.env.scope.names.lookup x = some .local := by first | exact .inl rfl | exact .inr rfl | assumption) :
    SS X W (.Assign [.Name x pos'] a pos) (sfSet i la fa) := by
  refine ⟨PS.imp (ps_set G.nd hi hx ha.pe hs hf) fun D σ H q => ?_⟩
  obtain ⟨ρ, own, Fs, s, q⟩ := q
  exact tE_S s q fun d v H' F x r u q => q _ H' _ (.put s x r u)
/-- a new object's end in a statement -/
theorem tN_S {σ : Sg} {ρ : En} {own : List Nat} {Fs : List (List Addr)} {H : Hp} {N : Ends} {P : VK} {k : D → R Out} (s : Stt X.K H σ ρ own Fs) (q : EndS X.K X.mg W Fs own H N ((fa ρ).bind k))
    (h : ∀ d p H' F xs, Same H H' → Rp X.K H' d (.ref p) (p :: F) → Sub (p :: F) Fs la H → H p = none → p ∉ F → H' p = some xs → Mut (some xs) → EndS X.K X.mg W Fs own H N (k d) → P (.ref p) H') : tN X W fa la σ H P := by
  refine ⟨ρ, Fs, s.env, ?_⟩
  cases e : fa ρ with
  | st => rw [e] at q; exact q
  | rs c n => rw [e] at q; exact fun cls dd H' x z => q cls dd H' (.of x) z
  | ok d => rw [e] at q; exact fun p H' F xs x r u n np e m => h d p H' F xs x r u n np e m q
theorem ss_new {i : Nat} {x : Str} {pos' : Pos} (G : Good lv X W) (hi : X.N[i]? = some x) (hx : Loc X.env.scope x) (ha : SN X W a fa la) (hs : swapsWith a (some (.Name x pos')) pos.line X.env = pure false := by rfl) (hf : X.fn x = true ∨ X.env.scope.names.lookup x = some .local := by first | exact .inl rfl | exact .inr rfl | assumption) :
    SS X W (.Assign [.Name x pos'] a pos) (sfNew i la fa) := by
  refine ⟨PS.imp (ps_set G.nd hi hx ha.pe hs hf) fun D σ H q => ?_⟩
  obtain ⟨ρ, own, Fs, s, q⟩ := q
  refine tN_S s q fun d p H' F xs x r u n np e m q => ?_
  split at q
  · rename_i hl
    exact q _ H' _ (.putN s x r u n np e m hl)
  · exact q.elim
/-- y = [..] -/
theorem ss_newLc {i : Nat} {y : Str} {py spos : Pos} {elt : Expr} {ifs : List Expr} {scope : Scope} {own : List (Str × Nat)} {tv le : List Nat} {gg : D → En → R En} {t : En → R Bool} {el : En → R D} (G : Good lv X W) (hy : X.N[i]? = some y) (hyl : X.env.scope.names.lookup y = some .local)
    (hsw : swapsWith (.ListComp elt [⟨tg, iter, ifs, 0⟩] scope pos) (some (.Name y py)) spos.line X.env = pure true) (hi : SI X W tg iter fi li) (ok : BlkOk X.N X.env.scope scope own)
    (hg : ∀ (s : Shared) (H : Hp) (C : Addr) (cl : List (Str × Addr)) (fp : List Addr), SG (X.blk s H scope (compEnvC scope cl C X.env) fp) tg tv gg)
    (ht : ∀ (s : Shared) (H : Hp) (C : Addr) (cl : List (Str × Addr)) (fp : List Addr), STs (X.blk s H scope (compEnvC scope cl C X.env) fp) W0 ifs t)
    (he : ∀ (s : Shared) (H : Hp) (C : Addr) (cl : List (Str × Addr)) (fp : List Addr), SE (X.blk s H scope (compEnvC scope cl C X.env) fp) W0 elt el le)
    (htv : ∀ j ∈ tv, j ∈ own.map (·.2)) (hs : ∀ x, foldedSetIterable iter X.env x = pure x := by intro _; rfl) :
    SS X W (.Assign [.Name y py] (.ListComp elt [⟨tg, iter, ifs, 0⟩] scope pos) spos) (sfNew i (li ++ sans le tv) (cLC (own.map (·.2)) fi gg t el)) := by
  refine ⟨PS.imp (ps_setLc (g := tG X tv gg) (tt := tT X W0 t) (te := tE X W0 el le) G.calm G.nd hy hyl hsw hi.pi ok (fun s H C cl fp => (hg s H C cl fp).pg) (fun s H C cl fp => (ht s H C cl fp).pt) (fun s H C cl fp => (he s H C cl fp).pe) hs) fun D σ H q => ?_⟩
  obtain ⟨ρ, own, Fs, s, q⟩ := q
  refine lc_use (Q := fun x H1 => gName i x σ H1 D.nx) htv sans_or (fun _ _ _ _ h => h) (fun _ _ _ h => h) (fun _ _ _ h => h) (tN_S s q fun d p H' F xs x r u n np e m q => ?_)
  split at q
  · rename_i hl
    exact q _ H' _ (.putN s x r u n np e m hl)
  · exact q.elim
end
end Ev

/-! Ev, part H: loops, changes of lists, defs. -/
namespace Ev
open PySem PySem.Spec L2

def sansO (own vs : List Nat) : List Nat := own.filter fun j => !(vs.contains j)
theorem sansO_sub {own vs : List Nat} : ∀ j ∈ sansO own vs, j ∈ own ∧ j ∉ vs := fun j hj => by
  have := List.mem_filter.mp hj
  exact ⟨this.1, by simpa using this.2⟩
/-- one turn's end, then the rest of the loop -/
def onO (rest : SF) : R Out → R Out
  | .ok (.nx ρ o) => rest ρ o
  | .ok (.ct ρ o) => rest ρ o
  | .ok (.bk ρ o) => .ok (.nx ρ o)
  | .ok (.rt d) => .ok (.rt d)
  | .rs c n => .rs c n
  | .st => .st
def forL (vs : List Nat) (g : D → En → R En) (body : SF) : List D → SF
  | [], ρ, own => .ok (.nx ρ own)
  | d :: ds, ρ, own => onO (forL vs g body ds) ((noR (g d ρ)).bind fun ρ1 => body ρ1 (sansO own vs))
def sfFor (vs lk : List Nat) (fi : En → R (List D)) (g : D → En → R En) (body : SF) : SF := fun ρ own => (fi ρ).bind fun ds => forL vs g body ds ρ (sansO own lk)
def whL (t : En → R Bool) (body : SF) : Nat → SF
  | 0, _, _ => .st
  | n + 1, ρ, own => (t ρ).bind fun k => if k then onO (whL t body n) (body ρ own) else .ok (.nx ρ own)

theorem Stt.weak {K : PySem.W.Frag} {H : Hp} {σ : Sg} {ρ : En} {own own' : List Nat} {Fs : List (List Addr)} (s : Stt K H σ ρ own Fs) (h : ∀ j ∈ own', j ∈ own) : Stt K H σ ρ own' Fs := ⟨s.env, fun i hi => s.own i (h i hi)⟩
theorem roots.mono {Fs : List (List Addr)} {own own' : List Nat} (h : ∀ j ∈ own', j ∈ own) {a : Addr} (r : roots Fs own' a) : roots Fs own a := by
  obtain ⟨i, hi, q⟩ := r
  exact ⟨i, h i hi, q⟩
theorem Stt.rootDom {K : PySem.W.Frag} {H : Hp} {σ : Sg} {ρ : En} {own : List Nat} {Fs : List (List Addr)} (s : Stt K H σ ρ own Fs) {a : Addr} (r : roots Fs own a) : ∃ x, H a = some x := by
  obtain ⟨i, hi, Fr, e⟩ := r
  exact s.env.dm _ (List.mem_of_getElem? e) a List.mem_cons_self
/-- what comes of lk has no root of the others -/
theorem Stt.subOut {K : PySem.W.Frag} {H : Hp} {σ : Sg} {ρ : En} {own lk : List Nat} {Fs : List (List Addr)} {F : List Addr} (s : Stt K H σ ρ own Fs) (u : Sub F Fs lk H) : ∀ a ∈ F, ¬ roots Fs (sansO own lk) a := fun a ha r => by
  obtain ⟨i, hi, Fr, e⟩ := r
  obtain ⟨h1, h2⟩ := sansO_sub i hi
  obtain ⟨p, Fr', e', _, _, ⟨x, q, _⟩, o⟩ := s.own i h1
  rw [e] at e'
  injection e' with e'
  injection e' with e1 _
  subst e1
  rcases u _ ha with ⟨j, hj, G, eG, m⟩ | z
  · exact o j G (fun z => h2 (z ▸ hj)) eG m
  · rw [q] at z
    cases z
/-- targets take a value that has no root -/
theorem Stt.took {K : PySem.W.Frag} {H : Hp} {σ σ' : Sg} {ρ ρ' : En} {own vs : List Nat} {Fs Fs' : List (List Addr)} {F : List Addr} (s : Stt K H σ ρ own Fs) (ok : EnvOk K H σ' ρ' Fs') (k : ∀ j, j ∉ vs → σ'[j]? = σ[j]? ∧ Fs'[j]? = Fs[j]?) (u : ∀ j ∈ vs, ∀ G, Fs'[j]? = some G → ∀ a ∈ G, a ∈ F)
    (n : ∀ a ∈ F, ¬ roots Fs own a) : Stt K H σ' ρ' (sansO own vs) Fs' ∧ (∀ a, roots Fs' (sansO own vs) a → roots Fs own a) ∧ ∀ a, cov Fs' a → cov Fs a ∨ a ∈ F := by
  refine ⟨⟨ok, fun i hi => ?_⟩, fun a ha => ?_, fun a ha => ?_⟩
  · obtain ⟨h1, h2⟩ := sansO_sub i hi
    obtain ⟨p, Fr, e1, e2, np, y, o⟩ := s.own i h1
    refine ⟨p, Fr, by rw [(k i h2).2]; exact e1, by rw [(k i h2).1]; exact e2, np, y, fun j G hj eG m => ?_⟩
    by_cases hjv : j ∈ vs
    · exact n p (u j hjv G eG p m) ⟨i, h1, Fr, e1⟩
    · rw [(k j hjv).2] at eG
      exact o j G hj eG m
  · obtain ⟨i, hi, Fr, e⟩ := ha
    obtain ⟨h1, h2⟩ := sansO_sub i hi
    rw [(k i h2).2] at e
    exact ⟨i, h1, Fr, e⟩
  · obtain ⟨G, hG, m⟩ := ha
    obtain ⟨j, e⟩ := List.mem_iff_getElem?.mp hG
    by_cases hjv : j ∈ vs
    · exact .inr (u j hjv G e a m)
    · rw [(k j hjv).2] at e
      exact .inl ⟨G, List.mem_of_getElem? e, m⟩
/-- a turn's end: the loop goes on, or leaves -/
theorem EndS.on {K : PySem.W.Frag} {mg : Str → Option Value} {W : XK} {Fs Fs1 : List (List Addr)} {own own1 : List Nat} {H H1 : Hp} {σ1 : Sg} {ρ1 : En} {N : Ends} {r : R Out} {rest : SF} {P : L2.St → Hp → Prop}
    (q : EndS K mg W Fs own H N (onO rest r)) (a : Pst K Fs own H σ1 ρ1 own1 Fs1 H1) (k : ∀ ρ' own' σ' H' Fs', Pst K Fs1 own1 H1 σ' ρ' own' Fs' H' → EndS K mg W Fs own H N (rest ρ' own') → P σ' H') :
    EndS K mg W Fs1 own1 H1 { N with nx := P, ct := P, bk := N.nx } r := by
  cases r with
  | st => exact q
  | rs c n => exact EndS.from (r := .rs c n) q a
  | ok o =>
    cases o with
    | nx ρ' own' => exact fun σ' H' Fs' b => k ρ' own' σ' H' Fs' b q
    | ct ρ' own' => exact fun σ' H' Fs' b => k ρ' own' σ' H' Fs' b q
    | bk ρ' own' => exact EndS.from (r := .ok (.nx ρ' own')) q a
    | rt d => exact EndS.from (r := .ok (.rt d)) q a

section
variable {X : Cx} {W : XK} {st : Stmt} {sts sts2 : List Stmt} {body h : SF} {e a b c tg iter : Expr} {fa : En → R D} {fi fs : En → R (List D)} {ta : En → R Bool} {la li ls : List Nat} {pos : Pos} {lv : Nat} {vs : List Nat} {g : D → En → R En}
theorem ss_for (G : Good lv X W) (hi : SI X W tg iter fi li) (hg : SG X tg vs g) (hb : SSs X W sts body) (hs : ∀ x, foldedSetIterable iter X.env x = pure x := by intro _; rfl) : SS X W (.For tg iter sts [] pos) (sfFor vs li fi g body) := by
  refine ⟨PS.imp (ps_for G.own G.calm hi.pi hg.pg hb.ps hs) fun N σ H q => ?_⟩
  obtain ⟨ρ, own, Fs, s, q⟩ := q
  refine ⟨ρ, Fs, s.env, ?_⟩
  unfold sfFor at q
  cases e : fi ρ with
  | st => rw [e] at q; exact q.elim
  | rs c n => rw [e] at q; exact fun cls dd H' x z => q cls dd H' (.of x) z
  | ok ds =>
    rw [e] at q
    simp only [R.bind] at q
    intro J H1 Fi s1 io ui di hbig
    have nFi := s.subOut ui
    have own0 : ∀ j ∈ sansO own li, j ∈ own := fun j hj => (sansO_sub j hj).1
    refine ⟨fun i m σ' H' => m = ds.length - i ∧ i ≤ ds.length ∧ ∃ ρi owni Fsi, Pst X.K Fs own H σ' ρi owni Fsi H' ∧ Ext (roots Fs (sansO own li)) H1 H' ∧ (∀ a, roots Fsi owni a → roots Fs (sansO own li) a ∨ H1 a = none) ∧ EndS X.K X.mg W Fs own H N (forL vs g body (ds.drop i) ρi owni),
      ⟨ds.length, by omega, Nat.zero_le _, ρ, sansO own li, Fs, ⟨(s.same s1).weak own0, .of s1, fun a ha => .inl (ha.mono own0), fun a ha => .inl ha⟩, .refl, fun a ha => .inl ha, q⟩, ?_⟩
    rintro i m σ' H' ⟨rfl, hi, ρi, owni, Fsi, b, x1, rt1, q⟩
    have io2 := io (roots Fs (sansO own li)) H' x1 nFi i
    by_cases hlt : i < ds.length
    · have ed : ds[i]? = some ds[i] := List.getElem?_eq_getElem hlt
      have hd : ds.drop i = ds[i] :: ds.drop (i + 1) := List.drop_eq_getElem_cons hlt
      obtain ⟨go, yl⟩ := io2.1 _ ed
      refine .inr ⟨go, fun σ' H' => ∃ ρi owni Fsi, Pst X.K Fs own H σ' ρi owni Fsi H' ∧ Ext (roots Fs (sansO own li)) H1 H' ∧ (∀ a, roots Fsi owni a → roots Fs (sansO own li) a ∨ H1 a = none) ∧ EndS X.K X.mg W Fs own H N (forL vs g body (ds.drop (i + 1)) ρi owni),
        fun σ'' H'' hN => ⟨ds.length - (i + 1), by omega, rfl, hlt, hN⟩, fun x H'' hy => ?_⟩
      obtain ⟨s2, Gx, rx, ux⟩ := yl x H'' hy
      rw [hd, forL] at q
      refine ⟨ds[i], Gx, ρi, Fsi, b.st.env.same s2, rx, ?_⟩
      cases eg : g ds[i] ρi with
      | st => rw [eg] at q; exact q.elim
      | rs c n => rw [eg] at q; exact q.elim
      | ok ρ2 =>
        rw [eg] at q
        simp only [noR_ok, R.bind] at q
        intro σ2 Fs2 ok2 l2 k2 u2
        have nx : ∀ a ∈ Gx, ¬ roots Fsi owni a := fun a ha r => by
          rcases rt1 a r with z | z
          · exact nFi a (ux a ha) z
          · obtain ⟨y, q⟩ := di a (ux a ha)
            rw [q] at z
            cases z
        obtain ⟨st2, rt2, cv2⟩ := (b.st.same s2).took ok2 k2 u2 nx
        have b2 : Pst X.K Fs own H σ2 ρ2 (sansO owni vs) Fs2 H'' := ⟨st2, b.ext.trans (.of (N := fun _ => False) s2) fun a z => z.elim, fun a ha => b.rt a (rt2 a ha), fun a ha => by
          rcases cv2 a ha with z | z
          · exact b.cv a z
          · exact ui.cov a (ux a z)⟩
        refine ⟨ρ2, sansO owni vs, Fs2, st2, EndS.on q b2 fun ρ' own' σ3 H3 Fs3 b3 q3 => ⟨ρ', own', Fs3, b2.trans b3, ?_, ?_, q3⟩⟩
        · exact (x1.trans (.of (N := fun _ => False) s2) fun a z => z.elim).trans b3.ext fun a ha => rt1 a (rt2 a ha)
        · intro a ha
          rcases b3.rt a ha with z | z
          · exact rt1 a (rt2 a z)
          · refine .inr ?_
            cases q : H1 a with
            | none => rfl
            | some y =>
              obtain ⟨y2, q2⟩ := x1.stay a y q
              have := s2 a y2 q2
              rw [z] at this
              cases this
    · have hie : i = ds.length := by omega
      subst hie
      rw [List.drop_length] at q
      exact .inl ⟨io2.2 (Nat.le_refl _), q σ' H' Fsi b⟩
theorem ss_while (fuel : Nat) (G : Good lv X W) (hc : ST X W c ta) (hb : SSs X W sts body) : SS X W (.While c sts [] pos) (whL ta body fuel) := by
  refine ⟨PS.imp (ps_while G.own hc.pt hb.ps) fun N σ H q => ?_⟩
  obtain ⟨ρ, own, Fs, s, q⟩ := q
  refine ⟨fun m σ' H' => ∃ ρ' own' Fs', Pst X.K Fs own H σ' ρ' own' Fs' H' ∧ EndS X.K X.mg W Fs own H N (whL ta body m ρ' own'), ⟨fuel, ρ, own, Fs, .refl s, q⟩, ?_⟩
  rintro m σ' H' ⟨ρ', own', Fs', b, q⟩
  cases m with
  | zero => exact q.elim
  | succ m =>
    rw [whL] at q
    refine ⟨ρ', Fs', b.st.env, ?_⟩
    cases e : ta ρ' with
    | st => rw [e] at q; exact q.elim
    | rs c n =>
      rw [e] at q
      have q := EndS.from (r := .rs c n) q b
      exact fun cls dd H' x z => q cls dd H' (.of x) z
    | ok k =>
      rw [e] at q
      intro H2 s2
      have b2 := b.trans (.same b.st s2)
      cases k with
      | false =>
        simp only [R.bind, Bool.false_eq_true, if_false] at q ⊢
        exact q σ' H2 Fs' b2
      | true =>
        simp only [R.bind, if_true] at q ⊢
        exact ⟨fun σ'' H'' => ∃ ρ' own' Fs', Pst X.K Fs own H σ'' ρ' own' Fs' H'' ∧ EndS X.K X.mg W Fs own H N (whL ta body m ρ' own'), fun σ'' H'' hN => ⟨m, Nat.lt_succ_self m, hN⟩,
          ρ', own', Fs', b2.st, EndS.on q b2 fun ρ2 own2 σ3 H3 Fs3 b3 q3 => ⟨ρ2, own2, Fs3, b2.trans b3, q3⟩⟩
end
end Ev

/-! Ev, part I: lists changed in place, several targets, defs, methods of texts. -/
namespace Ev
open PySem PySem.Spec L2

/-- a root's object is changed -/
theorem ext_root {H : Hp} {p : Addr} {o : HO} {y : HO} (hy : H p = some y) (m : Mut (some y)) : Ext (fun a => a = p) H (upd H p o) :=
  ⟨fun b x q n => by rw [upd_ne n]; exact q, fun b x q n => by
    have : b ≠ p := fun z => by
      rw [z, hy] at q
      injection q with q
      subst q
      exact n m
    rw [upd_ne this]
    exact q, fun b x q => by
    by_cases z : b = p
    · exact ⟨_, by rw [z]; exact upd_same⟩
    · exact ⟨x, by rw [upd_ne z]; exact q⟩⟩
theorem mem_keepO {own lk : List Nat} {d : D} {i : Nat} (h : (keepO own lk d).contains i = true) : i ∈ keepO own lk d := by simpa using h

/-- xs at slot i goes on with ys, whose lists are F -/
theorem Pst.grow {K : PySem.W.Frag} {H H' : Hp} {σ : Sg} {ρ : En} {own lk : List Nat} {Fs : List (List Addr)} {xs ys : List D} {vs ws : List V} {F : List Addr} {d : D} {v : V} {Fd : List Addr} {i : Nat} {p : Addr} (s : Stt K H σ ρ own Fs) (x : Same H H') (rd : Rp K H' d v Fd) (ud : Sub Fd Fs lk H)
    (hF : ∀ a ∈ F, a ∈ Fd) (r : RpAll K H' ys ws F) (hi : i ∈ keepO own lk d) (e : ρ[i]? = some (some (.lst xs))) (hp : σ[i]? = some (some (.ref p))) (hv : H' p = some (.lst vs)) (hl : xs.length + ys.length ≤ big) :
    Pst K Fs own H σ (ρ.set i (some (.lst (xs ++ ys)))) (keepO own lk d) (Fs.set i (p :: ((Fs.getD i []).drop 1 ++ F))) (upd H' p (.lst (vs ++ ws))) := by
  have io := keepO_sub i hi
  have s' := s.same x
  obtain ⟨p', Fr, e1, e2, np, ⟨y, q, m⟩, o⟩ := s'.own i io
  rw [hp] at e2
  injection e2 with e2
  injection e2 with e2
  injection e2 with e2
  subst e2
  obtain ⟨v2, F2, e3, e4, r2⟩ := s'.env.get i _ e
  rw [e1] at e4
  injection e4 with e4
  subst e4
  rw [hp] at e3
  injection e3 with e3
  injection e3 with e3
  subst e3
  simp only [Rp] at r2
  obtain ⟨a, us, G, e5, e6, q2, r2, l2⟩ := r2
  injection e5 with e5
  subst e5
  injection e6 with _ e6
  subst e6
  rw [hv] at q2
  injection q2 with q2
  injection q2 with q2
  subst q2
  have hdrop : (Fs.getD i []).drop 1 = Fr := by
    rw [List.getD_eq_getElem?_getD, e1]
    rfl
  rw [hdrop]
  have npF : p ∉ F := fun z => keep_out s rd ud hi e1 (hF p z)
  have hil : i < ρ.length := (List.getElem?_eq_some_iff.mp e).1
  have hiF : i < Fs.length := by rw [s.env.lF]; exact hil
  have xu : Ext (fun a => a = p) H' (upd H' p (.lst (vs ++ ws))) := ext_root hv trivial
  have rr : roots Fs own p := ⟨i, io, Fr, e1⟩
  have covF : ∀ a ∈ F, cov Fs a ∨ H a = none := fun a ha => ud.cov a (hF a ha)
  refine ⟨⟨⟨?_, ?_, fun G hG a ha => ?_, fun j d' hd => ?_⟩, fun j hj => ?_⟩, ?_, fun a ha => ?_, fun a ha => ?_⟩
  · rw [List.length_set]; exact s.env.ls
  · rw [List.length_set, List.length_set]; exact s.env.lF
  · rcases List.mem_or_eq_of_mem_set hG with z | z
    · obtain ⟨y, q⟩ := s'.env.dm G z a ha
      exact xu.stay a y q
    · rw [z] at ha
      rcases List.mem_cons.mp ha with z | z
      · exact ⟨_, by rw [z]; exact upd_same⟩
      · rcases List.mem_append.mp z with z | z
        · obtain ⟨y, q⟩ := r2.dom a z
          exact xu.stay a y q
        · obtain ⟨y, q⟩ := r.dom a z
          exact xu.stay a y q
  · by_cases hj : i = j
    · subst hj
      rw [List.getElem?_set_self hil] at hd
      injection hd with hd
      injection hd with hd
      subst hd
      refine ⟨.ref p, p :: (Fr ++ F), hp, List.getElem?_set_self hiF, ?_⟩
      simp only [Rp]
      refine ⟨p, vs ++ ws, Fr ++ F, rfl, rfl, upd_same, RpAll.ext xu _ _ _ (fun a ha z => ?_) (r2.append r), by rw [List.length_append]; exact hl⟩
      subst z
      rcases List.mem_append.mp ha with z | z
      · exact np z
      · exact npF z
    · rw [List.getElem?_set_ne hj] at hd
      obtain ⟨v3, F3, e7, e8, r3⟩ := s'.env.get j d' hd
      refine ⟨v3, F3, e7, by rw [List.getElem?_set_ne hj]; exact e8, Rp.ext xu _ _ _ (fun a ha z => ?_) r3⟩
      subst z
      exact o j F3 (Ne.symm hj) e8 ha
  · by_cases hji : i = j
    · subst hji
      refine ⟨p, Fr ++ F, List.getElem?_set_self hiF, hp, fun z => ?_, ⟨_, upd_same, trivial⟩, fun k G hk eG m => ?_⟩
      · rcases List.mem_append.mp z with z | z
        · exact np z
        · exact npF z
      · rw [List.getElem?_set_ne (Ne.symm hk)] at eG
        exact o k G hk eG m
    · obtain ⟨pj, Frj, f1, f2, nj, ⟨yj, qj, mj⟩, oj⟩ := s'.own j (keepO_sub j hj)
      have hpj : pj ≠ p := fun z => by
        subst z
        exact oj i _ hji e1 List.mem_cons_self
      refine ⟨pj, Frj, by rw [List.getElem?_set_ne hji]; exact f1, f2, nj, ⟨yj, by rw [upd_ne hpj]; exact qj, mj⟩, fun k G hk eG m => ?_⟩
      by_cases hki : i = k
      · subst hki
        rw [List.getElem?_set_self hiF] at eG
        injection eG with eG
        rw [← eG] at m
        rcases List.mem_cons.mp m with z | z
        · exact hpj z
        · rcases List.mem_append.mp z with z | z
          · exact oj i _ hk e1 (List.mem_cons_of_mem _ z)
          · exact keep_out s rd ud hj f1 (hF _ z)
      · rw [List.getElem?_set_ne hki] at eG
        exact oj k G hk eG m
  · exact (Ext.of (N := roots Fs own) x).trans xu fun a z => by
      subst z
      exact .inl rr
  · obtain ⟨j, hj, Frj, ej⟩ := ha
    by_cases hji : i = j
    · subst hji
      rw [List.getElem?_set_self hiF] at ej
      injection ej with ej
      injection ej with ej _
      subst ej
      exact .inl rr
    · rw [List.getElem?_set_ne hji] at ej
      exact .inl ⟨j, keepO_sub j hj, Frj, ej⟩
  · obtain ⟨G, hG, m⟩ := ha
    rcases List.mem_or_eq_of_mem_set hG with z | z
    · exact .inl ⟨G, z, m⟩
    · rw [z] at m
      rcases List.mem_cons.mp m with z | z
      · subst z
        exact .inl ⟨_, List.mem_of_getElem? e1, List.mem_cons_self⟩
      · rcases List.mem_append.mp z with z | z
        · exact .inl ⟨_, List.mem_of_getElem? e1, List.mem_cons_of_mem _ z⟩
        · exact covF a z

/-- xs.append(e), xs.extend(e), xs at slot i, nobody else's -/
def sfApp (i : Nat) (lk : List Nat) (fe : En → R D) : SF := fun ρ own => match ρ[i]? with
  | some (some (.lst xs)) => (fe ρ).bind fun d => if (keepO own lk d).contains i ∧ xs.length + 1 ≤ big then .ok (.nx (ρ.set i (some (.lst (xs ++ [d])))) (keepO own lk d)) else .st
  | _ => .st
def sfExt (i : Nat) (lk : List Nat) (fe : En → R D) : SF := fun ρ own => match ρ[i]? with
  | some (some (.lst xs)) => (fe ρ).bind fun d => match d with
    | .lst ys => if (keepO own lk d).contains i ∧ xs.length + ys.length ≤ big then .ok (.nx (ρ.set i (some (.lst (xs ++ ys)))) (keepO own lk d)) else .st
    | _ => .st
  | _ => .st
section
variable {X : Cx} {W : XK} {st : Stmt} {sts : List Stmt} {body : SF} {e a b c tg : Expr} {es : List Expr} {fa fb : En → R D} {fs : En → R (List D)} {la lb ls : List Nat} {pos px apos cpos : Pos} {lv : Nat} {vs : List Nat} {g : D → En → R En}

theorem tC_drop {P : V → Hp → Prop} {ta : TE} {σ : Sg} {H : Hp} (h : ta σ H P) : ta σ H P := h
theorem ss_append {i : Nat} {x : Str} (hN : X.N[i]? = some x) (hv : Vis X.env.scope x) (ha : SE X W a fa la) (hd : (x == ("__debug__" : Str)) = false := by decide) (hcd : (x == ("__classdict__" : Str)) = false := by decide)
    (hfew : ((backTo cpos (starEach [a] X.env)).all (fun x => !x.1) && (backToKw cpos (keywordEach [] X.env)).all (fun x => x.1.isSome)
      && decide (([a] : List Expr).length + ([] : List Keyword).length + (if ([] : List Keyword).isEmpty then 0 else 1) < 30)) = true := by rfl)
    (hline : (apos.endLine == cpos.line) = true := by rfl) (hse : starEach [a] X.env = (false, eval a X.env) :: starEach [] X.env := by rfl) (hplain : (backTo cpos (starEach [] X.env)).any (·.1) = false := by rfl) (hbase : attributeBase (.Name x px) "append" X.env (eval (.Name x px) X.env) = eval (.Name x px) X.env := by rfl)
    (hs : swapsWith (.Call (.Attribute (.Name x px) "append" apos) [a] [] cpos) none pos.line X.env = pure false := by rfl) :
    SS X W (.Expr (.Call (.Attribute (.Name x px) "append" apos) [a] [] cpos) pos) (sfApp i la fa) := by
  refine ⟨PS.imp (ps_expr (pe_bm PySem.F.plainAttrs_list PySem.F.slot_list_append PySem.F.type_list_append mt_append (pe_var hN hv hd hcd) (sa_cons (ls := []) ha sa_nil hse).pa hbase hfew hline hse hplain) hs) fun N σ H q => ?_⟩
  obtain ⟨ρ, own, Fs, s, q⟩ := q
  unfold sfApp at q
  split at q
  · rename_i xs e
    obtain ⟨v, F, e1, e2, r⟩ := s.env.get i _ e
    simp only [Rp] at r
    obtain ⟨p, us, G, rfl, rfl, hp, r, l⟩ := r
    refine ⟨.ref p, e1, .inl ⟨rfl, us, .inl (.inl hp)⟩, ρ, Fs, s.env, ?_⟩
    simp only [aC, aN]
    cases ea : fa ρ with
    | st => rw [ea] at q; exact q.elim
    | rs c n => rw [ea] at q; exact fun cls dd H' x z => q cls dd H' (.of x) z
    | ok d =>
      rw [ea] at q
      simp only [R.bind] at q ⊢
      intro ws H' Fd x rd ud
      split at q
      · rename_i hc
        obtain ⟨w, rfl, rw'⟩ := rd.one_inv
        have hp' := x p _ hp
        have hlen := (r.same x).len
        refine ⟨p, us, w, rfl, rfl, hp', by rw [← hlen, ← big_line]; omega, ?_⟩
        exact q σ _ _ (Pst.grow s x rw' (ud.mono fun j hj => by simpa using hj) (fun a ha => ha) (.one rw') (mem_keepO hc.1) e e1 hp' (by simpa using hc.2))
      · exact q.elim
  · exact q.elim
theorem ss_extend {i : Nat} {x : Str} (hN : X.N[i]? = some x) (hv : Vis X.env.scope x) (ha : SE X W a fa la) (hd : (x == ("__debug__" : Str)) = false := by decide) (hcd : (x == ("__classdict__" : Str)) = false := by decide)
    (hfew : ((backTo cpos (starEach [a] X.env)).all (fun x => !x.1) && (backToKw cpos (keywordEach [] X.env)).all (fun x => x.1.isSome)
      && decide (([a] : List Expr).length + ([] : List Keyword).length + (if ([] : List Keyword).isEmpty then 0 else 1) < 30)) = true := by rfl)
    (hline : (apos.endLine == cpos.line) = true := by rfl) (hse : starEach [a] X.env = (false, eval a X.env) :: starEach [] X.env := by rfl) (hplain : (backTo cpos (starEach [] X.env)).any (·.1) = false := by rfl) (hbase : attributeBase (.Name x px) "extend" X.env (eval (.Name x px) X.env) = eval (.Name x px) X.env := by rfl)
    (hs : swapsWith (.Call (.Attribute (.Name x px) "extend" apos) [a] [] cpos) none pos.line X.env = pure false := by rfl) :
    SS X W (.Expr (.Call (.Attribute (.Name x px) "extend" apos) [a] [] cpos) pos) (sfExt i la fa) := by
  refine ⟨PS.imp (ps_expr (pe_bm PySem.F.plainAttrs_list PySem.F.slot_list_extend PySem.F.type_list_extend mt_extend (pe_var hN hv hd hcd) (sa_cons (ls := []) ha sa_nil hse).pa hbase hfew hline hse hplain) hs) fun N σ H q => ?_⟩
  obtain ⟨ρ, own, Fs, s, q⟩ := q
  unfold sfExt at q
  split at q
  · rename_i xs e
    obtain ⟨v, F, e1, e2, r⟩ := s.env.get i _ e
    simp only [Rp] at r
    obtain ⟨p, us, G, rfl, rfl, hp, r, l⟩ := r
    refine ⟨.ref p, e1, .inl ⟨rfl, us, .inl (.inl hp)⟩, ρ, Fs, s.env, ?_⟩
    simp only [aC, aN]
    cases ea : fa ρ with
    | st => rw [ea] at q; exact q.elim
    | rs c n => rw [ea] at q; exact fun cls dd H' x z => q cls dd H' (.of x) z
    | ok d =>
      rw [ea] at q
      simp only [R.bind] at q ⊢
      intro ws H' Fd x rd ud
      split at q
      · rename_i ys
        split at q
        · rename_i hc
          obtain ⟨w, rfl, rw'⟩ := rd.one_inv
          have rw2 := rw'
          simp only [Rp] at rw2
          obtain ⟨p2, us2, G2, rfl, rfl, hp2, r2, l2⟩ := rw2
          have hp' := x p _ hp
          have hlen := (r.same x).len
          refine ⟨p, p2, us, us2, rfl, rfl, hp', hp2, by rw [← hlen, ← r2.len, ← big_line]; exact hc.2, ?_⟩
          exact q σ _ _ (Pst.grow s x rw' (ud.mono fun j hj => by simpa using hj) (fun a ha => List.mem_cons_of_mem _ ha) r2 (mem_keepO hc.1) e e1 hp' hc.2)
        · exact q.elim
      · exact q.elim
  · exact q.elim

/-! ### a, b = e -/
def sfTo (vs lk : List Nat) (g : D → En → R En) (fa : En → R D) : SF := fun ρ own => (fa ρ).bind fun d => (noR (g d ρ)).bind fun ρ' => .ok (.nx ρ' (sansO (keepO own lk d) vs))
theorem Pst.took {K : PySem.W.Frag} {H H' : Hp} {σ σ' : Sg} {ρ ρ' : En} {own lk vs : List Nat} {Fs Fs' : List (List Addr)} {F : List Addr} {d : D} {v : V} (s : Stt K H σ ρ own Fs) (x : Same H H') (r : Rp K H' d v F) (u : Sub F Fs lk H) (ok : EnvOk K H' σ' ρ' Fs') (k : ∀ j, j ∉ vs → σ'[j]? = σ[j]? ∧ Fs'[j]? = Fs[j]?) (w : ∀ j ∈ vs, ∀ G, Fs'[j]? = some G → ∀ a ∈ G, a ∈ F) :
    Pst K Fs own H σ' ρ' (sansO (keepO own lk d) vs) Fs' H' := by
  obtain ⟨st, rt, cv⟩ := ((s.same x).weak (own' := keepO own lk d) keepO_sub).took ok k w fun a ha hr => by
    obtain ⟨i, hi, Fr, e⟩ := hr
    exact keep_out s r u hi e ha
  exact ⟨st, .of x, fun a ha => .inl ((rt a ha).mono keepO_sub), fun a ha => (cv a ha).elim .inl (u.cov a)⟩
theorem ss_to (hg : SG X tg vs g) (ha : SE X W a fa la) (hs : swapsWithSole [tg] a pos.line X.env = pure false := by rfl) (hw : swappedStores [tg] a X.env = pure none := by rfl)
    (h1 : (assignEach [tg] X.env).map (·.2) = [assign tg X.env] := by rfl) : SS X W (.Assign [tg] a pos) (sfTo vs la g fa) := by
  refine ⟨PS.imp (ps_asg ha.pe hg.pg hs hw h1) fun N σ H q => ?_⟩
  obtain ⟨ρ, own, Fs, s, q⟩ := q
  refine tE_S s q fun d v H' F x r u q => ⟨d, F, ρ, Fs, s.env.same x, r, ?_⟩
  cases eg : g d ρ with
  | st => rw [eg] at q; exact q.elim
  | rs c n => rw [eg] at q; exact q.elim
  | ok ρ' =>
    rw [eg] at q
    exact fun σ' Fs' ok l k w => q σ' H' Fs' (.took s x r u ok k w)
/-- a, b = x, y -/
def sfPar (i j : Nat) (la lb : List Nat) (fa fb : En → R D) : SF := fun ρ own => (fa ρ).bind fun d => (fb ρ).bind fun d2 => .ok (.nx ((ρ.set i (some d)).set j (some d2)) (sansO (sansO own (la ++ lb)) [i, j]))
theorem ss_par {i j : Nat} {x y : Str} {py pt : Pos} {kt k2 : Nat} {pt2 : Pos} (G : Good lv X W) (hi : X.N[i]? = some x) (hj : X.N[j]? = some y) (hij : i ≠ j)
    (hx : X.env.scope.names.lookup x = some .local) (hy : X.env.scope.names.lookup y = some .local) (ha : SE X W a fa la) (hb : SE X W b fb lb) (hse : starEach [a, b] X.env = (false, eval a X.env) :: starEach [b] X.env := by rfl) (hse2 : starEach [b] X.env = (false, eval b X.env) :: starEach [] X.env := by rfl)
    (hw : swappedStores [.Tuple [.Name x px, .Name y py] kt pt] (.Tuple [a, b] k2 pt2) X.env = pure (some [x, y]) := by rfl) (hs : swapsWithSole [.Tuple [.Name x px, .Name y py] kt pt] (.Tuple [a, b] k2 pt2) pos.line X.env = pure false := by rfl) :
    SS X W (.Assign [.Tuple [.Name x px, .Name y py] kt pt] (.Tuple [a, b] k2 pt2) pos) (sfPar i j la lb fa fb) := by
  refine ⟨PS.imp (ps_par G.calm G.nd hi hj hij hx hy (sa_cons ha (sa_cons hb sa_nil hse2) hse).pa hw hs) fun N σ H q => ?_⟩
  obtain ⟨ρ, own, Fs, s, q⟩ := q
  refine ⟨ρ, Fs, s.env, ?_⟩
  unfold sfPar at q
  simp only [aC, aN]
  cases ea : fa ρ with
  | st => rw [ea] at q; exact q.elim
  | rs c n => rw [ea] at q; exact fun cls dd H' x z => q cls dd H' (.of x) z
  | ok d =>
    cases eb : fb ρ with
    | st => rw [ea, eb] at q; exact q.elim
    | rs c n => rw [ea, eb] at q; exact fun cls dd H' x z => q cls dd H' (.of x) z
    | ok d2 =>
      rw [ea, eb] at q
      simp only [R.bind] at q ⊢
      intro ws H' Fd x rd ud
      obtain ⟨v, v2, G1, G2, rfl, rfl, r1, r2⟩ := rd.two_inv
      refine ⟨v, v2, rfl, ?_⟩
      have ud : Sub (G1 ++ G2) Fs (la ++ lb) H := ud.mono fun k hk => by simpa using hk
      have ok := ((s.env.same x).set (i := i) r1).set (i := j) r2
      obtain ⟨st, rt, cv⟩ := ((s.same x).weak (own' := sansO own (la ++ lb)) fun k hk => (sansO_sub k hk).1).took (vs := [i, j]) (F := G1 ++ G2) ok (fun k hk => by
          simp only [List.mem_cons, List.not_mem_nil, or_false, not_or] at hk
          rw [List.getElem?_set_ne (Ne.symm hk.2), List.getElem?_set_ne (Ne.symm hk.1), List.getElem?_set_ne (Ne.symm hk.2), List.getElem?_set_ne (Ne.symm hk.1)]
          exact ⟨rfl, rfl⟩) (fun k hk G e a ha => by
          simp only [List.mem_cons, List.not_mem_nil, or_false] at hk
          by_cases hkj : j = k
          · subst hkj
            by_cases hl : j < (Fs.set i G1).length
            · rw [List.getElem?_set_self hl] at e
              injection e with e
              exact List.mem_append_right _ (e ▸ ha)
            · rw [List.getElem?_eq_none (by simpa using hl)] at e
              cases e
          · have hki : k = i := hk.resolve_right (Ne.symm hkj)
            subst hki
            rw [List.getElem?_set_ne hkj] at e
            by_cases hl : k < Fs.length
            · rw [List.getElem?_set_self hl] at e
              injection e with e
              exact List.mem_append_left _ (e ▸ ha)
            · rw [List.getElem?_eq_none (by simpa using hl)] at e
              cases e) (s.subOut ud)
      exact q _ H' _ ⟨st, .of x, fun a ha => .inl ((rt a ha).mono fun k hk => (sansO_sub k hk).1), fun a ha => (cv a ha).elim .inl (ud.cov a)⟩
end

/-! ### defs -/
def runB (n N : Nat) (body : SF) : List D → R D := fun ds => if ds.length = n then match body (ds.map some ++ List.replicate (N - n) none) [] with
    | .ok (.nx _ _) => .ok .non
    | .ok (.rt d) => .ok d
    | .ok _ => .st
    | .rs c k => .rs c k
    | .st => .st
  else .st
theorem RpAll.split {K : PySem.W.Frag} {H : Hp} : ∀ {ds : List D} {vs : List V} {F : List Addr}, RpAll K H ds vs F → ∃ Fs : List (List Addr), Fs.length = ds.length ∧ (∀ G ∈ Fs, ∀ a ∈ G, a ∈ F) ∧ ∀ (i : Nat) d, ds[i]? = some d → ∃ v G, vs[i]? = some v ∧ Fs[i]? = some G ∧ Rp K H d v G
  | [], vs, F, r => ⟨[], rfl, (fun G z => by cases z), fun i d e => by simp at e⟩
  | d :: ds, vs, F, r => by
    simp only [RpAll] at r
    obtain ⟨v, vr, G1, G2, rfl, rfl, r1, r2⟩ := r
    obtain ⟨Fs, h1, h2, h3⟩ := RpAll.split r2
    refine ⟨G1 :: Fs, by simp [h1], fun G hG a ha => ?_, fun i d' e => ?_⟩
    · rcases List.mem_cons.mp hG with z | z
      · exact List.mem_append_left _ (z ▸ ha)
      · exact List.mem_append_right _ (h2 G z a ha)
    · cases i with
      | zero =>
        simp at e
        subst e
        exact ⟨v, G1, rfl, rfl, r1⟩
      | succ i => simpa using h3 i d' (by simpa using e)
theorem start_ok {K : PySem.W.Frag} {H : Hp} {ds : List D} {vs : List V} {F : List Addr} {N : List Str} (r : RpAll K H ds vs F) (hn : ds.length ≤ N.length) : ∃ Fs, Stt K H (L2.start N vs) (ds.map some ++ List.replicate (N.length - ds.length) none) [] Fs ∧ ∀ a, cov Fs a → a ∈ F := by
  obtain ⟨Fs, h1, h2, h3⟩ := r.split
  have hl := r.len
  refine ⟨Fs ++ List.replicate (N.length - ds.length) [], ⟨⟨?_, ?_, fun G hG a ha => ?_, fun i d e => ?_⟩, fun i z => by cases z⟩, fun a ha => ?_⟩
  · unfold L2.start
    simp [hl]
  · simp [h1]
  · rcases List.mem_append.mp hG with z | z
    · exact r.dom a (h2 G z a ha)
    · rw [(List.mem_replicate.mp z).2] at ha
      cases ha
  · by_cases hi : i < ds.length
    · rw [List.getElem?_append_left (by simpa using hi), List.getElem?_map] at e
      cases q : ds[i]? with
      | none => rw [q] at e; cases e
      | some d' =>
        rw [q] at e
        injection e with e
        injection e with e
        subst e
        obtain ⟨v, G, e1, e2, rr⟩ := h3 i d' q
        refine ⟨v, G, ?_, ?_, rr⟩
        · unfold L2.start
          rw [List.getElem?_append_left (by simp; omega), List.getElem?_map, e1]
          rfl
        · rw [List.getElem?_append_left (by omega)]
          exact e2
    · rw [List.getElem?_append_right (by simp; omega)] at e
      rw [List.getElem?_replicate] at e
      split at e <;> cases e
  · obtain ⟨G, hG, m⟩ := ha
    rcases List.mem_append.mp hG with z | z
    · exact h2 G z a m
    · rw [(List.mem_replicate.mp z).2] at m
      cases m
section
variable {P : Program} {w : World} {K : PySem.W.Frag} {mg : Str → Option Value} {base : Heap}
/-- THE RULE of a def: its body's function is the def's -/
theorem fn_ok {x : Str} {st : Stmt} {f : Addr} {fd : FuncData} {N ps : List Str} {k : Nat} {body : SF} (F : Fun K x x st f fd) (S : FnScope N ps (defScope st)) (hm : mg x = some (.ref f))
    (hb : ∀ (kV doc pm : Value) (an : Option Addr) (cdv ct : Value) (us : List Value), us.length = ps.length → bindArgs (PySem.W.fnOf x x (defArgs st) (defBody st) (defScope st) .none kV doc pm an cdv ct) ⟨us, []⟩ = pure (ps.zip us)) (hN : ps.length ≤ N.length)
    (hbody : ∀ (cdv : Value) (A : Around) (outer : List Env) (s : Shared) (H : Hp) (E : XK), Good k (cxOf (L2.CX P w) P w K mg base N x (defScope st) f cdv A outer s H E) E → SSs (cxOf (L2.CX P w) P w K mg base N x (defScope st) f cdv A outer s H E) E (defBody st) body) :
    CalK P w K mg base (k + 1) x (runB ps.length N.length body) := by
  refine ⟨f, fd, ps, F.okX S (fun vs H Q E h => ?_) (fun cdv A outer s H vs Q E hr h => ?_), hm, F.kp, F.binds hb⟩
  · obtain ⟨ds, G, r, h⟩ := h
    unfold runB at h
    by_cases hl : ds.length = ps.length
    · rw [← hl, r.len]
    · rw [if_neg hl] at h
      exact h.elim
  · obtain ⟨ds, G, r, h⟩ := h
    unfold runB at h
    by_cases hl : ds.length = ps.length
    · rw [if_pos hl] at h
      have gd : Good k (cxOf (L2.CX P w) P w K mg base N x (defScope st) f cdv A outer s H E) E := ⟨rfl, S.nd, hr, passes_of rfl, passes_call (takes_of rfl rfl rfl rfl) fun _ _ _ _ h => h⟩
      refine ⟨_, (hbody cdv A outer s H E gd).ps, ?_⟩
      obtain ⟨Fs, stt, cv⟩ := start_ok (N := N) r (by omega)
      rw [hl] at stt
      refine ⟨_, [], Fs, stt, ?_⟩
      have noRoot : ∀ a, ¬ roots Fs [] a := fun a z => by
        obtain ⟨i, hi, _⟩ := z
        cases hi
      cases eb : body (ds.map some ++ List.replicate (N.length - ps.length) none) [] with
      | st => rw [eb] at h; exact h
      | rs c n => rw [eb] at h; exact fun cls dd H' x z => h cls dd H' (x.same noRoot) z
      | ok o =>
        rw [eb] at h
        cases o with
        | nx ρ' own' => exact fun σ' H' Fs' b => h .non H' [] (b.ext.same noRoot) (by simp [Rp]) (fun _ z => by cases z)
        | rt d => exact fun v H' F x rr u => h v H' F (x.same noRoot) rr fun a ha => (u a ha).elim (fun z => .inl (cv a z)) .inr
        | bk ρ' own' => exact h.elim
        | ct ρ' own' => exact h.elim
    · rw [if_neg hl] at h
      exact h.elim
end
end Ev

/-! Ev, part J: methods of texts. -/
namespace Ev
open PySem PySem.Spec L2

def glue (s : List Nat) : List (List Nat) → List Nat
  | [] => []
  | [x] => x
  | x :: y :: r => x ++ s ++ glue s (y :: r)
def sumLen : List (List Nat) → Nat
  | [] => 0
  | x :: r => x.length + sumLen r
theorem toStr_app (x y : List Nat) : toStr (x ++ y) = toStr x ++ toStr y := by
  show (⟨(x ++ y).toArray⟩ : Str) = ⟨x.toArray ++ y.toArray⟩
  simp
theorem join_glue (s : List Nat) : ∀ ys : List (List Nat), Str.join (toStr s) (ys.map toStr) = toStr (glue s ys)
  | [] => rfl
  | [x] => rfl
  | x :: y :: r => by
    have ih := join_glue s (y :: r)
    simp only [List.map_cons, Str.join, glue] at ih ⊢
    rw [toStr_app, toStr_app, ih]
theorem glue_len (s : List Nat) : ∀ ys : List (List Nat), (glue s ys).length ≤ sumLen ys + ys.length * s.length
  | [] => Nat.zero_le _
  | [x] => by
    simp only [glue, sumLen, List.length_cons, List.length_nil]
    omega
  | x :: y :: r => by
    have ih := glue_len s (y :: r)
    simp only [glue, sumLen, List.length_cons, List.length_append] at ih ⊢
    have : (r.length + 1 + 1) * s.length = (r.length + 1) * s.length + s.length := Nat.succ_mul _ _
    omega
theorem glue_all {p : Nat → Bool} (s : List Nat) (hs : s.all p = true) : ∀ ys : List (List Nat), (∀ y ∈ ys, y.all p = true) → (glue s ys).all p = true
  | [], _ => rfl
  | [x], h => h x (by simp)
  | x :: y :: r, h => by
    have ih := glue_all s hs (y :: r) fun z hz => h z (List.mem_cons_of_mem _ hz)
    simp only [glue, List.all_append, ih, hs, h x (by simp), Bool.and_self]
theorem sumLen_eq : ∀ ys : List (List Nat), ((ys.map toStr).map (·.length)).sum = sumLen ys
  | [] => rfl
  | x :: r => by
    simp only [List.map_cons, List.sum_cons, sumLen, sumLen_eq r]
    rfl

section
variable {X : Cx} {W : XK} {e a b c o : Expr} {es rest : List Expr} {fa fb fc fo : En → R D} {fs : En → R (List D)} {la lb lc ls lo : List Nat} {pos apos p : Pos}

/-- s.m(e): a method of a text with one argument -/
def SndM (X : Cx) (W : XK) (r : V → List V → Hp → VK → Prop) (g : List Nat → D → R D) : Prop := ∀ (H0 H : Hp) (s : List Nat) (y : V) (d2 : D) (F2 : List Addr) (Q : VK) (Fs : List (List Addr)) (lk : List Nat), Same H0 H → okS s = true → Rp X.K H d2 y F2 → Sub F2 Fs lk H0 →
  EndE X.K X.mg W Fs lk H0 Q (g s d2) → r (.str ⟨s.toArray⟩) [y] H Q
@[simp] def cMs (g : List Nat → D → R D) (fo fa : En → R D) : En → R D := fun ρ => (fo ρ).bind fun x => match x with
  | .str s => (fa ρ).bind (g s)
  | _ => .st
theorem se_m1 {id : String} {name : Str} {r : V → List V → Hp → VK → Prop} {g : List Nat → D → R D} (slot : Slot "str" name id) (ty : typeOf (.builtin id) = pure (.type "method_descriptor")) (rule : MtR X id r) (hg : SndM X W r g)
    (ho : SE X W o fo lo) (ha : SE X W a fa la) (hs : starEach [a] X.env = [(false, eval a X.env)] := by rfl) (hbase : attributeBase o name X.env (eval o X.env) = eval o X.env := by rfl) (hline : (apos.endLine == pos.line) = true := by rfl) :
    SE X W (.Call (.Attribute o name apos) [a] [] pos) (cMs g fo fa) (lo ++ la) := by
  refine ⟨PE.imp (pe_m1 slot ty rule ho.pe ha.pe hs hbase hline) fun σ H Q h => ?_⟩
  obtain ⟨ρ, Fs, ok, h⟩ := h
  refine tE_bind (Same.refl H) ok (fun j hj => List.mem_append_left _ hj) h fun d1 v1 H1 F1 s1 _ r1 u1 h1 => ?_
  split at h1
  · simp only [Rp] at r1
    obtain ⟨rfl, o1, _⟩ := r1
    refine ⟨⟨_, rfl⟩, tE_bind s1 (ok.same s1) (fun j hj => List.mem_append_right _ hj) h1 fun d2 v2 H2 F2 s2 s12 r2 u2 h2 => ?_⟩
    exact hg H H2 _ v2 d2 F2 Q Fs _ s2 o1 r2 u2 h2
  · exact h1.elim
/-- s.join(list or tuple of texts) -/
def gJoin (s : List Nat) (y : D) : R D := match y with
  | .lst xs => match strsOf xs with
    | some ys => if sumLen ys + ys.length * s.length ≤ big then .ok (.str (glue s ys)) else .st
    | none => .st
  | .tup xs => match strsOf xs with
    | some ys => if sumLen ys + ys.length * s.length ≤ big then .ok (.str (glue s ys)) else .st
    | none => .st
  | _ => .st
theorem okS_glue {s : List Nat} {ys : List (List Nat)} (hs : okS s = true) (h : ∀ y ∈ ys, okS y = true) (l : sumLen ys + ys.length * s.length ≤ big) : okS (glue s ys) = true := by
  have := glue_len s ys
  simp only [okS, Bool.and_eq_true, decide_eq_true_eq] at hs h ⊢
  exact ⟨glue_all s hs.1 ys fun y hy => (h y hy).1, by omega⟩
theorem sndm_join : SndM X W (fun x xs H Q => ∃ a p, ∃ ys : List Str, x = .str a ∧ xs = [.ref p] ∧ (SqL X.K H p (ys.map V.str) ∨ SqT X.K H p (ys.map V.str)) ∧
    (ys.map (·.length)).sum + ys.length * a.length ≤ 16777216 ∧ Q (.str (Txt.join a ys)) H) gJoin := fun H0 H s y d2 F2 Q Fs lk x o r u h => by
  unfold gJoin at h
  have fin : ∀ ys : List (List Nat), (∀ y ∈ ys, okS y = true) → sumLen ys + ys.length * s.length ≤ big → EndE X.K X.mg W Fs lk H0 Q (.ok (.str (glue s ys))) → ((ys.map toStr).map (·.length)).sum + (ys.map toStr).length * (toStr s).length ≤ 16777216 ∧ Q (.str (Txt.join (toStr s) (ys.map toStr))) H := fun ys hy l h => by
    refine ⟨by rw [sumLen_eq, List.length_map]; exact l, ?_⟩
    have e : Txt.join (toStr s) (ys.map toStr) = toStr (glue s ys) := (StrLaws.glued_eq_join _ _).trans (join_glue s ys)
    rw [e]
    exact h.str x (okS_glue o hy l)
  split at h
  · split at h
    · rename_i e
      split at h
      · rename_i hl
        simp only [Rp] at r
        obtain ⟨a, vs, G, rfl, _, q, r, _⟩ := r
        obtain ⟨e2, oy⟩ := strs_v r e
        rw [e2] at q
        obtain ⟨h1, h2⟩ := fin _ oy hl h
        exact ⟨_, a, _, rfl, rfl, .inl (.inl (.inl q)), h1, h2⟩
      · exact h.elim
    · exact h.elim
  · split at h
    · rename_i e
      split at h
      · rename_i hl
        simp only [Rp] at r
        obtain ⟨a, vs, rfl, q, r, _⟩ := r
        obtain ⟨e2, oy⟩ := strs_v r e
        rw [e2] at q
        obtain ⟨h1, h2⟩ := fin _ oy hl h
        exact ⟨_, a, _, rfl, rfl, .inr q, h1, h2⟩
      · exact h.elim
    · exact h.elim
  · exact h.elim
/-- s.count(one sign) -/
def cntN (c : Nat) (s : List Nat) : Nat := (s.filter fun x => decide (x = c)).length
def gCount (s : List Nat) (y : D) : R D := match y with
  | .str [c] => .ok (.int (cntN c s))
  | _ => .st
theorem cnt_cntN (c : Nat) : ∀ s : List Nat, PyProof.Rows.cnt c s = (cntN c s : Int)
  | [] => rfl
  | n :: r => by
    rw [PyProof.Rows.cnt_cons, cnt_cntN c r]
    unfold cntN
    rw [List.filter_cons]
    by_cases h : n = c <;> simp [h] <;> omega
theorem sndm_count : SndM X W (fun x xs H Q => ∃ a b, x = .str a ∧ xs = [.str b] ∧ Q (.int (Txt.count a b)) H) gCount := fun H0 H s y d2 F2 Q Fs lk x o r u h => by
  unfold gCount at h
  split at h
  · rename_i c
    simp only [Rp] at r
    obtain ⟨rfl, _⟩ := r
    refine ⟨_, _, rfl, rfl, ?_⟩
    have e : Txt.count ⟨s.toArray⟩ ⟨#[c]⟩ = (cntN c s : Int) := by
      rw [PyProof.Rows.count_is]
      exact cnt_cntN c s
    rw [show (⟨[c].toArray⟩ : Str) = ⟨#[c]⟩ from rfl, e]
    exact h.int x
  · exact h.elim
end
end Ev

/-! Ev, part K: comprehensions with two for. -/
namespace Ev
open PySem PySem.Spec L2

/-- a comprehension's list D while it grows: it shows ys -/
def LcSt (K : PySem.W.Frag) (Fs : List (List Addr)) (lk : List Nat) (H H1 : Hp) (T : Addr) (ys : List D) (Hc : Hp) : Prop :=
  ∃ acc G, Hc T = some (.lst acc) ∧ RpAll K Hc ys acc G ∧ T ∉ G ∧ Sub G Fs lk H ∧ Ext (fun a => a = T) H1 Hc
section
variable {K : PySem.W.Frag} {Fs : List (List Addr)} {lk : List Nat} {H H1 H2 H3 : Hp} {T : Addr} {ys : List D}
theorem LcSt.same (s : LcSt K Fs lk H H1 T ys H2) (e : Same H2 H3) : LcSt K Fs lk H H1 T ys H3 := by
  obtain ⟨acc, G, eT, ra, nG, uG, xt⟩ := s
  exact ⟨acc, G, e _ _ eT, ra.same e, nG, uG, xt.trans (.of (N := fun _ => False) e) fun a z => z.elim⟩
theorem LcSt.push {y : D} {v : V} {Fy : List Addr} (s : LcSt K Fs lk H H1 T ys H2) (r : Rp K H2 y v Fy) (u : Sub Fy Fs lk H) (n : T ∉ Fy) (l : ys.length < big) :
    ∃ acc, H2 T = some (.lst acc) ∧ acc.length < sizeLine ∧ LcSt K Fs lk H H1 T (ys ++ [y]) (upd H2 T (.lst (acc ++ [v]))) := by
  obtain ⟨acc, G, eT, ra, nG, uG, xt⟩ := s
  have xu : Ext (fun a => a = T) H2 (upd H2 T (.lst (acc ++ [v]))) := ext_root eT trivial
  have hlen := ra.len
  have hbb : big = sizeLine := big_line
  have nB : ∀ a ∈ G ++ Fy, a ≠ T := fun a ha z => by
    subst z
    rcases List.mem_append.mp ha with q | q
    · exact nG q
    · exact n q
  exact ⟨acc, eT, by omega, acc ++ [v], G ++ Fy, upd_same, RpAll.ext xu _ _ _ nB (ra.append (.one r)), fun z => nB T z rfl, uG.app u, xt.trans xu fun a z => .inl z⟩
end

def lcB (f : D → R (List D)) : List D → R (List D)
  | [] => .ok []
  | d :: ds => (f d).bind fun xs => (lcB f ds).bind fun ys => .ok (xs ++ ys)
def lcTurn2 (g : D → En → R En) (t : En → R Bool) (it1 : En → R (List D)) (vs1 : List Nat) (g1 : D → En → R En) (t1 : En → R Bool) (el : En → R D) (ρ0 : En) (d : D) : R (List D) :=
  noR ((g d ρ0).bind fun ρ2 => (t ρ2).bind fun k => if k then (it1 ρ2).bind fun ds1 => lcL (lcTurn g1 t1 el (wipeE ρ2 vs1)) ds1 else .ok [])
def cLC2 (vs : List Nat) (it : En → R (List D)) (g : D → En → R En) (t : En → R Bool) (it1 : En → R (List D)) (vs1 : List Nat) (g1 : D → En → R En) (t1 : En → R Bool) (el : En → R D) : En → R D := fun ρ =>
  (it ρ).bind fun ds => (lcB (lcTurn2 g t it1 vs1 g1 t1 el (wipeE ρ vs)) ds).bind fun ys => if ys.length ≤ big then .ok (.lst ys) else .st
theorem lcB_drop {f : D → R (List D)} {ds : List D} {ys : List D} {i : Nat} {d : D} (h : lcB f (ds.drop i) = .ok ys) (e : ds[i]? = some d) : ∃ o zs, f d = .ok o ∧ lcB f (ds.drop (i + 1)) = .ok zs ∧ ys = o ++ zs := by
  have hd : ds.drop i = d :: ds.drop (i + 1) := by
    obtain ⟨hl, he⟩ := List.getElem?_eq_some_iff.mp e
    rw [List.drop_eq_getElem_cons hl, he]
  rw [hd, lcB] at h
  obtain ⟨o, e1, h⟩ := bind_inv h
  obtain ⟨zs, e2, h⟩ := bind_inv h
  injection h with h
  exact ⟨o, zs, e1, e2, h.symm⟩
theorem lcB_noR {g : D → En → R En} {t : En → R Bool} {it1 : En → R (List D)} {vs1 : List Nat} {g1 : D → En → R En} {t1 : En → R Bool} {el : En → R D} {ρ0 : En} {c : String} {n : Int} : ∀ {ds : List D}, lcB (lcTurn2 g t it1 vs1 g1 t1 el ρ0) ds = .rs c n → False
  | [], h => by cases h
  | d :: ds, h => by
    rw [lcB] at h
    cases e3 : lcTurn2 g t it1 vs1 g1 t1 el ρ0 d with
    | st => rw [e3] at h; cases h
    | rs c n =>
      unfold lcTurn2 noR at e3
      split at e3 <;> cases e3
    | ok o =>
      rw [e3] at h
      simp only [R.bind] at h
      cases e4 : lcB (lcTurn2 g t it1 vs1 g1 t1 el ρ0) ds with
      | st => rw [e4] at h; cases h
      | ok ys => rw [e4] at h; cases h
      | rs c2 n2 => exact lcB_noR e4

section
variable {X : Cx} {W : XK}
theorem lc2_use {own vs1 li lb li1 le tv tv1 : List Nat} {fi fi1 : En → R (List D)} {g g1 : D → En → R En} {t t1 : En → R Bool} {el : En → R D} {wg wg1 : TG} {wt wt1 : TT} {we : TE} {wi1 : TI} {σ : Sg} {H : Hp} {Q : VK}
    (htv : ∀ j ∈ tv, j ∈ own) (htv1 : ∀ j ∈ tv1, j ∈ vs1) (hli : ∀ j ∈ li1, j ∈ tv ∨ j ∈ lb) (hle : ∀ j ∈ le, j ∈ tv1 ∨ j ∈ tv ∨ j ∈ lb)
    (hg : ∀ v σ H Q, tG X tv g v σ H Q → wg v σ H Q) (ht : ∀ σ H Q, tT X W0 t σ H Q → wt σ H Q) (hi1 : ∀ σ H Q, tI X W0 fi1 li1 σ H Q → wi1 σ H Q)
    (hg1 : ∀ v σ H Q, tG X tv1 g1 v σ H Q → wg1 v σ H Q) (ht1 : ∀ σ H Q, tT X W0 t1 σ H Q → wt1 σ H Q) (he : ∀ σ H Q, tE X W0 el le σ H Q → we σ H Q)
    (h : tN X W (cLC2 own fi g t fi1 vs1 g1 t1 el) (li ++ lb) σ H Q) : tLc2 (tI X W fi li) wg wt wi1 wg1 wt1 we own vs1 σ H Q := by
  obtain ⟨ρ, Fs, ok, h⟩ := h
  unfold cLC2 at h
  refine ⟨ρ, Fs, ok, ?_⟩
  cases e : fi ρ with
  | st => rw [e] at h; exact h.elim
  | rs c n => rw [e] at h; exact h
  | ok ds =>
    rw [e] at h
    simp only [R.bind] at h
    intro J H1 Fi s1 io ui di hb T nT
    cases e2 : lcB (lcTurn2 g t fi1 vs1 g1 t1 el (wipeE ρ own)) ds with
    | st => rw [e2] at h; exact h.elim
    | rs c n => exact (lcB_noR e2).elim
    | ok all =>
      rw [e2] at h
      simp only [R.bind] at h
      by_cases hbig : all.length ≤ big
      · rw [if_pos hbig] at h
        have nF : ∀ a ∈ Fi, a ≠ T := fun a ha z => by
          obtain ⟨x, q⟩ := di a ha
          rw [z, nT] at q
          cases q
        have nFs : ∀ F ∈ Fs, ∀ a ∈ F, a ≠ T := fun F hF a ha z => by
          obtain ⟨x, q⟩ := ok.dm F hF a ha
          have := s1 a x q
          rw [z, nT] at this
          cases this
        refine ⟨fun i m Hc => m = ds.length - i ∧ i ≤ ds.length ∧ ∃ ys zs, LcSt X.K Fs (li ++ lb) H H1 T ys Hc ∧ lcB (lcTurn2 g t fi1 vs1 g1 t1 el (wipeE ρ own)) (ds.drop i) = .ok zs ∧ ys ++ zs = all,
          ⟨ds.length, by omega, Nat.zero_le _, [], all, ⟨[], [], upd_same, .nil, (fun z => by cases z), .nil, .of (same_new nT)⟩, by simpa using e2, rfl⟩, ?_⟩
        rintro i m Hc ⟨rfl, hi, ys, zs, st, ez, ea⟩
        have xt : Ext (fun a => a = T) H1 Hc := by
          obtain ⟨_, _, _, _, _, _, x⟩ := st
          exact x
        have io2 := io (fun a => a = T) Hc xt nF i
        by_cases hlt : i < ds.length
        · have ed : ds[i]? = some ds[i] := List.getElem?_eq_getElem hlt
          obtain ⟨go, yl⟩ := io2.1 _ ed
          refine .inr ⟨go, fun H' => ∃ ys zs, LcSt X.K Fs (li ++ lb) H H1 T ys H' ∧ lcB (lcTurn2 g t fi1 vs1 g1 t1 el (wipeE ρ own)) (ds.drop (i + 1)) = .ok zs ∧ ys ++ zs = all,
            fun H' hN => ⟨ds.length - (i + 1), by omega, rfl, hlt, hN⟩, fun x H' hy' => ?_⟩
          obtain ⟨s2, Gx, rx, ux⟩ := yl x H' hy'
          obtain ⟨o, zs2, ef, ez2, rfl⟩ := lcB_drop ez ed
          have ef := noR_inv ef
          obtain ⟨ρ2, eg, ef⟩ := bind_inv ef
          have xt2 : Ext (fun a => a = T) H1 H' := xt.trans (.of (N := fun _ => False) s2) fun a z => z.elim
          have okH : EnvOk X.K H' σ ρ Fs := (ok.same s1).ext xt2 nFs
          refine hg _ _ _ _ ⟨ds[i], Gx, wipeE ρ own, Fs, wipe_ok okH own, rx, ?_⟩
          rw [eg]
          intro σ2 Fs2 ok2 l2 k2 u2
          refine ⟨wipe_back l2 (fun j hj => (k2 j hj).1) htv, ht _ _ _ ⟨ρ2, Fs2, ok2, ?_⟩⟩
          obtain ⟨kb, et, ef⟩ := bind_inv ef
          rw [et]
          intro H3 s3
          have st3 := (st.same s2).same s3
          cases kb with
          | false =>
            rw [if_neg Bool.false_ne_true] at ef ⊢
            injection ef with ef
            subst ef
            exact ⟨ys, zs2, st3, ez2, by simpa using ea⟩
          | true =>
            rw [if_pos rfl] at ef ⊢
            obtain ⟨ds1, ei1, ef⟩ := bind_inv ef
            have nFs2 : ∀ F ∈ Fs2, ∀ a ∈ F, a ≠ T := fun F hF a ha => by
              obtain ⟨j, ej⟩ := List.mem_iff_getElem?.mp hF
              by_cases hj : j ∈ tv
              · exact nF a (ux a (u2 j hj F ej a ha))
              · rw [(k2 j hj).2] at ej
                exact nFs F (List.mem_of_getElem? ej) a ha
            -- where a list of the inner environment comes of
            have tr2 : ∀ j, j ∈ tv ∨ j ∈ lb → ∀ G, Fs2[j]? = some G → ∀ a ∈ G, (∃ j2 ∈ li ++ lb, ∃ G2, Fs[j2]? = some G2 ∧ a ∈ G2) ∨ H a = none := fun j hj G eG a ha => by
              by_cases hjt : j ∈ tv
              · rcases ui a (ux a (u2 j hjt G eG a ha)) with ⟨j2, hj2, q⟩ | z
                · exact .inl ⟨j2, List.mem_append_left _ hj2, q⟩
                · exact .inr z
              · rw [(k2 j hjt).2] at eG
                exact .inl ⟨j, List.mem_append_right _ (hj.resolve_left hjt), G, eG, ha⟩
            have back : ∀ {Hx : Hp}, Ext (fun a => a = T) H1 Hx → ∀ a, Hx a = none → H a = none := fun xx a z => by
              cases q : H a with
              | none => rfl
              | some x =>
                obtain ⟨y, q2⟩ := xx.stay a x (s1 a x q)
                rw [z] at q2
                cases q2
            have xt3 : Ext (fun a => a = T) H1 H3 := xt2.trans (.of (N := fun _ => False) s3) fun a z => z.elim
            have eT : ∀ {Hx : Hp} {zs : List D}, LcSt X.K Fs (li ++ lb) H H1 T zs Hx → ∃ acc, Hx T = some (.lst acc) := fun ⟨acc, _, q, _⟩ => ⟨acc, q⟩
            refine hi1 _ _ _ ⟨ρ2, Fs2, ok2.same s3, ?_⟩
            rw [ei1]
            intro J1 H4 Fi1 s4 io1 ui1 di1 hb1
            have st4 := st3.same s4
            have nF1 : ∀ a ∈ Fi1, a ≠ T := fun a ha z => by
              subst z
              rcases ui1 a ha with ⟨j, hj, G, eG, m⟩ | z
              · exact nFs2 G (List.mem_of_getElem? eG) a m rfl
              · obtain ⟨acc, q⟩ := eT st3
                rw [z] at q
                cases q
            have tr1 : ∀ a ∈ Fi1, (∃ j2 ∈ li ++ lb, ∃ G2, Fs[j2]? = some G2 ∧ a ∈ G2) ∨ H a = none := fun a ha => by
              rcases ui1 a ha with ⟨j, hj, G, eG, m⟩ | z
              · exact tr2 j (hli j hj) G eG a m
              · exact .inr (back xt3 a z)
            refine ⟨fun j k Hd => k = ds1.length - j ∧ j ≤ ds1.length ∧ Ext (fun a => a = T) H4 Hd ∧ ∃ ys1 zs1, LcSt X.K Fs (li ++ lb) H H1 T ys1 Hd ∧ lcL (lcTurn g1 t1 el (wipeE ρ2 vs1)) (ds1.drop j) = .ok zs1 ∧ ys1 ++ (zs1 ++ zs2) = all,
              ⟨ds1.length, by omega, Nat.zero_le _, .refl, ys, o, st4, by simpa using ef, ea⟩, ?_⟩
            rintro j k Hd ⟨rfl, hj, xd, ys1, zs1, std, ezd, ead⟩
            have io3 := io1 (fun a => a = T) Hd xd nF1 j
            by_cases hlt1 : j < ds1.length
            · have ed1 : ds1[j]? = some ds1[j] := List.getElem?_eq_getElem hlt1
              obtain ⟨go1, yl1⟩ := io3.1 _ ed1
              refine .inr ⟨go1, fun H' => Ext (fun a => a = T) H4 H' ∧ ∃ ys1 zs1, LcSt X.K Fs (li ++ lb) H H1 T ys1 H' ∧ lcL (lcTurn g1 t1 el (wipeE ρ2 vs1)) (ds1.drop (j + 1)) = .ok zs1 ∧ ys1 ++ (zs1 ++ zs2) = all,
                fun H' hN => ⟨ds1.length - (j + 1), by omega, rfl, hlt1, hN⟩, fun x1 H5 hy1 => ?_⟩
              obtain ⟨s5, Gx1, rx1, ux1⟩ := yl1 x1 H5 hy1
              obtain ⟨o1, zs3, ef1, ez3, rfl⟩ := lcL_drop ezd ed1
              have ef1 := noR_inv ef1
              obtain ⟨ρ3, eg1, ef1⟩ := bind_inv ef1
              have xd5 : Ext (fun a => a = T) H4 H5 := xd.trans (.of (N := fun _ => False) s5) fun a z => z.elim
              have ok5 : EnvOk X.K H5 σ2 ρ2 Fs2 := ((ok2.same s3).same s4).ext xd5 nFs2
              refine hg1 _ _ _ _ ⟨ds1[j], Gx1, wipeE ρ2 vs1, Fs2, wipe_ok ok5 vs1, rx1, ?_⟩
              rw [eg1]
              intro σ3 Fs3 ok3 l3 k3 u3
              refine ⟨wipe_back l3 (fun q hq => (k3 q hq).1) htv1, ht1 _ _ _ ⟨ρ3, Fs3, ok3, ?_⟩⟩
              obtain ⟨kb1, et1, ef1⟩ := bind_inv ef1
              rw [et1]
              intro H6 s6
              have st6 := (std.same s5).same s6
              have xd6 : Ext (fun a => a = T) H4 H6 := xd5.trans (.of (N := fun _ => False) s6) fun a z => z.elim
              cases kb1 with
              | false =>
                rw [if_neg Bool.false_ne_true] at ef1 ⊢
                injection ef1 with ef1
                subst ef1
                exact ⟨xd6, ys1, zs3, st6, ez3, by simpa using ead⟩
              | true =>
                rw [if_pos rfl] at ef1 ⊢
                obtain ⟨y, ee, ef1⟩ := bind_inv ef1
                injection ef1 with ef1
                subst ef1
                refine he _ _ _ ⟨ρ3, Fs3, ok3.same s6, ?_⟩
                rw [ee]
                intro v H7 Fy s7 ry uy
                have st7 := st6.same s7
                have xt6 : Ext (fun a => a = T) H1 H6 := by
                  obtain ⟨_, _, _, _, _, _, x⟩ := st6
                  exact x
                have uy2 : Sub Fy Fs (li ++ lb) H := fun a ha => by
                  rcases uy a ha with ⟨q, hq, G2, e3, m⟩ | z
                  · by_cases hqt : q ∈ tv1
                    · exact tr1 a (ux1 a (u3 q hqt G2 e3 a m))
                    · rw [(k3 q hqt).2] at e3
                      exact tr2 q ((hle q hq).resolve_left hqt) G2 e3 a m
                  · exact .inr (back xt6 a z)
                have nTy : T ∉ Fy := fun ha => by
                  rcases uy T ha with ⟨q, hq, G2, e3, m⟩ | z
                  · by_cases hqt : q ∈ tv1
                    · exact nF1 T (ux1 T (u3 q hqt G2 e3 T m)) rfl
                    · rw [(k3 q hqt).2] at e3
                      exact nFs2 G2 (List.mem_of_getElem? e3) T m rfl
                  · obtain ⟨acc, q⟩ := eT st6
                    rw [z] at q
                    cases q
                have hl : ys1.length < big := by
                  have := congrArg List.length ead
                  simp only [List.length_append, Option.toList_some, List.length_cons, List.length_nil] at this
                  omega
                obtain ⟨acc, q1, q2, q3⟩ := st7.push ry uy2 nTy hl
                refine ⟨acc, q1, q2, ?_, ys1 ++ [y], zs3, q3, ez3, by simpa using ead⟩
                exact (xd6.trans (.of (N := fun _ => False) s7) fun a z => z.elim).trans (ext_root q1 trivial) fun a z => .inl z
            · have hje : j = ds1.length := by omega
              subst hje
              rw [List.drop_length] at ezd
              injection ezd with ezd
              subst ezd
              exact .inl ⟨io3.2 (Nat.le_refl _), ys1, zs2, std, ez2, by simpa using ead⟩
        · have hie : i = ds.length := by omega
          subst hie
          rw [List.drop_length] at ez
          injection ez with ez
          subst ez
          rw [List.append_nil] at ea
          subst ea
          obtain ⟨acc, G, eT, ra, nG, uG, xt⟩ := st
          refine .inl ⟨io2.2 (Nat.le_refl _), h T Hc G _ (fun b x q => xt.keep b x (s1 b x q) fun z => ?_) ?_ ?_ (s1.free nT) nG eT trivial⟩
          · rw [z] at q
            have := s1 T x q
            rw [nT] at this
            cases this
          · simp only [Rp]
            exact ⟨T, acc, G, rfl, rfl, eT, ra, hbig⟩
          · exact fun a ha => by
              rcases List.mem_cons.mp ha with z | z
              · rw [z]; exact .inr (s1.free nT)
              · exact uG a z
      · rw [if_neg hbig] at h
        exact h.elim

variable {e a b c tg iter elt tg1 iter1 : Expr} {es rest ifs ifs1 : List Expr} {fi fi1 : En → R (List D)} {la lb li le li1 vs1 tv tv1 : List Nat} {pos p2 p : Pos} {lv : Nat} {scope : Scope} {own : List (Str × Nat)} {g g1 : D → En → R En} {t t1 : En → R Bool} {el : En → R D}
theorem sans_or2 {l l1 tv tv1 : List Nat} : (∀ j ∈ l1, j ∈ tv ∨ j ∈ sans (l1 ++ sans l tv1) tv) ∧ ∀ j ∈ l, j ∈ tv1 ∨ j ∈ tv ∨ j ∈ sans (l1 ++ sans l tv1) tv := by
  refine ⟨fun j hj => sans_or j (List.mem_append_left _ hj), fun j hj => ?_⟩
  rcases sans_or (tv := tv1) j hj with z | z
  · exact .inl z
  · exact .inr (sans_or j (List.mem_append_right _ z))
theorem sn_lc2 (G : Good lv X W) (hi : SI X W tg iter fi li) (ok : BlkOk X.N X.env.scope scope own) (hv : ∀ i ∈ vs1, i ∈ own.map (·.2)) (hg : ∀ (s : Shared) (H : Hp) (C : Addr) (cl : List (Str × Addr)) (fp : List Addr), SG (X.blk s H scope (compEnvC scope cl C X.env) fp) tg tv g)
    (ht : ∀ (s : Shared) (H : Hp) (C : Addr) (cl : List (Str × Addr)) (fp : List Addr), STs (X.blk s H scope (compEnvC scope cl C X.env) fp) W0 ifs t)
    (hi1 : ∀ (s : Shared) (H : Hp) (C : Addr) (cl : List (Str × Addr)) (fp : List Addr), SI (X.blk s H scope (compEnvC scope cl C X.env) fp) W0 tg1 iter1 fi1 li1)
    (hg1 : ∀ (s : Shared) (H : Hp) (C : Addr) (cl : List (Str × Addr)) (fp : List Addr), SG (X.blk s H scope (compEnvC scope cl C X.env) fp) tg1 tv1 g1)
    (ht1 : ∀ (s : Shared) (H : Hp) (C : Addr) (cl : List (Str × Addr)) (fp : List Addr), STs (X.blk s H scope (compEnvC scope cl C X.env) fp) W0 ifs1 t1)
    (he : ∀ (s : Shared) (H : Hp) (C : Addr) (cl : List (Str × Addr)) (fp : List Addr), SE (X.blk s H scope (compEnvC scope cl C X.env) fp) W0 elt el le)
    (htv : ∀ j ∈ tv, j ∈ own.map (·.2)) (htv1 : ∀ j ∈ tv1, j ∈ vs1) (hs : ∀ x, foldedSetIterable iter X.env x = pure x := by intro _; rfl) (hs1 : ∀ env x, foldedSetIterable iter1 env x = pure x := by intro _ _; rfl) :
    SN X W (.ListComp elt [⟨tg, iter, ifs, 0⟩, ⟨tg1, iter1, ifs1, 0⟩] scope pos) (cLC2 (own.map (·.2)) fi g t fi1 vs1 g1 t1 el) (li ++ sans (li1 ++ sans le tv1) tv) :=
  ⟨PE.imp (pe_lc2 (vs1 := vs1) (g := tG X tv g) (tt := tT X W0 t) (wi1 := tI X W0 fi1 li1) (g1 := tG X tv1 g1) (tt1 := tT X W0 t1) (te := tE X W0 el le) G.calm G.nd hi.pi ok hv (fun s H C cl fp => (hg s H C cl fp).pg) (fun s H C cl fp => (ht s H C cl fp).pt)
      (fun s H C cl fp => (hi1 s H C cl fp).pi) (fun s H C cl fp => (hg1 s H C cl fp).pg) (fun s H C cl fp => (ht1 s H C cl fp).pt) (fun s H C cl fp => (he s H C cl fp).pe) hs hs1)
    fun σ H Q h => lc2_use htv htv1 sans_or2.1 sans_or2.2 (fun _ _ _ _ h => h) (fun _ _ _ h => h) (fun _ _ _ h => h) (fun _ _ _ _ h => h) (fun _ _ _ h => h) (fun _ _ _ h => h) h⟩
/-- y = [..for..for..] -/
theorem ss_newLc2 {i : Nat} {y : Str} {py spos : Pos} (G : Good lv X W) (hy : X.N[i]? = some y) (hyl : X.env.scope.names.lookup y = some .local)
    (hsw : swapsWith (.ListComp elt [⟨tg, iter, ifs, 0⟩, ⟨tg1, iter1, ifs1, 0⟩] scope pos) (some (.Name y py)) spos.line X.env = pure true) (hi : SI X W tg iter fi li) (ok : BlkOk X.N X.env.scope scope own) (hv : ∀ i ∈ vs1, i ∈ own.map (·.2))
    (hg : ∀ (s : Shared) (H : Hp) (C : Addr) (cl : List (Str × Addr)) (fp : List Addr), SG (X.blk s H scope (compEnvC scope cl C X.env) fp) tg tv g)
    (ht : ∀ (s : Shared) (H : Hp) (C : Addr) (cl : List (Str × Addr)) (fp : List Addr), STs (X.blk s H scope (compEnvC scope cl C X.env) fp) W0 ifs t)
    (hi1 : ∀ (s : Shared) (H : Hp) (C : Addr) (cl : List (Str × Addr)) (fp : List Addr), SI (X.blk s H scope (compEnvC scope cl C X.env) fp) W0 tg1 iter1 fi1 li1)
    (hg1 : ∀ (s : Shared) (H : Hp) (C : Addr) (cl : List (Str × Addr)) (fp : List Addr), SG (X.blk s H scope (compEnvC scope cl C X.env) fp) tg1 tv1 g1)
    (ht1 : ∀ (s : Shared) (H : Hp) (C : Addr) (cl : List (Str × Addr)) (fp : List Addr), STs (X.blk s H scope (compEnvC scope cl C X.env) fp) W0 ifs1 t1)
    (he : ∀ (s : Shared) (H : Hp) (C : Addr) (cl : List (Str × Addr)) (fp : List Addr), SE (X.blk s H scope (compEnvC scope cl C X.env) fp) W0 elt el le)
    (htv : ∀ j ∈ tv, j ∈ own.map (·.2)) (htv1 : ∀ j ∈ tv1, j ∈ vs1) (hs : ∀ x, foldedSetIterable iter X.env x = pure x := by intro _; rfl) (hs1 : ∀ env x, foldedSetIterable iter1 env x = pure x := by intro _ _; rfl) :
    SS X W (.Assign [.Name y py] (.ListComp elt [⟨tg, iter, ifs, 0⟩, ⟨tg1, iter1, ifs1, 0⟩] scope pos) spos) (sfNew i (li ++ sans (li1 ++ sans le tv1) tv) (cLC2 (own.map (·.2)) fi g t fi1 vs1 g1 t1 el)) := by
  refine ⟨PS.imp (ps_setLc2 (vs1 := vs1) (g := tG X tv g) (tt := tT X W0 t) (wi1 := tI X W0 fi1 li1) (g1 := tG X tv1 g1) (tt1 := tT X W0 t1) (te := tE X W0 el le) G.calm G.nd hy hyl hsw hi.pi ok hv (fun s H C cl fp => (hg s H C cl fp).pg) (fun s H C cl fp => (ht s H C cl fp).pt)
      (fun s H C cl fp => (hi1 s H C cl fp).pi) (fun s H C cl fp => (hg1 s H C cl fp).pg) (fun s H C cl fp => (ht1 s H C cl fp).pt) (fun s H C cl fp => (he s H C cl fp).pe) hs hs1) fun D σ H q => ?_⟩
  obtain ⟨ρ, own, Fs, s, q⟩ := q
  refine lc2_use (Q := fun x H1 => gName i x σ H1 D.nx) htv htv1 sans_or2.1 sans_or2.2 (fun _ _ _ _ h => h) (fun _ _ _ h => h) (fun _ _ _ h => h) (fun _ _ _ _ h => h) (fun _ _ _ h => h) (fun _ _ _ h => h) (tN_S s q fun d p H' F xs x r u n np e m q => ?_)
  split at q
  · rename_i hl
    exact q _ H' _ (.putN s x r u n np e m hl)
  · exact q.elim
end
end Ev

/-! Ev, part L: repr; min and max of data. -/
namespace Ev
open PySem PySem.Spec L2 PySem.W

/-! ### repr -/
mutual
def small : D → Bool
  | .non => true
  | .bl _ => true
  | .int i => decide (i.natAbs < 1000000000000)
  | .str _ => true
  | .lst xs => smallAll xs
  | .tup xs => smallAll xs
  | _ => false
def smallAll : List D → Bool
  | [] => true
  | x :: xs => small x && smallAll xs
end
mutual
def wgt : D → Nat
  | .int _ => 41
  | .str s => s.length
  | .lst xs => wgtAll xs
  | .tup xs => wgtAll xs
  | _ => 0
def wgtAll : List D → Nat
  | [] => 0
  | x :: xs => wgt x + 1 + wgtAll xs
end
def gRepr : List D → R D
  | [d] => if flat d = true ∧ small d = true ∧ dep d ≤ 60 ∧ wgt d ≤ 1048576 then .ok (.rep d) else .st
  | _ => .st
theorem log_lt {n k : Nat} (h : n < 2 ^ k) (hk : 0 < k) : n.log2 < k := by
  by_cases h0 : n = 0
  · subst h0
    simpa using hk
  · exact (Nat.log2_lt h0).mpr h
mutual
theorem small_show : ∀ x : D, small x = true → (toPy x).showable = true ∧ (toPy x).intsShort 13 = true
  | .lst xs, h => by
    simp only [small] at h
    simp only [toPy, PyData.showable, PyData.intsShort]
    exact smallAll_show xs h
  | .tup xs, h => by
    simp only [small] at h
    simp only [toPy, PyData.showable, PyData.intsShort]
    exact smallAll_show xs h
  | .int i, h => by
    simp only [small, decide_eq_true_eq] at h
    simp only [toPy, PyData.showable, PyData.intsShort, decide_eq_true_eq]
    refine ⟨Nat.lt_of_lt_of_le (log_lt (k := 40) (Nat.lt_of_lt_of_le h (by decide)) (by decide)) (by decide), PyData.shown_int_le (Nat.lt_of_lt_of_le h (by decide))⟩
  | .non, _ => by simp only [toPy, PyData.showable, PyData.intsShort, and_self]
  | .bl _, _ => by simp only [toPy, PyData.showable, PyData.intsShort, and_self]
  | .str _, _ => by simp only [toPy, PyData.showable, PyData.intsShort, and_self]
  | .dct _, h => by simp only [small, Bool.false_eq_true] at h
  | .exc _ _, h => by simp only [small, Bool.false_eq_true] at h
  | .scr _, h => by simp only [small, Bool.false_eq_true] at h
  | .rep _, h => by simp only [small, Bool.false_eq_true] at h
theorem smallAll_show : ∀ xs : List D, smallAll xs = true → PyData.showableAll (toPyAll xs) = true ∧ PyData.intsShortAll 13 (toPyAll xs) = true
  | [], _ => by simp only [toPyAll, PyData.showableAll, PyData.intsShortAll, and_self]
  | x :: xs, h => by
    simp only [smallAll, Bool.and_eq_true] at h
    have h1 := small_show x h.1
    have h2 := smallAll_show xs h.2
    simp only [toPyAll, PyData.showableAll, PyData.intsShortAll, h1.1, h1.2, h2.1, h2.2, Bool.and_self, and_self]
end
mutual
theorem wgt_py : ∀ x : D, small x = true → (toPy x).weight ≤ wgt x
  | .lst xs, h => by
    simp only [small] at h
    simp only [toPy, PyData.weight, wgt]
    exact wgtAll_py xs h
  | .tup xs, h => by
    simp only [small] at h
    simp only [toPy, PyData.weight, wgt]
    exact wgtAll_py xs h
  | .int i, h => by
    simp only [small, decide_eq_true_eq] at h
    simp only [toPy, PyData.weight, wgt]
    split
    · exact Nat.zero_le _
    · have := log_lt (k := 40) (Nat.lt_of_lt_of_le h (by decide)) (by decide)
      omega
  | .non, _ => by simp only [toPy, PyData.weight, wgt, Nat.le_refl]
  | .bl _, _ => by simp only [toPy, PyData.weight, wgt, Nat.le_refl]
  | .str _, _ => by simp [toPy, PyData.weight, wgt]
  | .dct _, h => by simp only [small, Bool.false_eq_true] at h
  | .exc _ _, h => by simp only [small, Bool.false_eq_true] at h
  | .scr _, h => by simp only [small, Bool.false_eq_true] at h
  | .rep _, h => by simp only [small, Bool.false_eq_true] at h
theorem wgtAll_py : ∀ xs : List D, smallAll xs = true → PyData.weightAll (toPyAll xs) ≤ wgtAll xs
  | [], _ => by simp only [toPyAll, PyData.weightAll, wgtAll, Nat.le_refl]
  | x :: xs, h => by
    simp only [smallAll, Bool.and_eq_true] at h
    have h1 := wgt_py x h.1
    have h2 := wgtAll_py xs h.2
    simp only [toPyAll, PyData.weightAll, wgtAll]
    omega
end
def rRepr (K : PySem.W.Frag) : List V → Hp → VK → Prop := fun xs H Q => ∃ v d, xs = [v] ∧ Dp K H v d ∧ d.showable = true ∧ d.hasDict = false ∧ d.depth ≤ 60 ∧ d.shown.length ≤ sizeLine ∧ Q (.str d.shown) H
section
variable {X : Cx} {W : XK}
theorem cr_repr (hg : X.A.guards = some []) (hu : X.A.units + 64 < cLine) : CallR X (.builtin "repr") (rRepr X.K) := by
  intro pins s σ H xs us Q I rs h
  obtain ⟨v, d, rfl, hd, hs, hn, hz, hl, q⟩ := h
  obtain ⟨u, rfl, r1⟩ := rs.one
  obtain ⟨as, r⟩ := Dp.reads I d v u hd r1
  have fin : ∀ {x : Str} (t : Tok) (k : Nat), x = d.shown → EP X pins σ Q (.str x t) { s with toks := k } := fun t k e => ⟨.str d.shown, H, I.tok k, ⟨t, by rw [e]⟩, q⟩
  cases u with
  | ref a =>
    exact repr_of_reads' (h₀ := s.heap) r hs (PyData.noDict_hsm hn) hg (by omega) (fun _ _ e => e) (fun h' u tk hk => ⟨.str d.shown, H, I.kept hk, ⟨u, rfl⟩, q⟩) hl
  | int i t =>
    cases r
    simp only [PyData.showable, decide_eq_true_eq] at hs
    exact P.repr_of_int hs (fin _ _ rfl)
  | str x t =>
    cases r
    exact P.repr_of_str (fin _ _ rfl) hl
  | bool b =>
    cases r
    exact P.repr_of_bool (fin _ _ (by cases b <;> rfl))
  | none =>
    cases r
    exact P.repr_of_none (fin _ _ rfl)
  | _ => cases r
theorem snd_repr : SndC X W (rRepr X.K) gRepr := fun H0 H xs ds F Q Fs lk s r u h => by
  unfold gRepr at h
  split at h
  · split at h
    · rename_i d hc
      obtain ⟨c1, c2, c3, c4⟩ := hc
      obtain ⟨v, rfl, t⟩ := r.one_inv
      have lay := lay_py d v F c1 t
      have sh := small_show d c2
      have wg := wgt_py d c2
      have e20 : (2 : Nat) ^ 20 = 1048576 := by decide
      have fit := PyData.shown_fits (B := 13) (by decide) (by decide) (PyData.leavesShort_of_canLay0 13 _ lay sh.2) (by omega)
      exact ⟨v, toPy d, rfl, dp_py d v F c1 t, sh.1, PyData.hasDict_of_canLay _ lay, by rw [dep_py d c1]; exact c3, fit, h _ H [] s (by simp [Rp]) .nil⟩
    · exact h.elim
  · exact h.elim
end

/-! ### min and max of alike data -/
mutual
theorem toPy_inj : ∀ x y : D, flat x = true → flat y = true → toPy x = toPy y → x = y
  | .lst xs, y, h1, h2, e => by
    cases y <;> simp only [toPy, flat, Bool.false_eq_true, reduceCtorEq, PyData.list.injEq] at h1 h2 e
    rw [toPyAll_inj _ _ h1 h2 e]
  | .tup xs, y, h1, h2, e => by
    cases y <;> simp only [toPy, flat, Bool.false_eq_true, reduceCtorEq, PyData.tuple.injEq] at h1 h2 e
    rw [toPyAll_inj _ _ h1 h2 e]
  | .non, y, h1, h2, e => by
    cases y <;> simp only [toPy, flat, Bool.false_eq_true, reduceCtorEq] at h1 h2 e
    rfl
  | .bl _, y, h1, h2, e => by
    cases y <;> simp only [toPy, flat, Bool.false_eq_true, reduceCtorEq, PyData.bool.injEq] at h1 h2 e
    rw [e]
  | .int _, y, h1, h2, e => by
    cases y <;> simp only [toPy, flat, Bool.false_eq_true, reduceCtorEq, PyData.int.injEq] at h1 h2 e
    rw [e]
  | .str _, y, h1, h2, e => by
    cases y <;> simp only [toPy, flat, Bool.false_eq_true, reduceCtorEq, PyData.str.injEq] at h1 h2 e
    rw [str_inj.mp e]
  | .dct _, y, h1, _, _ => by simp only [flat, Bool.false_eq_true] at h1
  | .exc _ _, y, h1, _, _ => by simp only [flat, Bool.false_eq_true] at h1
  | .scr _, y, h1, _, _ => by simp only [flat, Bool.false_eq_true] at h1
  | .rep _, y, h1, _, _ => by simp only [flat, Bool.false_eq_true] at h1
theorem toPyAll_inj : ∀ xs ys : List D, flatAll xs = true → flatAll ys = true → toPyAll xs = toPyAll ys → xs = ys
  | [], ys, _, _, e => by
    cases ys with
    | nil => rfl
    | cons y ys => simp only [toPyAll, reduceCtorEq] at e
  | x :: xs, ys, h1, h2, e => by
    cases ys with
    | nil => simp only [toPyAll, reduceCtorEq] at e
    | cons y ys =>
      simp only [flatAll, Bool.and_eq_true] at h1 h2
      simp only [toPyAll, List.cons.injEq] at e
      rw [toPy_inj x y h1.1 h2.1 e.1, toPyAll_inj xs ys h1.2 h2.2 e.2]
end
theorem toPyAll_map : ∀ xs : List D, toPyAll xs = xs.map toPy
  | [] => rfl
  | x :: xs => by simp only [toPyAll, List.map_cons, toPyAll_map xs]
theorem flatAll_mem : ∀ {xs : List D}, flatAll xs = true → ∀ x ∈ xs, flat x = true
  | [], _, x, h => by cases h
  | y :: ys, h, x, m => by
    simp only [flatAll, Bool.and_eq_true] at h
    rcases List.mem_cons.mp m with e | e
    · rw [e]; exact h.1
    · exact flatAll_mem h.2 x e
theorem flatAll_of : ∀ {xs : List D}, (∀ x ∈ xs, flat x = true) → flatAll xs = true
  | [], _ => rfl
  | y :: ys, h => by
    simp only [flatAll, h y (by simp), flatAll_of fun x m => h x (List.mem_cons_of_mem _ m), Bool.and_self]
def ltD (x y : D) : Bool := dataLt (toPy x) (toPy y)
def minE (x : D) (xs : List D) : D := xs.foldl (fun a y => if ltD y a then y else a) x
def maxE (x : D) (xs : List D) : D := xs.foldl (fun a y => if ltD a y then y else a) x
theorem minE_py : ∀ (xs : List D) (x : D), minD (toPy x) (toPyAll xs) = toPy (minE x xs)
  | [], x => rfl
  | y :: ys, x => by
    have ih := minE_py ys (if ltD y x then y else x)
    unfold minE minD at ih ⊢
    simp only [toPyAll, List.foldl_cons]
    rw [← ih]
    congr 1
    unfold ltD
    split <;> rfl
theorem maxE_py : ∀ (xs : List D) (x : D), maxD (toPy x) (toPyAll xs) = toPy (maxE x xs)
  | [], x => rfl
  | y :: ys, x => by
    have ih := maxE_py ys (if ltD x y then y else x)
    unfold maxE maxD at ih ⊢
    simp only [toPyAll, List.foldl_cons]
    rw [← ih]
    congr 1
    unfold ltD
    split <;> rfl
theorem minE_mem : ∀ (xs : List D) (x : D), minE x xs ∈ x :: xs
  | [], x => List.mem_cons_self
  | y :: ys, x => by
    have ih := minE_mem ys (if ltD y x then y else x)
    unfold minE at ih ⊢
    rw [List.foldl_cons]
    rcases List.mem_cons.mp ih with e | e
    · rw [e]
      split <;> simp
    · exact List.mem_cons_of_mem _ (List.mem_cons_of_mem _ e)
theorem maxE_mem : ∀ (xs : List D) (x : D), maxE x xs ∈ x :: xs
  | [], x => List.mem_cons_self
  | y :: ys, x => by
    have ih := maxE_mem ys (if ltD x y then y else x)
    unfold maxE at ih ⊢
    rw [List.foldl_cons]
    rcases List.mem_cons.mp ih with e | e
    · rw [e]
      split <;> simp
    · exact List.mem_cons_of_mem _ (List.mem_cons_of_mem _ e)
def alikeC (xs : List D) : Prop := flatAll xs = true ∧ depAll xs ≤ 60 ∧ (∀ x ∈ xs, ∀ y ∈ xs, alike (toPy x) (toPy y) = true) ∧ ∀ x ∈ xs, isNon x = false
theorem alikeC.all {xs : List D} (h : alikeC xs) : AlikeAll (toPyAll xs) := by
  rw [toPyAll_map]
  refine ⟨fun a ha b hb => ?_, fun a ha => ?_⟩
  · obtain ⟨x, hx, rfl⟩ := List.mem_map.mp ha
    obtain ⟨y, hy, rfl⟩ := List.mem_map.mp hb
    exact h.2.2.1 x hx y hy
  · obtain ⟨x, hx, rfl⟩ := List.mem_map.mp ha
    have h1 := h.2.2.2 x hx
    have h2 := flatAll_mem h.1 x hx
    cases x <;> simp only [flat, isNon, Bool.false_eq_true, reduceCtorEq] at h1 h2 <;> simp [toPy]
def rMM (K : PySem.W.Frag) (m : PyData → List PyData → PyData) : List V → Hp → VK → Prop := fun xs H Q => ∃ p vs d ds, xs = [.ref p] ∧ (SqL K H p vs ∨ SqT K H p vs) ∧ DpAll K H vs (d :: ds) ∧ AlikeAll (d :: ds) ∧ PyData.depthAll (d :: ds) ≤ 60 ∧
  ∀ (i : Nat) v, vs[i]? = some v → (d :: ds)[i]? = some (m d ds) → Q v H
section
variable {X : Cx} {W : XK}
theorem mm_fin {pins : List (Addr × Obj)} {s : Shared} {σ : L2.St} {H : Hp} {Q : VK} {vs : List V} {us : List Value} {ds : List PyData} {as : List Addr} {m : PyData} (I : Inv X pins σ H s) (rv : Vals vs us) (ra : ReadsAll s.heap us ds as)
    (q : ∀ (i : Nat) v, vs[i]? = some v → ds[i]? = some m → Q v H) : ∀ (i : Nat) (v : Value) h' tk bs, us.toArray[i]? = some v → Reads h' v m bs → (∀ b o, s.heap.get? b = some o → h'.get? b = some o) → EP X pins σ Q v { s with heap := h', toks := tk } := fun i v h' tk bs e r hk => by
  have e : us[i]? = some v := by simpa using e
  obtain ⟨cs, r2, hlt, _, _⟩ := readsAll_at ra i v e
  have hd := (PyProof.Rows.reads_det (h := s.heap) (h' := h') (fun b o e _ => hk b o e) r2 r).1
  have hi : i < vs.length := by
    have h1 := rv.length
    have h2 := (List.getElem?_eq_some_iff.mp e).1
    omega
  obtain ⟨u, e1, r3⟩ := rv.get (List.getElem?_eq_getElem hi)
  rw [e] at e1
  injection e1 with e1
  subst e1
  refine ⟨vs[i], H, I.kept hk, r3, q i _ (List.getElem?_eq_getElem hi) ?_⟩
  rw [hd, List.getD_eq_getElem?_getD, List.getElem?_eq_getElem hlt]
  rfl
theorem cr_minD (hc : X.calm = true) (hu : X.A.units + 64 < cLine) : CallR X (.builtin "min") (rMM X.K minD) := by
  intro pins s σ H xs us Q I rs h
  obtain ⟨p, vs, d, ds, rfl, hp, hd, ha, hz, q⟩ := h
  have e := rs.ref1
  subst e
  have hh : X.A.handled = none := I.ok.hd hc
  rcases hp with hp | hp
  · obtain ⟨its, rv, ⟨o, n, ho, hcl, _, hdt⟩, _⟩ := I.list hp
    obtain ⟨as, ra⟩ := Dp.readsAll I _ _ _ hd rv
    exact min_list_data hh ⟨o, ho, hcl, n, hdt⟩ (by simpa using ra) ha (by omega) (mm_fin I rv ra q)
  · obtain ⟨its, rv, ht, _⟩ := I.tuple hp
    obtain ⟨as, ra⟩ := Dp.readsAll I _ _ _ hd rv
    exact min_tuple_data hh ht (by simpa using ra) ha (by omega) (mm_fin I rv ra q)
theorem cr_maxD (hc : X.calm = true) (hu : X.A.units + 64 < cLine) : CallR X (.builtin "max") (rMM X.K maxD) := by
  intro pins s σ H xs us Q I rs h
  obtain ⟨p, vs, d, ds, rfl, hp, hd, ha, hz, q⟩ := h
  have e := rs.ref1
  subst e
  have hh : X.A.handled = none := I.ok.hd hc
  rcases hp with hp | hp
  · obtain ⟨its, rv, ⟨o, n, ho, hcl, _, hdt⟩, _⟩ := I.list hp
    obtain ⟨as, ra⟩ := Dp.readsAll I _ _ _ hd rv
    exact max_list_data hh ⟨o, ho, hcl, n, hdt⟩ (by simpa using ra) ha (by omega) (mm_fin I rv ra q)
  · obtain ⟨its, rv, ht, _⟩ := I.tuple hp
    obtain ⟨as, ra⟩ := Dp.readsAll I _ _ _ hd rv
    exact max_tuple_data hh ht (by simpa using ra) ha (by omega) (mm_fin I rv ra q)
open Classical in
noncomputable def gMM (two : Int → Int → Int) (m : D → List D → D) : List D → R D
  | [.int i, .int j] => .ok (.int (two i j))
  | [.lst (x :: xs)] => if alikeC (x :: xs) then .ok (m x xs) else .st
  | [.tup (x :: xs)] => if alikeC (x :: xs) then .ok (m x xs) else .st
  | _ => .st
noncomputable abbrev gMin := gMM (fun i j => if j < i then j else i) minE
noncomputable abbrev gMax := gMM (fun i j => if j > i then j else i) maxE
def rMMA (K : PySem.W.Frag) (two : Int → Int → Int) (m : PyData → List PyData → PyData) : List V → Hp → VK → Prop := fun xs H Q => (∃ i j, xs = [.int i, .int j] ∧ Q (.int (two i j)) H) ∨ rMM K m xs H Q
theorem cr_min (hc : X.calm = true) (hu : X.A.units + 64 < cLine) : CallR X (.builtin "min") (rMMA X.K (fun i j => if j < i then j else i) minD) := (call_min2 hc).or (cr_minD hc hu)
theorem cr_max (hc : X.calm = true) (hu : X.A.units + 64 < cLine) : CallR X (.builtin "max") (rMMA X.K (fun i j => if j > i then j else i) maxD) := (call_max2 hc).or (cr_maxD hc hu)
theorem snd_mm {two : Int → Int → Int} {m : D → List D → D} {m' : PyData → List PyData → PyData} (hm : ∀ xs x, m' (toPy x) (toPyAll xs) = toPy (m x xs)) (hmem : ∀ xs x, m x xs ∈ x :: xs) : SndC X W (rMMA X.K two m') (gMM two m) := fun H0 H xs ds F Q Fs lk s r u h => by
  have fin : ∀ (a : Addr) (x : D) (xs : List D) (vs : List V) (G : List Addr), alikeC (x :: xs) → (SqL X.K H a vs ∨ SqT X.K H a vs) → RpAll X.K H (x :: xs) vs G → Sub G Fs lk H0 → EndE X.K X.mg W Fs lk H0 Q (.ok (m x xs)) → rMM X.K m' [.ref a] H Q := fun a x xs vs G al q r u h => by
    have dl := depAll_py (x :: xs) al.1
    have al' := al.all
    simp only [toPyAll] at al' dl
    refine ⟨a, vs, toPy x, toPyAll xs, rfl, q, dpAll_py (x :: xs) vs G al.1 r, al', by rw [dl]; exact al.2.1, fun i v e1 e2 => ?_⟩
    rw [hm, ← toPyAll, toPyAll_map, List.getElem?_map] at e2
    cases e3 : (x :: xs)[i]? with
    | none => rw [e3] at e2; cases e2
    | some y =>
      rw [e3] at e2
      injection e2 with e2
      have := toPy_inj y (m x xs) (flatAll_mem al.1 y (List.mem_of_getElem? e3)) (flatAll_mem al.1 _ (hmem xs x)) e2
      subst this
      obtain ⟨v2, G2, e4, r2, s2⟩ := r.get e3
      rw [e1] at e4
      injection e4 with e4
      subst e4
      exact h v H G2 s r2 (u.of s2)
  unfold gMM at h
  split at h
  · obtain ⟨v, v2, G1, G2, rfl, rfl, r1, r2⟩ := r.two_inv
    simp only [Rp] at r1 r2
    obtain ⟨rfl, _⟩ := r1
    obtain ⟨rfl, _⟩ := r2
    exact .inl ⟨_, _, rfl, h.int s⟩
  · split at h
    · rename_i hal
      obtain ⟨v, rfl, t⟩ := r.one_inv
      rw [Rp] at t
      obtain ⟨a, ys, G, rfl, rfl, q, r, l⟩ := t
      exact .inr (fin a _ _ ys G hal (.inl (.inl (.inl q))) r (u.of fun z hz => List.mem_cons_of_mem _ hz) h)
    · exact h.elim
  · split at h
    · rename_i hal
      obtain ⟨v, rfl, t⟩ := r.one_inv
      rw [Rp] at t
      obtain ⟨a, ys, rfl, q, r, l⟩ := t
      exact .inr (fin a _ _ ys F hal (.inr q) r u h)
    · exact h.elim
  · exact h.elim
theorem snd_min : SndC X W (rMMA X.K (fun i j => if j < i then j else i) minD) gMin := snd_mm minE_py minE_mem
theorem snd_max : SndC X W (rMMA X.K (fun i j => if j > i then j else i) maxD) gMax := snd_mm maxE_py maxE_mem
end
end Ev

/-! Ev, part M: the law's own def, run at the top alone (so that repr may be called); the end of a claim. -/
namespace Ev
open PySem PySem.Spec L2 PyProof.Rows

/-- the def f, called at the top with a script, says True -/
def LawAt (P : Program) (w : World) (K : PySem.W.Frag) (mg : Str → Option Value) (base : Heap) (f : Addr) (fd : FuncData) (x : Str) (ns : List Int) : Prop :=
  ∀ (s : Shared) (H : Hp) (a : Addr), Env0 P w K mg base callerA [] s H → BindsTo s fd ⟨[.ref a], []⟩ [(x, .ref a)] → ScrAt K H a ns →
    codeAny (model P w) callerA (.call (.ref f) ⟨[.ref a], []⟩) (CR (L2.CX P w) [] P w H s (fun v _ => v = .bl true) fun _ _ _ => False) s

section
variable {P : Program} {w : World} {K : PySem.W.Frag} {mg : Str → Option Value} {base : Heap}
theorem law_at {x p : Str} {st : Stmt} {f : Addr} {fd : FuncData} {N : List Str} {lv : Nat} {body : SF} {ns : List Int} (F : Fun K x x st f fd) (S : FnScope N [p] (defScope st)) (hr : Room (lv + 1) callerA) (hN : 1 ≤ N.length)
    (hbody : ∀ (cdv : Value) (A : Around) (outer : List Env) (s : Shared) (H : Hp) (E : XK), A.guards = some [] → Good lv (cxOf (L2.CX P w) P w K mg base N x (defScope st) f cdv A outer s H E) E → SSs (cxOf (L2.CX P w) P w K mg base N x (defScope st) f cdv A outer s H E) E (defBody st) body)
    (hlaw : runB 1 N.length body [.scr ns] = .ok (.bl true)) : LawAt P w K mg base f fd p ns := by
  intro s H a e0 hb hs
  obtain ⟨oc, od, kV, doc, pm, an, cdv, ct, osl, rfl, lk, hcd⟩ := F.ex
  have kin : K.In s.heap := e0.mod.kin.keeps fun b o e => (e0.bs b o e).1
  have nolim : s.heap.NoLimit := e0.mod.nolimit.keeps fun b o e => (e0.bs b o e).1
  refine codeAny_call_function hr.depth (kin _ _ lk) rfl S.co S.gen rfl (PySem.W.codeRec_of kin hcd) (hb _ _ _ _ ?_)
  refine wpAny_newFunctionEnv_cells S.kind (fun y hy => ?_) fun env he s1 z => ?_
  · rw [List.mem_singleton] at hy
    subst hy
    rcases S.par p List.mem_cons_self with q | q
    · exact .inl q
    · exact .inr ⟨q, PySem.W.cellsFrom_some _ _ _ (.inl q)⟩
  · subst he
    refine ⟨nolim.keeps z.toInCall.keep, codeAny_func ?_⟩
    have gd : Good lv (cxOf (L2.CX P w) P w K mg base N x (defScope st) f cdv callerA [] s H fun _ _ _ => False) fun _ _ _ => False := ⟨rfl, S.nd, hr.deeper _, passes_of rfl, passes_call (takes_of rfl rfl rfl rfl) fun _ _ _ _ h => h⟩
    have rv : Vals [V.ref a] [Value.ref a] := .cons rfl .nil
    have I := inv_start (CX := L2.CX P w) (E := fun _ _ _ => False) S hr.hd e0 (vs := [V.ref a]) rfl rv z
    have rscr : RpAll K H [.scr ns] [V.ref a] [] := by
      have r1 : Rp K H (.scr ns) (V.ref a) [] := by
        simp only [Rp]
        exact ⟨a, rfl, trivial, hs⟩
      exact .one r1
    obtain ⟨Fs, stt, cv⟩ := start_ok (N := N) rscr hN
    have done : tS (cxOf (L2.CX P w) P w K mg base N x (defScope st) f cdv callerA [] s H fun _ _ _ => False) (fun _ _ _ => False) body { nx := fun _ _ => False, rt := fun v _ => v = .bl true } (start N [V.ref a]) H := by
      refine ⟨_, [], Fs, stt, ?_⟩
      unfold runB at hlaw
      rw [if_pos (show [D.scr ns].length = 1 from rfl)] at hlaw
      show EndS K mg _ Fs [] H _ (body ([D.scr ns].map some ++ List.replicate (N.length - 1) none) [])
      cases eb : body ([D.scr ns].map some ++ List.replicate (N.length - 1) none) [] with
      | st => rw [eb] at hlaw; cases hlaw
      | rs c n => rw [eb] at hlaw; cases hlaw
      | ok o =>
        rw [eb] at hlaw
        cases o with
        | nx ρ' own' => cases hlaw
        | bk ρ' own' => cases hlaw
        | ct ρ' own' => cases hlaw
        | rt d =>
          cases hlaw
          exact fun v H' F _ r _ => by
            simp only [Rp] at r
            exact r.1
    refine wpAny_mono ((hbody cdv callerA [] s H _ rfl gd).ps.run [] s1 _ H _ I done) (fun fl s' h => ?_) fun e s' h => h
    cases fl with
    | ret u =>
      obtain ⟨v, σ', H', J, rv', q⟩ := h
      exact ⟨v, H', J.os, J.bare, J.base, J.hok, rv', q⟩
    | next =>
      obtain ⟨_, _, _, q⟩ := h
      exact False.elim q
    | brk =>
      obtain ⟨_, _, _, q⟩ := h
      exact False.elim q
    | cont =>
      obtain ⟨_, _, _, q⟩ := h
      exact False.elim q

/-- nothing is tracked but the script a (it is none of the module's own objects), or nothing at all -/
theorem law_top {mb : Str → Option Value} {f a : Addr} {fd : FuncData} {x : Str} {s₁ : Shared} {vs : List Value} {ns : List Int} (kin : K.In s₁.heap) (hns : s₁.heap.Ns mainGlobals mg) (hb : s₁.heap.Ns builtinsNs mb) (hbb : ∀ y : Str, y ≠ "__name__" → mb y = bootBuiltins y)
    (hlim : s₁.heap.NoLimit) (hg : s₁.gens = #[]) (ha : s₁.heap.get? a = some { cls := .type "list", data := .seq vs.toArray }) (hi : IntsAre vs ns) (hl : ns.length ≤ sizeLine)
    (F : ∀ base : Heap, K.In base → base.Ns mainGlobals mg → LawAt P w K mg base f fd x ns) (hbind : ∀ (s : Shared) (u : Value), BindsTo s fd ⟨[u], []⟩ [(x, u)]) :
    codeAny (model P w) callerA (.call (.ref f) ⟨[.ref a], []⟩) (fun r s' => r = .ok (.ret (.bool true)) ∧ OldK s₁.heap s'.heap ∧ s'.os = s₁.os ∧ AllBare s'.gens) s₁ := by
  have rv := vals_ints hi
  have lv := hi.length
  suffices core : ∀ H : Hp, (∀ b, H b = none ∨ b = a ∧ ∃ o xs, H b = some (.frz o (.lst xs))) → ScrAt K H a ns → HOk P w H s₁.heap → (H a ≠ none → K.lookup a = none) →
      codeAny (model P w) callerA (.call (.ref f) ⟨[.ref a], []⟩) (fun r s' => r = .ok (.ret (.bool true)) ∧ OldK s₁.heap s'.heap ∧ s'.os = s₁.os ∧ AllBare s'.gens) s₁ by
    cases hk : K.lookup a with
    | some o =>
      have e := kin a o hk
      rw [ha] at e
      cases e
      refine core (fun _ => none) (fun _ => .inl rfl) (.inr fun H' => .inr ⟨_, vs.toArray, _, hk, rfl, rfl, rfl, by rw [List.size_toArray, lv]; exact hl, by simpa using rv⟩) (fun b u z => by cases (show (none : Option HO) = some u from z)) fun z => absurd rfl z
    | none =>
      refine core (fun b => if b = a then some (.frz { cls := .type "list", data := .seq vs.toArray } (.lst (ns.map V.int))) else none) (fun b => ?_) (.inl ⟨_, if_pos rfl⟩) (fun b u z => ?_) fun _ => hk
      · by_cases h : b = a
        · exact .inr ⟨h, _, _, if_pos h⟩
        · exact .inl (if_neg h)
      · by_cases h : b = a
        · cases (if_pos h).symm.trans z
          subst h
          exact ⟨ha, by rw [List.length_map]; exact hl, vs, _, rv, ha⟩
        · cases (if_neg h).symm.trans z
  intro H hO hS hok hK
  have free : ∀ {b : Addr} {o : Obj}, s₁.heap.get? b = some o → (b = a → False) → H b = none := fun {b o} _ n => (hO b).elim id fun z => (n z.1).elim
  have inBase : ∀ {b : Addr} {o : Obj}, s₁.heap.get? b = some o → H b = none → (hidT s₁.heap H).get? b = some o := fun e n => hidT_get e n
  have nsB : ∀ {b : Addr} {m : Str → Option Value}, s₁.heap.Ns b m → (hidT s₁.heap H).Ns b m := fun {b m} ⟨o, es, ep, e, d, r⟩ => ⟨o, es, ep, inBase e (free e fun z => by
    subst z
    rw [ha] at e
    cases e
    cases (show Data.seq vs.toArray _ = Data.dict es ep from d)), d, r⟩
  have kb : K.In (hidT s₁.heap H) := fun b o e => inBase (kin b o e) ((hO b).elim id fun z => by
    have n := hK (by
      obtain ⟨rfl, _, _, q⟩ := z
      rw [q]
      exact nofun)
    rw [← z.1, e] at n
    cases n)
  have md : Mod K mg (hidT s₁.heap H) := ⟨kb, nsB hns, ⟨mb, nsB hb, hbb⟩, let ⟨mc, h1, h2⟩ := hlim; ⟨mc, nsB h1, h2⟩⟩
  have e0 : Env0 P w K mg (hidT s₁.heap H) callerA [] s₁ H := ⟨rfl, md, fun b o e => of_hidT e, Nat.le_of_eq (hidT_size _ _), trivial, (fun b hb => by cases hb), hok, .of_eq hg⟩
  refine codeAny_mono (F _ kb (nsB hns) s₁ H a e0 (hbind s₁ _) hS) fun r s' h => ?_
  cases r with
  | error e =>
    obtain ⟨_, _, _, _, _, _, _, _, _, _, _, _, z⟩ := h
    exact z.elim
  | ok fl =>
    cases fl with
    | next => exact False.elim h
    | brk => exact False.elim h
    | cont => exact False.elim h
    | ret u =>
      obtain ⟨v, H', os, bare, un, hok', rr, q⟩ := h
      cases (show v = V.bl true from q)
      cases (show u = Value.bool true from rr)
      refine ⟨rfl, OldK.of_keep fun b o e => ?_, os, bare⟩
      rcases hO b with z | ⟨_, ob, xs, z⟩
      · exact un.keep b o e z (fun q => by cases q) (by simp)
      · have e1 := (hok b _ z).1
        have e2 := (hok' b _ (un.frzs b _ _ z)).1
        rw [e] at e1
        cases e1
        exact e2
end

/-- the goal that the head leaves -/
theorem law_end {l : PySem.W.OpenLaw} {n : Nat} {q : Program} {loose : List Str} {XP : (Str → Option Value) → Heap → Prop} {YP : World → Heap → Prop} {d : DefRec} {K : Params → PySem.W.Frag} {x : Str} (hn : l.most = some n) (hn2 : n ≤ sizeLine) (hdf : d.params.defaults = [])
    (hY : ∀ (w : World) (h : Heap), YP w h → (K w.params).In h)
    (F : ∀ (w : World) (mg : Str → Option Value) (f : Addr) (h : Heap), (K w.params).In h → h.Ns mainGlobals mg → mg d.name = some (.ref f) →
      ∃ fd : FuncData, (∀ (s : Shared) (u : Value), BindsTo s fd ⟨[u], []⟩ [(x, u)]) ∧ ∀ (base : Heap) (ns : List Int), ns.length ≤ n → (K w.params).In base → base.Ns mainGlobals mg → LawAt l.prog w (K w.params) mg base f fd x ns) :
    PySem.W.WalkO q loose XP YP l.row.toRowW d [] (fun f vs => PySem.call f vs) := by
  refine Att.attach_call hn hdf fun w s₀ s₁ mg mb fa o pm cd doc a vs ns G Y ho hd hcd hmg hobj hints hlen hg => ?_
  have kin := hY w _ Y
  obtain ⟨fd, hb, hF⟩ := F w mg fa _ kin G.T.g hmg
  exact law_top kin G.T.g G.T.b G.T.builtins G.T.nolimit hg hobj hints (Nat.le_trans hlen hn2) (fun base k1 k2 => hF base ns hlen k1 k2) hb
end Ev

/-! Ev, part N: what a call gave is new, as its data tells; changes of new lists. -/
namespace Ev
open PySem PySem.Spec L2

/- the two are not shown by one value -/
mutual
def clash : D → D → Bool
  | .lst xs, .lst ys => clashAll xs ys
  | .lst _, .int _ => true
  | .lst _, .str _ => true
  | .lst _, .non => true
  | .lst _, .bl _ => true
  | .int _, .lst _ => true
  | .str _, .lst _ => true
  | .non, .lst _ => true
  | .bl _, .lst _ => true
  | .int i, .int j => decide (i ≠ j)
  | .str i, .str j => decide (i ≠ j)
  | .int _, .str _ => true
  | .str _, .int _ => true
  | _, _ => false
def clashAll : List D → List D → Bool
  | [], [] => false
  | x :: xs, y :: ys => clash x y || clashAll xs ys
  | [], _ :: _ => true
  | _ :: _, [] => true
end
section
variable {K : PySem.W.Frag} {H : Hp}
mutual
theorem clash_no : ∀ {d d' : D} {v : V} {F F' : List Addr}, clash d d' = true → Rp K H d v F → Rp K H d' v F' → False
  | .lst xs, d', v, F, F', h, r, r' => by
    cases d' <;> simp only [clash, Bool.false_eq_true] at h <;> simp only [Rp] at r r' <;> obtain ⟨a, us, G, rfl, rfl, q, r, _⟩ := r
    case lst ys =>
      obtain ⟨b, ws, G', e, rfl, q', r', _⟩ := r'
      injection e with e
      subst e
      rw [q] at q'
      injection q' with q'
      injection q' with q'
      subst q'
      exact clashAll_no h r r'
    all_goals cases r'.1
  | .int i, d', v, F, F', h, r, r' => by
    cases d' <;> simp only [clash, Bool.false_eq_true, decide_eq_true_eq] at h <;> simp only [Rp] at r r' <;> obtain ⟨rfl, _⟩ := r
    case int j =>
      have e := r'.1
      injection e with e
      exact h e
    case lst =>
      obtain ⟨_, _, _, e, _⟩ := r'
      cases e
    case str => cases r'.1
  | .str i, d', v, F, F', h, r, r' => by
    cases d' <;> simp only [clash, Bool.false_eq_true, decide_eq_true_eq] at h <;> simp only [Rp] at r r' <;> obtain ⟨rfl, _⟩ := r
    case str j =>
      have e := r'.1
      injection e with e
      exact h (str_inj.mp e)
    case lst =>
      obtain ⟨_, _, _, e, _⟩ := r'
      cases e
    case int => cases r'.1
  | .non, d', v, F, F', h, r, r' => by
    cases d' <;> simp only [clash, Bool.false_eq_true] at h <;> simp only [Rp] at r r' <;> obtain ⟨rfl, _⟩ := r
    case lst =>
      obtain ⟨_, _, _, e, _⟩ := r'
      cases e
  | .bl _, d', v, F, F', h, r, r' => by
    cases d' <;> simp only [clash, Bool.false_eq_true] at h <;> simp only [Rp] at r r' <;> obtain ⟨rfl, _⟩ := r
    case lst =>
      obtain ⟨_, _, _, e, _⟩ := r'
      cases e
  | .tup _, d', v, F, F', h, r, r' => by simp only [clash, Bool.false_eq_true] at h
  | .dct _, d', v, F, F', h, r, r' => by simp only [clash, Bool.false_eq_true] at h
  | .exc _ _, d', v, F, F', h, r, r' => by simp only [clash, Bool.false_eq_true] at h
  | .scr _, d', v, F, F', h, r, r' => by simp only [clash, Bool.false_eq_true] at h
  | .rep _, d', v, F, F', h, r, r' => by simp only [clash, Bool.false_eq_true] at h
theorem clashAll_no : ∀ {ds ds' : List D} {vs : List V} {F F' : List Addr}, clashAll ds ds' = true → RpAll K H ds vs F → RpAll K H ds' vs F' → False
  | [], [], _, _, _, h, _, _ => by simp only [clashAll, Bool.false_eq_true] at h
  | [], y :: ys, _, _, _, _, r, r' => by
    simp only [RpAll] at r r'
    obtain ⟨v, vr, G1, G2, e, _⟩ := r'
    rw [r.1] at e
    cases e
  | x :: xs, [], _, _, _, _, r, r' => by
    simp only [RpAll] at r r'
    obtain ⟨v, vr, G1, G2, e, _⟩ := r
    rw [r'.1] at e
    cases e
  | x :: xs, y :: ys, _, _, _, h, r, r' => by
    simp only [RpAll] at r r'
    obtain ⟨v, vr, G1, G2, rfl, _, r1, r2⟩ := r
    obtain ⟨v', vr', G1', G2', e, _, r1', r2'⟩ := r'
    injection e with e1 e2
    subst e1
    subst e2
    simp only [clashAll, Bool.or_eq_true] at h
    rcases h with h | h
    · exact clash_no h r1 r1'
    · exact clashAll_no h r2 r2'
end
end
/- the lists and dicts within -/
mutual
def nodes : D → List D
  | .lst xs => .lst xs :: nodesAll xs
  | .tup xs => nodesAll xs
  | .dct kvs => .dct kvs :: nodesKv kvs
  | _ => []
def nodesAll : List D → List D
  | [] => []
  | x :: xs => nodes x ++ nodesAll xs
def nodesKv : List (D × D) → List D
  | [] => []
  | (_, x) :: xs => nodes x ++ nodesKv xs
end
section
variable {K : PySem.W.Frag} {H : Hp}
mutual
theorem nodes_of : ∀ {d : D} {v : V} {F : List Addr}, Rp K H d v F → ∀ a ∈ F, ∃ t ∈ nodes d, ∃ F', Rp K H t (.ref a) F'
  | .lst xs, v, F, r, a, m => by
    have r0 := r
    simp only [Rp] at r
    obtain ⟨p, us, G, rfl, rfl, q, r, _⟩ := r
    rcases List.mem_cons.mp m with e | e
    · subst e
      exact ⟨_, by simp [nodes], _, r0⟩
    · obtain ⟨t, h, z⟩ := nodesAll_of r a e
      exact ⟨t, by simp [nodes, h], z⟩
  | .tup xs, v, F, r, a, m => by
    simp only [Rp] at r
    obtain ⟨p, us, rfl, q, r, _⟩ := r
    obtain ⟨t, h, z⟩ := nodesAll_of r a m
    exact ⟨t, by simp [nodes, h], z⟩
  | .dct kvs, v, F, r, a, m => by
    have r0 := r
    simp only [Rp] at r
    obtain ⟨p, us, G, rfl, rfl, q, r⟩ := r
    rcases List.mem_cons.mp m with e | e
    · subst e
      exact ⟨_, by simp [nodes], _, r0⟩
    · obtain ⟨t, h, z⟩ := nodesKv_of r a e
      exact ⟨t, by simp [nodes, h], z⟩
  | .non, _, _, h, a, m => by simp only [Rp] at h; rw [h.2] at m; cases m
  | .bl _, _, _, h, a, m => by simp only [Rp] at h; rw [h.2] at m; cases m
  | .int _, _, _, h, a, m => by simp only [Rp] at h; rw [h.2] at m; cases m
  | .str _, _, _, h, a, m => by simp only [Rp] at h; rw [h.2.2] at m; cases m
  | .rep _, _, _, h, a, m => by simp only [Rp] at h; rw [h.2] at m; cases m
  | .exc _ _, _, _, h, a, m => by simp only [Rp] at h
  | .scr ns, _, _, h, a, m => by
    simp only [Rp] at h
    obtain ⟨b, rfl, rfl, q⟩ := h
    cases m
theorem nodesAll_of : ∀ {d : List D} {v : List V} {F : List Addr}, RpAll K H d v F → ∀ a ∈ F, ∃ t ∈ nodesAll d, ∃ F', Rp K H t (.ref a) F'
  | [], _, _, h, a, m => by simp only [RpAll] at h; rw [h.2] at m; cases m
  | d :: ds, _, _, h, a, m => by
    simp only [RpAll] at h
    obtain ⟨v, vr, G1, G2, rfl, rfl, h1, h2⟩ := h
    rcases List.mem_append.mp m with e | e
    · obtain ⟨t, h, z⟩ := nodes_of h1 a e
      exact ⟨t, by simp [nodesAll, h], z⟩
    · obtain ⟨t, h, z⟩ := nodesAll_of h2 a e
      exact ⟨t, by simp [nodesAll, h], z⟩
theorem nodesKv_of : ∀ {d : List (D × D)} {v : List (D × V)} {F : List Addr}, RpKv K H d v F → ∀ a ∈ F, ∃ t ∈ nodesKv d, ∃ F', Rp K H t (.ref a) F'
  | [], _, _, h, a, m => by simp only [RpKv] at h; rw [h.2] at m; cases m
  | (k, d) :: ds, _, _, h, a, m => by
    simp only [RpKv] at h
    obtain ⟨v, vr, G1, G2, rfl, rfl, h1, h2⟩ := h
    rcases List.mem_append.mp m with e | e
    · obtain ⟨t, h, z⟩ := nodes_of h1 a e
      exact ⟨t, by simp [nodesKv, h], z⟩
    · obtain ⟨t, h, z⟩ := nodesKv_of h2 a e
      exact ⟨t, by simp [nodesKv, h], z⟩
end
end
/-- d is no list of the slots lk -/
def fresh (ρ : En) (lk : List Nat) (d : D) : Bool := lk.all fun j => match ρ[j]? with
  | some (some o) => (nodes o).all fun t => clash d t
  | _ => false
/-- .. nor within itself -/
def fresh1 (d : D) : Bool := match d with
  | .lst xs => (nodesAll xs).all fun t => clash d t
  | _ => false
theorem fresh_new {K : PySem.W.Frag} {H H' : Hp} {σ : Sg} {ρ : En} {Fs : List (List Addr)} {lk : List Nat} {d : D} {p : Addr} {F G : List Addr} (ok : EnvOk K H σ ρ Fs) (f : fresh ρ lk d = true) (x : Same H H') (r : Rp K H' d (.ref p) F) (u : Sub G Fs lk H) (hp : p ∈ G) : H p = none := by
  rcases u p hp with ⟨j, hj, G2, e, m⟩ | z
  · exfalso
    have h := List.all_eq_true.mp f j hj
    split at h
    · rename_i o eo
      obtain ⟨v, F2, e1, e2, r2⟩ := ok.get j o eo
      rw [e] at e2
      injection e2 with e2
      subst e2
      obtain ⟨t, ht, F3, r3⟩ := nodes_of r2 p m
      exact clash_no (List.all_eq_true.mp h t ht) r (r3.same x)
    · cases h
  · exact z
theorem fresh1_out {K : PySem.W.Frag} {H : Hp} {d : D} {p : Addr} {G : List Addr} (f : fresh1 d = true) (r : Rp K H d (.ref p) (p :: G)) : p ∉ G := fun m => by
  unfold fresh1 at f
  split at f
  · rename_i xs
    have r0 := r
    simp only [Rp] at r
    obtain ⟨a, us, G2, e, e2, q, r, _⟩ := r
    injection e with e
    subst e
    injection e2 with _ e2
    subst e2
    obtain ⟨t, ht, F3, r3⟩ := nodesAll_of r p m
    exact clash_no (List.all_eq_true.mp f t ht) r0 r3
  · cases f

section
variable {X : Cx} {W : XK} {a b c : Expr} {fa fb : En → R D} {la lb : List Nat} {pos apos cpos : Pos} {lv : Nat}
/-- x = a call whose list is new -/
def sfFresh (i : Nat) (lk : List Nat) (fa : En → R D) : SF := fun ρ own => (fa ρ).bind fun d => if i < ρ.length ∧ fresh ρ lk d = true ∧ fresh1 d = true then .ok (.nx (ρ.set i (some d)) (i :: dropO (keepO own lk d) i)) else .st
theorem ss_fresh {i : Nat} {x : Str} {pos' : Pos} (G : Good lv X W) (hi : X.N[i]? = some x) (hx : Loc X.env.scope x) (ha : SE X W a fa la) (hs : swapsWith a (some (.Name x pos')) pos.line X.env = pure false := by rfl) (hf : X.fn x = true ∨ X.env.scope.names.lookup x = some .local := by first | exact .inl rfl | exact .inr rfl | assumption) :
    SS X W (.Assign [.Name x pos'] a pos) (sfFresh i la fa) := by
  refine ⟨PS.imp (ps_set G.nd hi hx ha.pe hs hf) fun D σ H q => ?_⟩
  obtain ⟨ρ, own, Fs, s, q⟩ := q
  refine tE_S s q fun d v H' F x r u q => ?_
  split at q
  · rename_i hc
    cases d <;> simp only [fresh1, Bool.false_eq_true, and_false] at hc
    have r0 := r
    simp only [Rp] at r
    obtain ⟨p, us, G2, rfl, rfl, hp, r, l⟩ := r
    exact q _ H' _ (.putN s x r0 u (fresh_new s.env hc.2.1 x r0 u List.mem_cons_self) (fresh1_out (by simpa only [fresh1] using hc.2.2) r0) hp trivial hc.1)
  · exact q.elim
/-- a call's new list is changed, and dropped -/
def sfPoke (la : List Nat) (fa fb : En → R D) : SF := fun ρ own => (fa ρ).bind fun d => match d with
  | .lst xs => if fresh ρ la d = true ∧ xs.length + 1 ≤ big then (fb ρ).bind fun _ => .ok (.nx ρ own) else .st
  | _ => .st
theorem ss_poke (ha : SE X W a fa la) (hb : SE X W b fb lb)
    (hfew : ((backTo cpos (starEach [b] X.env)).all (fun x => !x.1) && (backToKw cpos (keywordEach [] X.env)).all (fun x => x.1.isSome)
      && decide (([b] : List Expr).length + ([] : List Keyword).length + (if ([] : List Keyword).isEmpty then 0 else 1) < 30)) = true := by rfl)
    (hline : (apos.endLine == cpos.line) = true := by rfl) (hse : starEach [b] X.env = (false, eval b X.env) :: starEach [] X.env := by rfl) (hplain : (backTo cpos (starEach [] X.env)).any (·.1) = false := by rfl) (hbase : attributeBase a "append" X.env (eval a X.env) = eval a X.env := by rfl)
    (hs : swapsWith (.Call (.Attribute a "append" apos) [b] [] cpos) none pos.line X.env = pure false := by rfl) :
    SS X W (.Expr (.Call (.Attribute a "append" apos) [b] [] cpos) pos) (sfPoke la fa fb) := by
  refine ⟨PS.imp (ps_expr (pe_bm PySem.F.plainAttrs_list PySem.F.slot_list_append PySem.F.type_list_append mt_append ha.pe (sa_cons (ls := []) hb sa_nil hse).pa hbase hfew hline hse hplain) hs) fun N σ H q => ?_⟩
  obtain ⟨ρ, own, Fs, s, q⟩ := q
  refine tE_S s q fun d v H1 F x r u q => ?_
  cases d <;> simp only at q <;> first | exact q.elim | skip
  rename_i xs
  split at q
  · rename_i hc
    have r0 := r
    simp only [Rp] at r
    obtain ⟨p, us, G, rfl, rfl, hp, r, l⟩ := r
    have np : H p = none := fresh_new s.env hc.1 x r0 u List.mem_cons_self
    refine ⟨.inl ⟨rfl, us, .inl (.inl hp)⟩, ρ, Fs, s.env.same x, ?_⟩
    simp only [aC, aN]
    cases eb : fb ρ with
    | st => rw [eb] at q; exact q.elim
    | rs c n => rw [eb] at q; exact fun cls dd H' y z => q cls dd H' (.of (x.trans y)) z
    | ok d2 =>
      rw [eb] at q
      simp only [R.bind] at q ⊢
      intro ws H2 Fd y rd ud
      obtain ⟨w, rfl, rw'⟩ := rd.one_inv
      have hp2 := y p _ hp
      refine ⟨p, us, w, rfl, rfl, hp2, by rw [← r.len, ← big_line]; omega, ?_⟩
      have sm : Same H (upd H2 p (.lst (us ++ [w]))) := fun c z e => by
        have nc : c ≠ p := fun k => by
          rw [k, np] at e
          cases e
        rw [upd_ne nc]
        exact y c z (x c z e)
      exact q σ _ Fs (.same s sm)
  · exact q.elim
end
end Ev

/-! Ev, part O: the words that the printer uses. -/
namespace Ev
open PySem PySem.Spec L2

section
variable {X : Cx} {W : XK} {e a b c o : Expr} {es rest : List Expr} {fa fb fc fo : En → R D} {fs : En → R (List D)} {la lb lc ls lo : List Nat} {pos apos p : Pos} {lv : Nat} {x : Str}

theorem Good.u4 (G : Good lv X W) : X.A.units + 64 < cLine := by
  have := G.room.un
  omega
theorem Good.u5 (G : Good lv X W) : X.A.units + 65 < cLine := by
  have := G.room.un
  omega
theorem bt_len : bootBuiltins "len" = some (.builtin "len") := by decide +kernel
theorem bt_abs : bootBuiltins "abs" = some (.builtin "abs") := by decide +kernel
theorem bt_min : bootBuiltins "min" = some (.builtin "min") := by decide +kernel
theorem bt_max : bootBuiltins "max" = some (.builtin "max") := by decide +kernel
theorem bt_sum : bootBuiltins "sum" = some (.builtin "sum") := by decide +kernel
theorem bt_all : bootBuiltins "all" = some (.builtin "all") := by decide +kernel
theorem bt_any : bootBuiltins "any" = some (.builtin "any") := by decide +kernel
theorem bt_repr : bootBuiltins "repr" = some (.builtin "repr") := by decide +kernel
theorem bt_int : bootBuiltins "int" = some (.type "int") := by decide +kernel
theorem bt_list : bootBuiltins "list" = some (.type "list") := by decide +kernel
theorem bt_tuple : bootBuiltins "tuple" = some (.type "tuple") := by decide +kernel

theorem se_gS {s : List Nat} {z : Str} (h : ∃ t, X.mg x = some (.str z t)) (hz : z = ⟨s.toArray⟩) (ho : okS s = true) (hg : Gl X x := by rfl) (hd : (x == ("__debug__" : Str)) = false := by decide) : SE X W (.Name x pos) (cC (.str s)) [] := by
  obtain ⟨t, h⟩ := h
  subst hz
  exact se_glob (v := .str ⟨s.toArray⟩) (.str s) hg h ⟨t, rfl⟩ (fun H => by simp only [Rp]; exact ⟨trivial, ho, trivial⟩) hd
theorem se_gI {i : Int} (h : ∃ t, X.mg x = some (.int i t)) (hg : Gl X x := by rfl) (hd : (x == ("__debug__" : Str)) = false := by decide) : SE X W (.Name x pos) (cC (.int i)) [] := by
  obtain ⟨t, h⟩ := h
  exact se_glob (v := .int i) (.int i) hg h ⟨t, rfl⟩ (fun H => by simp [Rp]) hd

theorem se_add (ha : SE X W a fa la) (hb : SE X W b fb lb) : SE X W (.BinOp a .Add b pos) (c2 gAdd fa fb) (la ++ lb) := se_op or_add snd_add ha hb
theorem se_sub (ha : SE X W a fa la) (hb : SE X W b fb lb) : SE X W (.BinOp a .Sub b pos) (c2 gSub fa fb) (la ++ lb) := se_op op_sub snd_sub ha hb
theorem se_mul (ha : SE X W a fa la) (hb : SE X W b fb lb) : SE X W (.BinOp a .Mult b pos) (c2 gMul fa fb) (la ++ lb) := se_op (op_mul.or op_rep) snd_mul ha hb
theorem se_fdiv (ha : SE X W a fa la) (hb : SE X W b fb lb) : SE X W (.BinOp a .FloorDiv b pos) (c2 gDiv fa fb) (la ++ lb) := se_op op_fdiv snd_div ha hb
theorem se_mod (ha : SE X W a fa la) (hb : SE X W b fb lb) : SE X W (.BinOp a .Mod b pos) (c2 gMod fa fb) (la ++ lb) := se_op op_mod snd_mod ha hb
theorem se_pow (ha : SE X W a fa la) (hb : SE X W b fb lb) : SE X W (.BinOp a .Pow b pos) (c2 gPow fa fb) (la ++ lb) := se_op op_pow snd_pow ha hb

/-! ### new lists from + and from a slice -/
theorem tE_bindN {lk : List Nat} {σ : Sg} {ρ : En} {Fs : List (List Addr)} {H0 H : Hp} {Q P : VK} {g : D → R D} (s0 : Same H0 H) (ok : EnvOk X.K H σ ρ Fs) (hl : ∀ j ∈ la, j ∈ lk)
    (h : EndN X.K X.mg W Fs lk H0 Q ((fa ρ).bind g)) (k : ∀ d v H1 F, Same H0 H1 → Same H H1 → Rp X.K H1 d v F → Sub F Fs lk H0 → EndN X.K X.mg W Fs lk H0 Q (g d) → P v H1) : tE X W fa la σ H P := by
  refine ⟨ρ, Fs, ok, ?_⟩
  cases e : fa ρ with
  | ok d =>
    rw [e] at h
    exact fun v H' F e r s => k d v H' F (s0.trans e) e r ((s.back s0).mono hl) h
  | rs c n =>
    rw [e] at h
    exact fun cls dd H' e x => h cls dd H' (s0.trans e) x
  | st =>
    rw [e] at h
    exact h
def gAddL : D → D → R D
  | .lst s, .lst t => if s.length + t.length ≤ big then .ok (.lst (s ++ t)) else .st
  | _, _ => .st
theorem sn_add (ha : SE X W a fa la) (hb : SE X W b fb lb) : SN X W (.BinOp a .Add b pos) (c2 gAddL fa fb) (la ++ lb) := by
  refine ⟨PE.imp (pe_op op_cat ha.pe hb.pe) fun σ H Q h => ?_⟩
  obtain ⟨ρ, Fs, ok, h⟩ := h
  refine tE_bindN (Same.refl H) ok (fun j hj => List.mem_append_left _ hj) h fun d1 v1 H1 F1 s1 _ r1 u1 h1 => ?_
  refine tE_bindN s1 (ok.same s1) (fun j hj => List.mem_append_right _ hj) h1 fun d2 v2 H2 F2 s2 s12 r2 u2 h2 => ?_
  have r1 := r1.same s12
  unfold gAddL at h2
  split at h2
  · split at h2
    · rename_i hl
      simp only [Rp] at r1 r2
      obtain ⟨p, xs, G, rfl, rfl, q, r, _⟩ := r1
      obtain ⟨p2, xs2, G2, rfl, rfl, q2, r2, _⟩ := r2
      exact ⟨p, p2, xs, xs2, rfl, rfl, q, q2, by rw [← r.len, ← r2.len, ← big_line]; exact hl, fun c hc => h2.newL s2 (r.append r2) (.app (u1.of fun _ z => List.mem_cons_of_mem _ z) (u2.of fun _ z => List.mem_cons_of_mem _ z)) hc (by rw [List.length_append]; exact hl)⟩
    · exact h2.elim
  · exact h2.elim

/-- a comparison's rule and what it says -/
structure Cm (X : Cx) (W : XK) (op : CmpOp) (g : D → D → R D) : Prop where
  ex : ∃ r, OpR X (compareOp op) r ∧ Snd2 X W r g
theorem cm_eq (G : Good lv X W) : Cm X W .Eq gEq := ⟨_, or_eqA G.u4, snd_eq⟩
theorem cm_ne (G : Good lv X W) : Cm X W .NotEq gNe := ⟨_, or_neA G.u4, snd_ne⟩
theorem cm_lt : Cm X W .Lt gLt := ⟨_, or_lt, snd_ord⟩
theorem cm_le : Cm X W .LtE gLe := ⟨_, or_le, snd_ord⟩
theorem cm_gt : Cm X W .Gt gGt := ⟨_, or_gt, snd_ord⟩
theorem cm_ge : Cm X W .GtE gGe := ⟨_, or_ge, snd_ord⟩
theorem cm_is : Cm X W .Is gIs := ⟨_, op_isN, snd_is⟩
theorem cm_isNot : Cm X W .IsNot gIsNot := ⟨_, op_notN, snd_isNot⟩
theorem cm_in (G : Good lv X W) : Cm X W .In gIn := ⟨_, or_inA G.u5, snd_inA⟩
theorem cm_notIn (G : Good lv X W) : Cm X W .NotIn gNotIn := ⟨_, or_notInA G.u5, snd_notInA⟩
theorem se_cm {op : CmpOp} {g : D → D → R D} (h : Cm X W op g) (ha : SE X W a fa la) (hb : SE X W b fb lb) (hm : behindInMarks op b = false := by rfl) : SE X W (.Compare a [op] [b] pos) (c2 g fa fb) (la ++ lb) := by
  obtain ⟨r, h1, h2⟩ := h.ex
  exact se_cmp h1 h2 ha hb hm
theorem st_cm {op : CmpOp} {g : D → D → R D} (h : Cm X W op g) (ha : SE X W a fa la) (hb : SE X W b fb lb) (hm : behindInMarks op b = false := by rfl) : ST X W (.Compare a [op] [b] pos) (cB (c2 g fa fb)) := by
  obtain ⟨r, h1, h2⟩ := h.ex
  exact st_cmp h1 h2 ha hb hm
theorem se_cm2 {op op' : CmpOp} {g g' : D → D → R D} (h : Cm X W op g) (h' : Cm X W op' g') (ha : SE X W a fa la) (hb : SE X W b fb lb) (hc : SE X W c fc lc) (hm : lastMarks [op, op'] [b, c] = false := by with_unfolding_all rfl) : SE X W (.Compare a [op, op'] [b, c] pos) (cCh g g' fa fb fc) (la ++ (lb ++ lc)) := by
  obtain ⟨r, h1, h2⟩ := h.ex
  obtain ⟨r', h1', h2'⟩ := h'.ex
  exact se_chain h1 h1' h2 h2' ha hb hc hm
theorem st_cm2 {op op' : CmpOp} {g g' : D → D → R D} (h : Cm X W op g) (h' : Cm X W op' g') (ha : SE X W a fa la) (hb : SE X W b fb lb) (hc : SE X W c fc lc) (hm : lastMarks [op, op'] [b, c] = false := by with_unfolding_all rfl) : ST X W (.Compare a [op, op'] [b, c] pos) (cB (cCh g g' fa fb fc)) := by
  obtain ⟨r, h1, h2⟩ := h.ex
  obtain ⟨r', h1', h2'⟩ := h'.ex
  exact st_chain h1 h1' h2 h2' ha hb hc hm

/-- a built-in's rule and what it says -/
structure Bi (X : Cx) (W : XK) (x : Str) (g : List D → R D) : Prop where
  ex : (∃ id r, CallR X (.builtin id) r ∧ SndC X W r g ∧ bootBuiltins x = some (.builtin id)) ∨ ∃ id r, CallR X (.type id) r ∧ SndC X W r g ∧ bootBuiltins x = some (.type id)
theorem bi_len : Bi X W "len" gLen := ⟨.inl ⟨_, _, cr_lenA, snd_len, bt_len⟩⟩
theorem bi_abs : Bi X W "abs" gAbs := ⟨.inl ⟨_, _, call_abs, snd_abs, bt_abs⟩⟩
theorem bi_min (G : Good lv X W) : Bi X W "min" gMin := ⟨.inl ⟨_, _, cr_min G.calm G.u4, snd_min, bt_min⟩⟩
theorem bi_max (G : Good lv X W) : Bi X W "max" gMax := ⟨.inl ⟨_, _, cr_max G.calm G.u4, snd_max, bt_max⟩⟩
theorem bi_sum (G : Good lv X W) : Bi X W "sum" gSum := ⟨.inl ⟨_, _, cr_sum G.calm, snd_sum, bt_sum⟩⟩
theorem bi_all (G : Good lv X W) : Bi X W "all" gAll := ⟨.inl ⟨_, _, cr_all G.calm, snd_all, bt_all⟩⟩
theorem bi_any (G : Good lv X W) : Bi X W "any" gAny := ⟨.inl ⟨_, _, cr_any G.calm, snd_any, bt_any⟩⟩
theorem bi_repr (G : Good lv X W) (hg : X.A.guards = some []) : Bi X W "repr" gRepr := ⟨.inl ⟨_, _, cr_repr hg G.u4, snd_repr, bt_repr⟩⟩
theorem bi_int : Bi X W "int" gInt := ⟨.inr ⟨_, _, call_int1, snd_int, bt_int⟩⟩
theorem bi_list : Bi X W "list" gList := ⟨.inr ⟨_, _, call_list_of, snd_list, bt_list⟩⟩
theorem bi_tuple : Bi X W "tuple" gTuple := ⟨.inr ⟨_, _, call_tuple_of, snd_tuple, bt_tuple⟩⟩
theorem se_bi {g : List D → R D} (h : Bi X W x g) (hm : X.mg x = none) (ha : SA X W (e :: es) fs ls) (hg : Gl X x := by rfl) (hn : x ≠ "__name__" := by decide) (hdb : (x == ("__debug__" : Str)) = false := by decide)
    (he : starEach (e :: es) X.env = (false, eval e X.env) :: starEach es X.env := by rfl) (hpl : (backTo pos (starEach es X.env)).any (·.1) = false := by rfl) : SE X W (.Call (.Name x p) (e :: es) [] pos) (cA g fs) ls := by
  rcases h.ex with ⟨id, r, h1, h2, h3⟩ | ⟨id, r, h1, h2, h3⟩
  · exact se_callB h1 h2 hm h3 ha hg hn hdb he hpl
  · exact se_callTy h1 h2 hm h3 ha hg hn hdb he hpl

theorem se_join (ho : SE X W o fo lo) (ha : SE X W a fa la) (hs : starEach [a] X.env = [(false, eval a X.env)] := by rfl) (hbase : attributeBase o "join" X.env (eval o X.env) = eval o X.env := by rfl) (hline : (apos.endLine == pos.line) = true := by rfl) :
    SE X W (.Call (.Attribute o "join" apos) [a] [] pos) (cMs gJoin fo fa) (lo ++ la) := se_m1 PySem.F.slot_str_join PySem.F.type_str_join mt_join sndm_join ho ha hs hbase hline
theorem se_count (ho : SE X W o fo lo) (ha : SE X W a fa la) (hs : starEach [a] X.env = [(false, eval a X.env)] := by rfl) (hbase : attributeBase o "count" X.env (eval o X.env) = eval o X.env := by rfl) (hline : (apos.endLine == pos.line) = true := by rfl) :
    SE X W (.Call (.Attribute o "count" apos) [a] [] pos) (cMs gCount fo fa) (lo ++ la) := se_m1 PySem.F.slot_str_count PySem.F.type_str_count mt_count sndm_count ho ha hs hbase hline
/-- the block's names: its own ones are slots; the others are cells around it -/
def blkO (N : List Str) (scope : Scope) (own : List (Str × Nat)) : Bool :=
  (match scope.kind with | .function => true | _ => false) && ((scope.names.all fun y => decide (scope.names.lookup y.1 = some y.2)) && ((own.all fun p => decide (N[p.2]? = some p.1)) &&
    (scope.names.all fun y => match y.2 with
      | .local => decide (y.1 ∈ own.map (·.1)) || decide (y.1 ∉ N)
      | .cell => decide (y.1 ∈ own.map (·.1)) || decide (y.1 ∉ N)
      | _ => true)))
def freeL (sc : Scope) : List (Str × NameKind) → Prop
  | [] => True
  | (n, .free) :: r => sc.names.lookup n = some .cell ∧ freeL sc r
  | _ :: r => freeL sc r
theorem freeL_mem {sc : Scope} : ∀ {l : List (Str × NameKind)}, freeL sc l → ∀ y ∈ l, y.2 = .free → sc.names.lookup y.1 = some .cell
  | [], _, y, h, _ => by cases h
  | (n, k) :: r, h, y, m, e => by
    rcases List.mem_cons.mp m with q | q
    · subst q
      subst e
      exact h.1
    · refine freeL_mem (l := r) ?_ y q e
      cases k <;> first | exact h.2 | exact h
theorem blk_ok {N : List Str} {sc scope : Scope} {own : List (Str × Nat)} (hf : freeL sc scope.names) (h : blkO N scope own = true) : BlkOk N sc scope own := by
  unfold blkO at h
  simp only [Bool.and_eq_true, List.all_eq_true, decide_eq_true_eq] at h
  obtain ⟨h1, h2, h3, h4⟩ := h
  refine ⟨?_, h2, h3, fun y hy e => .inl (freeL_mem hf y hy e), fun y hy e => ?_⟩
  · split at h1
    · assumption
    · cases h1
  · have z := h4 y hy
    rcases e with e | e <;> rw [e] at z <;> simpa using z
/-- a statement that is not reached -/
def sfStuck : SF := fun _ _ => .st
theorem ss_stuck {st : Stmt} : SS X W st sfStuck := ⟨PS.imp ps_never fun N σ H ⟨_, _, _, _, q⟩ => q⟩
end
end Ev

/-! Ev, part Z: plain laws about the functions. -/
namespace Ev
open PySem PySem.Spec L2

/-! ### defs and sequences -/
theorem runB_rt {n N : Nat} {body : SF} {ds : List D} {d : D} (hl : ds.length = n) (h : body (ds.map some ++ List.replicate (N - n) none) [] = .ok (.rt d)) : runB n N body ds = .ok d := by
  unfold runB
  rw [if_pos hl, h]
theorem runB_nx {n N : Nat} {body : SF} {ds : List D} {ρ : En} {own : List Nat} (hl : ds.length = n) (h : body (ds.map some ++ List.replicate (N - n) none) [] = .ok (.nx ρ own)) : runB n N body ds = .ok .non := by
  unfold runB
  rw [if_pos hl, h]
theorem runB_rs {n N : Nat} {body : SF} {ds : List D} {c : String} {k : Int} (hl : ds.length = n) (h : body (ds.map some ++ List.replicate (N - n) none) [] = .rs c k) : runB n N body ds = .rs c k := by
  unfold runB
  rw [if_pos hl, h]
theorem seqO_nx {g h : SF} {ρ ρ' : En} {own own' : List Nat} (e : g ρ own = .ok (.nx ρ' own')) : seqO g h ρ own = h ρ' own' := by
  unfold seqO
  rw [e]
theorem seqO_rt {g h : SF} {ρ : En} {own : List Nat} {d : D} (e : g ρ own = .ok (.rt d)) : seqO g h ρ own = .ok (.rt d) := by
  unfold seqO
  rw [e]
theorem sfEx_ok {fa : En → R D} {ρ : En} {own : List Nat} {d : D} (e : fa ρ = .ok d) : sfEx fa ρ own = .ok (.nx ρ own) := by
  unfold sfEx
  rw [e]
  rfl
theorem sfRet_ok {fa : En → R D} {ρ : En} {own : List Nat} {d : D} (e : fa ρ = .ok d) : sfRet fa ρ own = .ok (.rt d) := by
  unfold sfRet
  rw [e]
  rfl
theorem sfIf_t {t : En → R Bool} {g h : SF} {ρ : En} {own : List Nat} (e : t ρ = .ok true) : sfIf t g h ρ own = g ρ own := by
  unfold sfIf
  rw [e]
  rfl
theorem sfIf_f {t : En → R Bool} {g h : SF} {ρ : En} {own : List Nat} (e : t ρ = .ok false) : sfIf t g h ρ own = h ρ own := by
  unfold sfIf
  rw [e]
  rfl
theorem sfIf_fN {t : En → R Bool} {g : SF} {ρ : En} {own : List Nat} (e : t ρ = .ok false) : sfIf t g sfN ρ own = .ok (.nx ρ own) := sfIf_f e
theorem sfSet_ok {i : Nat} {lk : List Nat} {fa : En → R D} {ρ : En} {own : List Nat} {d : D} (e : fa ρ = .ok d) : sfSet i lk fa ρ own = .ok (.nx (ρ.set i (some d)) (dropO (keepO own lk d) i)) := by
  unfold sfSet
  rw [e]
  rfl
theorem sfNew_ok {i : Nat} {lk : List Nat} {fa : En → R D} {ρ : En} {own : List Nat} {d : D} (e : fa ρ = .ok d) (hi : i < ρ.length) : sfNew i lk fa ρ own = .ok (.nx (ρ.set i (some d)) (i :: dropO (keepO own lk d) i)) := by
  unfold sfNew
  rw [e]
  exact if_pos hi
theorem sfFresh_ok {i : Nat} {lk : List Nat} {fa : En → R D} {ρ : En} {own : List Nat} {d : D} (e : fa ρ = .ok d) (hi : i < ρ.length) (h1 : fresh ρ lk d = true) (h2 : fresh1 d = true) : sfFresh i lk fa ρ own = .ok (.nx (ρ.set i (some d)) (i :: dropO (keepO own lk d) i)) := by
  unfold sfFresh
  rw [e]
  exact if_pos ⟨hi, h1, h2⟩
theorem cA_ok {g : List D → R D} {fs : En → R (List D)} {ρ : En} {ds : List D} (e : fs ρ = .ok ds) : cA g fs ρ = g ds := by
  unfold cA
  rw [e]
  rfl

/-! ### one step of an evaluation -/
section
variable {α β : Type} {a : α} {f : α → R β} {c : String} {n i j : Int} {b : Bool} {s t : List Nat} {xs ys : List D}
theorem bo : (R.ok a).bind f = f a := eq_of_heq HEq.rfl
theorem br : (R.rs c n : R α).bind f = .rs c n := eq_of_heq HEq.rfl
theorem bs : (R.st : R α).bind f = .st := eq_of_heq HEq.rfl
theorem truB : tru (.bl b) = .ok b := rfl
theorem truI : tru (.int i) = .ok (i != 0) := rfl
theorem truS : tru (.str s) = .ok (!s.isEmpty) := rfl
theorem truL : tru (.lst xs) = .ok (!xs.isEmpty) := rfl
theorem asBB : asB (.bl b) = .ok b := rfl
theorem gLenL : gLen [.lst xs] = .ok (.int xs.length) := rfl
theorem gLenT : gLen [.tup xs] = .ok (.int xs.length) := rfl
theorem gLenS : gLen [.str s] = .ok (.int s.length) := rfl
theorem gLenN {ns : List Int} : gLen [.scr ns] = .ok (.int ns.length) := rfl
theorem gAddI : gAdd (.int i) (.int j) = .ok (.int (i + j)) := rfl
theorem gAddS (h : s.length + t.length ≤ big) : gAdd (.str s) (.str t) = .ok (.str (s ++ t)) := if_pos h
theorem gAddLs (h : xs.length + ys.length ≤ big) : gAdd (.lst xs) (.lst ys) = .ok (.lst (xs ++ ys)) := if_pos h
theorem gAddLL (h : xs.length + ys.length ≤ big) : gAddL (.lst xs) (.lst ys) = .ok (.lst (xs ++ ys)) := if_pos h
theorem gSubI : gSub (.int i) (.int j) = .ok (.int (i - j)) := rfl
theorem gNegI : gNeg (.int i) = .ok (.int (-i)) := rfl
theorem gLtI : gLt (.int i) (.int j) = .ok (.bl (decide (i < j))) := rfl
theorem gLeI : gLe (.int i) (.int j) = .ok (.bl (decide (i ≤ j))) := rfl
theorem gGtI : gGt (.int i) (.int j) = .ok (.bl (decide (i > j))) := rfl
theorem gGeI : gGe (.int i) (.int j) = .ok (.bl (decide (i ≥ j))) := rfl
theorem gLtS : gLt (.str s) (.str t) = .ok (.bl (decide (s < t))) := rfl
theorem gLeS : gLe (.str s) (.str t) = .ok (.bl (!decide (t < s))) := rfl
theorem gGtS : gGt (.str s) (.str t) = .ok (.bl (decide (t < s))) := rfl
theorem gGeS : gGe (.str s) (.str t) = .ok (.bl (!decide (s < t))) := rfl
theorem gAbsI : gAbs [.int i] = .ok (.int (if i < 0 then -i else i)) := rfl
theorem gIntI : gInt [.int i] = .ok (.int i) := rfl
theorem gInC {c : Nat} : gIn (.str [c]) (.str t) = .ok (.bl (decide (c ∈ t))) := rfl
theorem gNotInC {c : Nat} : gNotIn (.str [c]) (.str t) = .ok (.bl (!decide (c ∈ t))) := rfl
theorem gIsN {x : D} : gIs x .non = .ok (.bl (isNon x)) := by cases x <;> rfl
theorem gIsNotN {x : D} : gIsNot x .non = .ok (.bl (!isNon x)) := by cases x <;> rfl
theorem gListL : gList [.lst xs] = .ok (.lst xs) := rfl
theorem gListT : gList [.tup xs] = .ok (.lst xs) := rfl
theorem gTupleL : gTuple [.lst xs] = .ok (.tup xs) := rfl
theorem cmpOk_int : cmpOk (.int i) = true := by
  simp only [cmpOk, flat, dep, Bool.true_and]
  rfl
theorem cmpOk_str : cmpOk (.str s) = true := by
  simp only [cmpOk, flat, dep, Bool.true_and]
  rfl
theorem cmpOk_bl : cmpOk (.bl b) = true := by
  simp only [cmpOk, flat, dep, Bool.true_and]
  rfl
theorem cmpOk_non : cmpOk .non = true := by
  simp only [cmpOk, flat, dep, Bool.true_and]
  rfl
theorem gEq_of {x y : D} (hx : cmpOk x = true) (hy : cmpOk y = true) : gEq x y = .ok (.bl (eqv x y)) := by
  unfold gEq
  split
  · simp [cmpOk, flat] at hx
  · rw [hx, hy]
    rfl
theorem gNe_of {x y : D} (hx : cmpOk x = true) (hy : cmpOk y = true) : gNe x y = .ok (.bl (!eqv x y)) := by
  unfold gNe
  split
  · simp [cmpOk, flat] at hx
  · rw [hx, hy]
    rfl
theorem gEqI : gEq (.int i) (.int j) = .ok (.bl (decide (i = j))) := gEq_of cmpOk_int cmpOk_int
theorem gNeI : gNe (.int i) (.int j) = .ok (.bl (!decide (i = j))) := gNe_of cmpOk_int cmpOk_int
theorem gEqS : gEq (.str s) (.str t) = .ok (.bl (decide (s = t))) := gEq_of cmpOk_str cmpOk_str
theorem gNeS : gNe (.str s) (.str t) = .ok (.bl (!decide (s = t))) := gNe_of cmpOk_str cmpOk_str
theorem gEqR {d : D} (h : flat d = true) : gEq (.rep d) (.rep d) = .ok (.bl true) := by
  show (if idn d d = true then _ else _) = _
  rw [if_pos (idn_refl d h)]
theorem gNeR {d : D} (h : flat d = true) : gNe (.rep d) (.rep d) = .ok (.bl false) := by
  show (if idn d d = true then _ else _) = _
  rw [if_pos (idn_refl d h)]
end
mutual
theorem eqv_refl : ∀ x : D, flat x = true → eqv x x = true
  | .lst xs, h => by
    simp only [flat] at h
    simp only [eqv, eqvAll_refl xs h]
  | .tup xs, h => by
    simp only [flat] at h
    simp only [eqv, eqvAll_refl xs h]
  | .non, _ => by simp only [eqv]
  | .bl _, _ => by simp only [eqv, beq_self_eq_true]
  | .int _, _ => by simp only [eqv, decide_true]
  | .str _, _ => by simp only [eqv, decide_true]
  | .dct _, h => by simp only [flat, Bool.false_eq_true] at h
  | .exc _ _, h => by simp only [flat, Bool.false_eq_true] at h
  | .scr _, h => by simp only [flat, Bool.false_eq_true] at h
  | .rep _, h => by simp only [flat, Bool.false_eq_true] at h
theorem eqvAll_refl : ∀ xs : List D, flatAll xs = true → eqvAll xs xs = true
  | [], _ => by simp only [eqvAll]
  | x :: xs, h => by
    simp only [flatAll, Bool.and_eq_true] at h
    simp only [eqvAll, eqv_refl x h.1, eqvAll_refl xs h.2, Bool.and_self]
end
theorem gEq_self {x : D} (h : cmpOk x = true) : gEq x x = .ok (.bl true) := by
  rw [gEq_of h h, eqv_refl x (by simp only [cmpOk, Bool.and_eq_true] at h; exact h.1)]
theorem gNe_self {x : D} (h : cmpOk x = true) : gNe x x = .ok (.bl false) := by
  rw [gNe_of h h, eqv_refl x (by simp only [cmpOk, Bool.and_eq_true] at h; exact h.1)]
  rfl
theorem eqv_ints : ∀ a b : List Int, eqvAll (a.map .int) (b.map .int) = decide (a = b)
  | [], [] => by simp [eqvAll]
  | [], _ :: _ => by simp [eqvAll]
  | _ :: _, [] => by simp [eqvAll]
  | x :: a, y :: b => by
    rw [List.map_cons, List.map_cons, eqvAll, eqv_ints a b, Bool.eq_iff_iff]
    simp [eqv]
theorem eqv_strs : ∀ a b : List (List Nat), eqvAll (a.map .str) (b.map .str) = decide (a = b)
  | [], [] => by simp [eqvAll]
  | [], _ :: _ => by simp [eqvAll]
  | _ :: _, [] => by simp [eqvAll]
  | x :: a, y :: b => by
    rw [List.map_cons, List.map_cons, eqvAll, eqv_strs a b, Bool.eq_iff_iff]
    simp [eqv]
theorem flat_ints {α : Type} (f : α → Int) (l : List α) : flatAll (l.map fun x => .int (f x)) = true := by
  induction l with
  | nil => rfl
  | cons x l ih => simpa [flatAll, flat] using ih
theorem flat_strs {α : Type} (f : α → List Nat) (l : List α) : flatAll (l.map fun x => .str (f x)) = true := by
  induction l with
  | nil => rfl
  | cons x l ih => simpa [flatAll, flat] using ih
theorem flat_map {α : Type} (f : α → D) (l : List α) (h : ∀ x ∈ l, flat (f x) = true) : flatAll (l.map f) = true := by
  induction l with
  | nil => rfl
  | cons x l ih => simpa [flatAll, h x (by simp)] using ih fun y hy => h y (List.mem_cons_of_mem _ hy)
theorem dep_map {α : Type} (f : α → D) (n : Nat) (l : List α) (h : ∀ x ∈ l, dep (f x) ≤ n) : depAll (l.map f) ≤ n := by
  induction l with
  | nil => exact Nat.zero_le _
  | cons x l ih =>
    simp only [List.map_cons, depAll]
    exact Nat.max_le.mpr ⟨h x (by simp), ih fun y hy => h y (List.mem_cons_of_mem _ hy)⟩
theorem cmpOk_lst {α : Type} (f : α → D) (n : Nat) (l : List α) (hn : n ≤ 59) (h : ∀ x ∈ l, flat (f x) = true) (h2 : ∀ x ∈ l, dep (f x) ≤ n) : cmpOk (.lst (l.map f)) = true := by
  have h3 := dep_map f n l h2
  have h4 : dep (.lst (l.map f)) ≤ 60 := by
    rw [dep]
    omega
  have h5 : flat (.lst (l.map f)) = true := by
    rw [flat]
    exact flat_map f l h
  unfold cmpOk
  rw [h5, decide_eq_true h4]
  rfl
theorem cmpOk_ints {α : Type} (f : α → Int) (l : List α) : cmpOk (.lst (l.map fun x => .int (f x))) = true := cmpOk_lst _ 0 l (by decide) (fun _ _ => rfl) (fun _ _ => Nat.le_refl _)
theorem cmpOk_strs {α : Type} (f : α → List Nat) (l : List α) : cmpOk (.lst (l.map fun x => .str (f x))) = true := cmpOk_lst _ 0 l (by decide) (fun _ _ => rfl) (fun _ _ => Nat.le_refl _)

/-! ### comprehensions -/
theorem lcL_map {α : Type} {f : D → R (Option D)} {mk h : α → D} : ∀ {l : List α}, (∀ x ∈ l, f (mk x) = .ok (some (h x))) → lcL f (l.map mk) = .ok (l.map h)
  | [], _ => rfl
  | x :: l, H => by
    rw [List.map_cons, lcL, H x List.mem_cons_self]
    show (lcL f (l.map mk)).bind _ = _
    rw [lcL_map fun y hy => H y (List.mem_cons_of_mem _ hy)]
    rfl
theorem lcL_filter {α : Type} {f : D → R (Option D)} {mk h : α → D} {p : α → Bool} : ∀ {l : List α}, (∀ x ∈ l, f (mk x) = .ok (if p x then some (h x) else none)) → lcL f (l.map mk) = .ok ((l.filter p).map h)
  | [], _ => rfl
  | x :: l, H => by
    rw [List.map_cons, lcL, H x List.mem_cons_self]
    show (lcL f (l.map mk)).bind _ = _
    rw [lcL_filter fun y hy => H y (List.mem_cons_of_mem _ hy), List.filter_cons]
    cases p x <;> rfl
theorem cLC_map {α : Type} {vs : List Nat} {it : En → R (List D)} {g : D → En → R En} {t : En → R Bool} {el : En → R D} {ρ : En} (l : List α) (mk h : α → D) (hi : it ρ = .ok (l.map mk)) (hb : ∀ x ∈ l, lcTurn g t el (wipeE ρ vs) (mk x) = .ok (some (h x))) : cLC vs it g t el ρ = .ok (.lst (l.map h)) := by
  unfold cLC
  rw [hi]
  show (lcL _ (l.map mk)).bind _ = _
  rw [lcL_map hb]
  rfl
theorem cLC_filter {α : Type} {vs : List Nat} {it : En → R (List D)} {g : D → En → R En} {t : En → R Bool} {el : En → R D} {ρ : En} (l : List α) (mk h : α → D) (p : α → Bool) (hi : it ρ = .ok (l.map mk)) (hb : ∀ x ∈ l, lcTurn g t el (wipeE ρ vs) (mk x) = .ok (if p x then some (h x) else none)) : cLC vs it g t el ρ = .ok (.lst ((l.filter p).map h)) := by
  unfold cLC
  rw [hi]
  show (lcL _ (l.map mk)).bind _ = _
  rw [lcL_filter hb]
  rfl
theorem lcTurn_ok {g : D → En → R En} {t : En → R Bool} {el : En → R D} {ρ0 ρ2 : En} {d y : D} (h1 : g d ρ0 = .ok ρ2) (h2 : t ρ2 = .ok true) (h3 : el ρ2 = .ok y) : lcTurn g t el ρ0 d = .ok (some y) := by
  unfold lcTurn
  rw [h1]
  show noR ((t ρ2).bind _) = _
  rw [h2]
  show noR ((el ρ2).bind _) = _
  rw [h3]
  rfl
theorem lcTurn_if {g : D → En → R En} {t : En → R Bool} {el : En → R D} {ρ0 ρ2 : En} {d y : D} {k : Bool} (h1 : g d ρ0 = .ok ρ2) (h2 : t ρ2 = .ok k) (h3 : el ρ2 = .ok y) : lcTurn g t el ρ0 d = .ok (if k then some y else none) := by
  unfold lcTurn
  rw [h1]
  show noR ((t ρ2).bind _) = _
  rw [h2]
  cases k with
  | false => rfl
  | true =>
    show noR ((el ρ2).bind _) = _
    rw [h3]
    rfl
theorem lcB_map {α : Type} {f : D → R (List D)} {mk : α → D} {h : α → List D} : ∀ {l : List α}, (∀ x ∈ l, f (mk x) = .ok (h x)) → lcB f (l.map mk) = .ok (l.flatMap h)
  | [], _ => rfl
  | x :: l, H => by
    rw [List.map_cons, lcB, H x List.mem_cons_self]
    show (lcB f (l.map mk)).bind _ = _
    rw [lcB_map fun y hy => H y (List.mem_cons_of_mem _ hy)]
    rfl

/-! ### loops -/
/-- a loop that keeps I of what is done -/
theorem forL_inv {α : Type} {vs : List Nat} {g : D → En → R En} {body : SF} {mk : α → D} (I : List α → En → List Nat → Prop) : ∀ (rest done : List α) (ρ : En) (own : List Nat), I done ρ own →
    (∀ (d1 : List α) (x : α) (d2 : List α), done ++ rest = d1 ++ x :: d2 → ∀ ρ own, I d1 ρ own → ∃ ρ1 ρ' own', g (mk x) ρ = .ok ρ1 ∧ (body ρ1 (sansO own vs) = .ok (.nx ρ' own') ∨ body ρ1 (sansO own vs) = .ok (.ct ρ' own')) ∧ I (d1 ++ [x]) ρ' own') →
    ∃ ρ' own', forL vs g body (rest.map mk) ρ own = .ok (.nx ρ' own') ∧ I (done ++ rest) ρ' own'
  | [], done, ρ, own, h0, _ => ⟨ρ, own, rfl, by simpa using h0⟩
  | x :: rest, done, ρ, own, h0, hs => by
    obtain ⟨ρ1, ρ2, own2, e1, e2, h2⟩ := hs done x rest rfl ρ own h0
    obtain ⟨ρ3, own3, e3, h3⟩ := forL_inv I rest (done ++ [x]) ρ2 own2 h2 fun d1 y d2 e => hs d1 y d2 (by simpa using e)
    refine ⟨ρ3, own3, ?_, by simpa using h3⟩
    rw [List.map_cons, forL, e1]
    show onO _ (body ρ1 (sansO own vs)) = _
    rcases e2 with e2 | e2 <;> rw [e2] <;> exact e3
theorem sfFor_inv {α : Type} {vs lk : List Nat} {fi : En → R (List D)} {g : D → En → R En} {body : SF} {ρ : En} {own : List Nat} (l : List α) (mk : α → D) (I : List α → En → List Nat → Prop) (hi : fi ρ = .ok (l.map mk)) (h0 : I [] ρ (sansO own lk))
    (hs : ∀ (d1 : List α) (x : α) (d2 : List α), l = d1 ++ x :: d2 → ∀ ρ own, I d1 ρ own → ∃ ρ1 ρ' own', g (mk x) ρ = .ok ρ1 ∧ (body ρ1 (sansO own vs) = .ok (.nx ρ' own') ∨ body ρ1 (sansO own vs) = .ok (.ct ρ' own')) ∧ I (d1 ++ [x]) ρ' own') :
    ∃ ρ' own', sfFor vs lk fi g body ρ own = .ok (.nx ρ' own') ∧ I l ρ' own' := by
  obtain ⟨ρ', own', e, h⟩ := forL_inv I l [] ρ (sansO own lk) h0 (fun d1 x d2 e => hs d1 x d2 (by simpa using e))
  refine ⟨ρ', own', ?_, by simpa using h⟩
  unfold sfFor
  rw [hi]
  exact e

/-! ### lists of one kind -/
theorem intsOf_map {α : Type} (f : α → Int) : ∀ l : List α, intsOf (l.map fun x => .int (f x)) = some (l.map f)
  | [] => rfl
  | x :: l => by
    rw [List.map_cons, intsOf, intsOf_map f l]
    rfl
theorem blsOf_map {α : Type} (f : α → Bool) : ∀ l : List α, blsOf (l.map fun x => .bl (f x)) = some (l.map f)
  | [] => rfl
  | x :: l => by
    rw [List.map_cons, blsOf, blsOf_map f l]
    rfl
theorem strsOf_map {α : Type} (f : α → List Nat) : ∀ l : List α, strsOf (l.map fun x => .str (f x)) = some (l.map f)
  | [] => rfl
  | x :: l => by
    rw [List.map_cons, strsOf, strsOf_map f l]
    rfl
theorem rng0 (n : Nat) : rngD 0 n = (List.range n).map fun (k : Nat) => D.int (k : Int) := by
  unfold rngD
  congr 1
  funext k
  rw [Int.zero_add]
theorem range1_nat (n : Nat) (h : n ≤ big) : range1 [.int (n : Int)] = .ok ((List.range n).map fun (k : Nat) => D.int (k : Int)) := by
  have e : ((n : Int)).toNat = n := Int.toNat_natCast n
  have h2 : (-4611686018427387904 : Int) ≤ (n : Int) := Int.le_trans (by decide) (Int.natCast_nonneg n)
  simp only [range1, e]
  rw [if_pos ⟨h2, h⟩, rng0]
theorem gAll_bls {α : Type} (l : List α) (f : α → Bool) : gAll [.lst (l.map fun x => .bl (f x))] = .ok (.bl (l.all f)) := by
  simp only [gAll, blsOf_map, List.all_map]
  rfl
theorem gAny_bls {α : Type} (l : List α) (f : α → Bool) : gAny [.lst (l.map fun x => .bl (f x))] = .ok (.bl (l.any f)) := by
  simp only [gAny, blsOf_map, List.any_map]
  rfl
theorem gSum_ints {α : Type} (l : List α) (f : α → Int) : gSum [.lst (l.map fun x => .int (f x))] = .ok (.int (l.map f).sum) := by
  simp only [gSum, intsOf_map]
/-- the list of a text -/
abbrev dS (s : List Nat) : D := .str s
abbrev dSs (l : List (List Nat)) : D := .lst (l.map .str)
abbrev dIs (l : List Int) : D := .lst (l.map .int)
abbrev dCs (l : List Nat) : D := .lst (l.map fun c => .str [c])
theorem atI_nat' {α : Type} (l : List α) (k : Nat) (h : k < l.length) : atI l (k : Int) = some (l[k]) := by
  rw [atI_nat (v := l[k]) (List.getElem?_eq_getElem h)]
theorem gIx_lst {l : List D} {k : Nat} {d : D} (h : l[k]? = some d) : gIx (.lst l) (.int (k : Int)) = .ok d := by
  simp only [gIx, atI_nat h]
theorem gIx_str {l : List Nat} {k : Nat} {d : Nat} (h : l[k]? = some d) : gIx (.str l) (.int (k : Int)) = .ok (.str [d]) := by
  simp only [gIx, atI_nat h]
theorem gIx_tup {l : List D} {k : Nat} {d : D} (h : l[k]? = some d) : gIx (.tup l) (.int (k : Int)) = .ok d := by
  simp only [gIx, atI_nat h]
theorem zipIdx_map' {α β : Type} (f : α → β) : ∀ (l : List α) (n : Nat), (l.map f).zipIdx n = (l.zipIdx n).map fun p => (f p.1, p.2)
  | [], _ => rfl
  | x :: l, n => by simp only [List.map_cons, List.zipIdx_cons, zipIdx_map' f l]
theorem enum_map {α : Type} (f : α → D) (l : List α) : enum1 [.lst (l.map f)] = .ok (l.zipIdx.map fun p => .tup [.int (p.2 : Int), f p.1]) := by
  simp only [enum1, enumD, zipIdx_map' f l 0, List.map_map]
  rfl
theorem zip_map {α β : Type} (f : α → D) (g : β → D) : ∀ (l : List α) (m : List β), zipD (l.map f) (m.map g) = (l.zip m).map fun p => .tup [f p.1, g p.2]
  | [], m => by simp [zipD]
  | x :: l, [] => by simp [zipD]
  | x :: l, y :: m => by
    have ih := zip_map f g l m
    simp only [zipD, List.map_cons, List.zipWith_cons_cons, List.zip_cons_cons] at ih ⊢
    rw [ih]
theorem zip2_map {α β : Type} (f : α → D) (g : β → D) (l : List α) (m : List β) : zip2 [.lst (l.map f), .lst (m.map g)] = .ok ((l.zip m).map fun p => .tup [f p.1, g p.2]) := by
  simp only [zip2, zip_map]
theorem ix_map {α : Type} (f : α → D) {l : List α} {k : Nat} {x : α} (h : l[k]? = some x) : gIx (.lst (l.map f)) (.int (k : Int)) = .ok (f x) := gIx_lst (by rw [List.getElem?_map, h]; rfl)
abbrev dNs (l : List Nat) : D := .lst (l.map fun (n : Nat) => D.int (n : Int))
theorem seqO_ex {g h : SF} {ρ : En} {own : List Nat} {I : En → List Nat → Prop} {r : R Out} (hf : ∃ ρ' own', g ρ own = .ok (.nx ρ' own') ∧ I ρ' own') (k : ∀ ρ' own', I ρ' own' → h ρ' own' = r) : seqO g h ρ own = r := by
  obtain ⟨ρ', own', e, hi⟩ := hf
  rw [seqO_nx e]
  exact k ρ' own' hi
theorem runB_ex {n N : Nat} {body : SF} {ds : List D} {I : En → List Nat → Prop} (hl : ds.length = n) (h : ∃ ρ own, body (ds.map some ++ List.replicate (N - n) none) [] = .ok (.nx ρ own) ∧ I ρ own) : runB n N body ds = .ok .non := by
  obtain ⟨ρ, own, e, _⟩ := h
  exact runB_nx hl e
/-- the end of a body whose last statement is a loop -/
theorem seqO_end {g h : SF} {ρ ρ' : En} {own own' : List Nat} {I : En → List Nat → Prop} (e : g ρ own = .ok (.nx ρ' own')) (k : ∃ ρ2 own2, h ρ' own' = .ok (.nx ρ2 own2) ∧ I ρ2 own2) : ∃ ρ2 own2, seqO g h ρ own = .ok (.nx ρ2 own2) ∧ I ρ2 own2 := by
  rw [seqO_nx e]
  exact k

/-! ### the end of a statement -/
/-- it goes on, in a state of I -/
def Go (r : R Out) (I : En → List Nat → Prop) : Prop := ∃ ρ own, r = .ok (.nx ρ own) ∧ I ρ own
/-- it goes on, or to the next turn -/
def GoC (r : R Out) (I : En → List Nat → Prop) : Prop := ∃ ρ own, (r = .ok (.nx ρ own) ∨ r = .ok (.ct ρ own)) ∧ I ρ own
section
variable {g h : SF} {ρ ρ1 : En} {own own1 : List Nat} {I J : En → List Nat → Prop} {i : Nat} {lk : List Nat} {fa : En → R D} {d : D} {t : En → R Bool} {k : Bool} {r : R Out}
theorem Go.c (h : Go r I) : GoC r I := by
  obtain ⟨ρ, own, e, hi⟩ := h
  exact ⟨ρ, own, .inl e, hi⟩
theorem go_ct (hi : I ρ own) : GoC (sfCt ρ own) I := ⟨ρ, own, .inr rfl, hi⟩
theorem go_pass (hi : I ρ own) : Go (sfN ρ own) I := ⟨ρ, own, rfl, hi⟩
theorem go_set (e : fa ρ = .ok d) (hi : I (ρ.set i (some d)) (dropO (keepO own lk d) i)) : Go (sfSet i lk fa ρ own) I := ⟨_, _, sfSet_ok e, hi⟩
theorem go_new (e : fa ρ = .ok d) (hl : i < ρ.length) (hi : I (ρ.set i (some d)) (i :: dropO (keepO own lk d) i)) : Go (sfNew i lk fa ρ own) I := ⟨_, _, sfNew_ok e hl, hi⟩
theorem go_ex (e : fa ρ = .ok d) (hi : I ρ own) : Go (sfEx fa ρ own) I := ⟨_, _, sfEx_ok e, hi⟩
theorem go_if (e : t ρ = .ok k) (h1 : k = true → Go (g ρ own) I) (h2 : k = false → Go (h ρ own) I) : Go (sfIf t g h ρ own) I := by
  cases k with
  | true => rw [sfIf_t e]; exact h1 rfl
  | false => rw [sfIf_f e]; exact h2 rfl
theorem go_ifC (e : t ρ = .ok k) (h1 : k = true → GoC (g ρ own) I) (h2 : k = false → GoC (h ρ own) I) : GoC (sfIf t g h ρ own) I := by
  cases k with
  | true => rw [sfIf_t e]; exact h1 rfl
  | false => rw [sfIf_f e]; exact h2 rfl
theorem go_ifF (e : t ρ = .ok false) (hi : I ρ own) : Go (sfIf t g sfN ρ own) I := ⟨_, _, sfIf_fN e, hi⟩
theorem go_seq (h1 : Go (g ρ own) J) (h2 : ∀ ρ own, J ρ own → Go (h ρ own) I) : Go (seqO g h ρ own) I := by
  obtain ⟨ρ1, own1, e, hj⟩ := h1
  rw [seqO_nx e]
  exact h2 ρ1 own1 hj
theorem go_seqC (h1 : Go (g ρ own) J) (h2 : ∀ ρ own, J ρ own → GoC (h ρ own) I) : GoC (seqO g h ρ own) I := by
  obtain ⟨ρ1, own1, e, hj⟩ := h1
  rw [seqO_nx e]
  exact h2 ρ1 own1 hj
theorem rt_seq (h1 : Go (g ρ own) J) (h2 : ∀ ρ own, J ρ own → h ρ own = r) : seqO g h ρ own = r := by
  obtain ⟨ρ1, own1, e, hj⟩ := h1
  rw [seqO_nx e]
  exact h2 ρ1 own1 hj
theorem go_for {α : Type} {vs : List Nat} {fi : En → R (List D)} {tg : D → En → R En} {body : SF} (l : List α) (mk : α → D) (J : List α → En → List Nat → Prop) (hi : fi ρ = .ok (l.map mk)) (h0 : J [] ρ (sansO own lk))
    (hs : ∀ (d1 : List α) (x : α) (d2 : List α), l = d1 ++ x :: d2 → ∀ ρ own, J d1 ρ own → ∃ ρ1, tg (mk x) ρ = .ok ρ1 ∧ GoC (body ρ1 (sansO own vs)) (J (d1 ++ [x]))) (k : ∀ ρ own, J l ρ own → I ρ own) : Go (sfFor vs lk fi tg body ρ own) I := by
  obtain ⟨ρ', own', e, h⟩ := sfFor_inv (vs := vs) (lk := lk) (body := body) (g := tg) l mk J hi h0 fun d1 x d2 e ρ own hj => by
    obtain ⟨ρ1, e1, ρ2, own2, e2, h2⟩ := hs d1 x d2 e ρ own hj
    exact ⟨ρ1, ρ2, own2, e1, e2, h2⟩
  exact ⟨ρ', own', e, k _ _ h⟩
theorem runB_go {n N : Nat} {body : SF} {ds : List D} (hl : ds.length = n) (h : Go (body (ds.map some ++ List.replicate (N - n) none) []) I) : runB n N body ds = .ok .non := by
  obtain ⟨ρ, own, e, _⟩ := h
  exact runB_nx hl e
theorem gos_ex (e : fa ρ = .ok d) (k : Go (h ρ own) I) : Go (seqO (sfEx fa) h ρ own) I := by
  rw [seqO_nx (sfEx_ok e)]
  exact k
theorem gos_set (e : fa ρ = .ok d) (k : Go (h (ρ.set i (some d)) (dropO (keepO own lk d) i)) I) : Go (seqO (sfSet i lk fa) h ρ own) I := by
  rw [seqO_nx (sfSet_ok e)]
  exact k
theorem gos_new (e : fa ρ = .ok d) (hl : i < ρ.length) (k : Go (h (ρ.set i (some d)) (i :: dropO (keepO own lk d) i)) I) : Go (seqO (sfNew i lk fa) h ρ own) I := by
  rw [seqO_nx (sfNew_ok e hl)]
  exact k
theorem gos_ifF (e : t ρ = .ok false) (k : Go (h ρ own) I) : Go (seqO (sfIf t g sfN) h ρ own) I := by
  rw [seqO_nx (sfIf_fN e)]
  exact k
theorem rts_ex (e : fa ρ = .ok d) (k : h ρ own = r) : seqO (sfEx fa) h ρ own = r := (seqO_nx (sfEx_ok e)).trans k
theorem rts_set (e : fa ρ = .ok d) (k : h (ρ.set i (some d)) (dropO (keepO own lk d) i) = r) : seqO (sfSet i lk fa) h ρ own = r := (seqO_nx (sfSet_ok e)).trans k
theorem rts_new (e : fa ρ = .ok d) (hl : i < ρ.length) (k : h (ρ.set i (some d)) (i :: dropO (keepO own lk d) i) = r) : seqO (sfNew i lk fa) h ρ own = r := (seqO_nx (sfNew_ok e hl)).trans k
theorem rts_fresh (e : fa ρ = .ok d) (hl : i < ρ.length) (h1 : fresh ρ lk d = true) (h2 : fresh1 d = true) (k : h (ρ.set i (some d)) (i :: dropO (keepO own lk d) i) = r) : seqO (sfFresh i lk fa) h ρ own = r := (seqO_nx (sfFresh_ok e hl h1 h2)).trans k
theorem rts_ifF (e : t ρ = .ok false) (k : h ρ own = r) : seqO (sfIf t g sfN) h ρ own = r := (seqO_nx (sfIf_fN e)).trans k
theorem sfApp_ok {xs : List D} (e : ρ[i]? = some (some (.lst xs))) (ed : fa ρ = .ok d) (hk : i ∈ keepO own lk d) (hl : xs.length + 1 ≤ big) : sfApp i lk fa ρ own = .ok (.nx (ρ.set i (some (.lst (xs ++ [d])))) (keepO own lk d)) := by
  unfold sfApp
  rw [e]
  show (fa ρ).bind _ = _
  rw [ed, bo]
  exact if_pos ⟨by simpa using hk, hl⟩
theorem go_app {xs : List D} (e : ρ[i]? = some (some (.lst xs))) (ed : fa ρ = .ok d) (hk : i ∈ keepO own lk d) (hl : xs.length + 1 ≤ big) (hi : I (ρ.set i (some (.lst (xs ++ [d])))) (keepO own lk d)) : Go (sfApp i lk fa ρ own) I := ⟨_, _, sfApp_ok e ed hk hl, hi⟩
theorem gos_app {xs : List D} (e : ρ[i]? = some (some (.lst xs))) (ed : fa ρ = .ok d) (hk : i ∈ keepO own lk d) (hl : xs.length + 1 ≤ big) (k : Go (h (ρ.set i (some (.lst (xs ++ [d])))) (keepO own lk d)) I) : Go (seqO (sfApp i lk fa) h ρ own) I := by
  rw [seqO_nx (sfApp_ok e ed hk hl)]
  exact k
theorem rts_app {xs : List D} (e : ρ[i]? = some (some (.lst xs))) (ed : fa ρ = .ok d) (hk : i ∈ keepO own lk d) (hl : xs.length + 1 ≤ big) (k : h (ρ.set i (some (.lst (xs ++ [d])))) (keepO own lk d) = r) : seqO (sfApp i lk fa) h ρ own = r := (seqO_nx (sfApp_ok e ed hk hl)).trans k
theorem in_sansO {vs : List Nat} (h : i ∈ own) (hv : i ∉ vs) : i ∈ sansO own vs := List.mem_filter.mpr ⟨h, by simpa using hv⟩
theorem in_dropO {j : Nat} (h : i ∈ own) (hv : i ≠ j) : i ∈ dropO own j := List.mem_filter.mpr ⟨h, by simpa using hv⟩
theorem in_keepA (h : i ∈ own) (ha : atomic d = true) : i ∈ keepO own lk d := by
  unfold keepO
  rw [if_pos ha]
  exact h
theorem in_keepO (h : i ∈ own) (ha : i ∉ lk) : i ∈ keepO own lk d := by
  unfold keepO
  split
  · exact h
  · exact List.mem_filter.mpr ⟨h, by simpa using ha⟩
theorem gModI {i j : Int} (h : 0 < j) : gMod (.int i) (.int j) = .ok (.int (i % j)) := if_pos h
theorem gDivI {i j : Int} (h : 0 < j ∧ j < 1073741824) : gDiv (.int i) (.int j) = .ok (.int (i / j)) := if_pos h
theorem gMulR {i j : Int} (h : -18446744073709551616 < j ∧ j < 18446744073709551616) : gMul (.int i) (.int j) = .ok (.int (i * j)) := if_pos (.inr h)
theorem gMulLft {i j : Int} (h : -18446744073709551616 < i ∧ i < 18446744073709551616) : gMul (.int i) (.int j) = .ok (.int (i * j)) := if_pos (.inl h)
theorem gMin2I {i j : Int} : gMin [.int i, .int j] = .ok (.int (if j < i then j else i)) := rfl
theorem gMax2I {i j : Int} : gMax [.int i, .int j] = .ok (.int (if j > i then j else i)) := rfl
theorem gIx_scr {ns : List Int} {k : Nat} {n : Int} (h : ns[k]? = some n) : gIx (.scr ns) (.int (k : Int)) = .ok (.int n) := by
  simp only [gIx, L2.atI_nat h]
end
theorem gMin_lst {x : D} {xs : List D} (h : alikeC (x :: xs)) : gMin [.lst (x :: xs)] = .ok (minE x xs) := by
  simp only [gMM]
  exact if_pos h
theorem gMax_lst {x : D} {xs : List D} (h : alikeC (x :: xs)) : gMax [.lst (x :: xs)] = .ok (maxE x xs) := by
  simp only [gMM]
  exact if_pos h
theorem rts_poke {la : List Nat} {fa fb : En → R D} {h : SF} {ρ : En} {own : List Nat} {xs : List D} {d : D} {r : R Out} (e : fa ρ = .ok (.lst xs)) (f : fresh ρ la (.lst xs) = true) (hl : xs.length + 1 ≤ big) (eb : fb ρ = .ok d) (k : h ρ own = r) : seqO (sfPoke la fa fb) h ρ own = r := by
  refine (seqO_nx ?_).trans k
  unfold sfPoke
  rw [e, bo]
  show (if _ then _ else _) = _
  rw [if_pos ⟨f, hl⟩, eb]
  rfl
end Ev

namespace K59
open PySem PySem.Spec L2 Ev
/-! ### the text -/
def topS (i : Nat) : Stmt := PySem.Challenge.pw_wordsatplay_k59_whole_texts_that_count.main.body.getD i (.Pass ⟨0, 0, 0, 0⟩)
abbrev s_is_word : Stmt := topS 10
theorem sc_is_word : FnScope ["text", "letter"] ["text"] (defScope s_is_word) := ⟨rfl, rfl, rfl, by decide +kernel, rfl, by decide +kernel, by decide +kernel⟩
abbrev s_check_numbers : Stmt := topS 13
theorem sc_check_numbers : FnScope ["words", "k", "word"] ["words"] (defScope s_check_numbers) := ⟨rfl, rfl, rfl, by decide +kernel, rfl, by decide +kernel, by decide +kernel⟩
abbrev s_check_frame : Stmt := topS 17
theorem sc_check_frame : FnScope ["words", "frame", "letters", "k", "letter", "sign"] ["words", "frame", "letters"] (defScope s_check_frame) := ⟨rfl, rfl, rfl, by decide +kernel, rfl, by decide +kernel, by decide +kernel⟩
abbrev s_text_of : Stmt := topS 18
theorem sc_text_of : FnScope ["words", "frame", "letters", "filling", "found", "number", "letter"] ["words", "frame", "letters", "filling"] (defScope s_text_of) := ⟨rfl, rfl, rfl, by decide +kernel, rfl, by decide +kernel, by decide +kernel⟩
abbrev s_told_text : Stmt := topS 19
theorem sc_told_text : FnScope ["words", "frame", "letters", "filling", "number"] ["words", "frame", "letters", "filling"] (defScope s_told_text) := ⟨rfl, rfl, rfl, by decide +kernel, rfl, by decide +kernel, by decide +kernel⟩
abbrev s_counts_of : Stmt := topS 20
theorem sc_counts_of : FnScope ["words", "frame", "letters", "filling", "text", "letter"] ["words", "frame", "letters", "filling"] (defScope s_counts_of) := ⟨rfl, rfl, rfl, by decide +kernel, rfl, by decide +kernel, by decide +kernel⟩
abbrev s_is_filling : Stmt := topS 21
theorem sc_is_filling : FnScope ["words", "letters", "filling", "number"] ["words", "letters", "filling"] (defScope s_is_filling) := ⟨rfl, rfl, rfl, by decide +kernel, rfl, by decide +kernel, by decide +kernel⟩
abbrev s_is_true : Stmt := topS 22
theorem sc_is_true : FnScope ["words", "frame", "letters", "filling"] ["words", "frame", "letters", "filling"] (defScope s_is_true) := ⟨rfl, rfl, rfl, by decide +kernel, rfl, by decide +kernel, by decide +kernel⟩
abbrev s_fillings_of : Stmt := topS 23
theorem sc_fillings_of : FnScope ["words", "letters", "found", "_", "told", "number"] ["words", "letters"] (defScope s_fillings_of) := ⟨rfl, rfl, rfl, by decide +kernel, rfl, by decide +kernel, by decide +kernel⟩
abbrev s_true_fillings : Stmt := topS 24
theorem sc_true_fillings : FnScope ["words", "frame", "letters", "told"] ["words", "frame", "letters"] (defScope s_true_fillings) := ⟨rfl, rfl, rfl, by decide +kernel, rfl, by decide +kernel, by decide +kernel⟩
abbrev s_nearest : Stmt := topS 25
theorem sc_nearest : FnScope ["words", "frame", "letters", "best", "told", "counts", "far", "one", "two"] ["words", "frame", "letters"] (defScope s_nearest) := ⟨rfl, rfl, rfl, by decide +kernel, rfl, by decide +kernel, by decide +kernel⟩
abbrev s__law_draws : Stmt := topS 27
theorem sc__law_draws : FnScope ["script", "draws", "k", "rest", "turn", "mixed"] ["script"] (defScope s__law_draws) := ⟨rfl, rfl, rfl, by decide +kernel, rfl, by decide +kernel, by decide +kernel⟩
abbrev s__law_mix : Stmt := topS 28
theorem sc__law_mix : FnScope ["draws", "k", "many", "cell"] ["draws", "k", "many"] (defScope s__law_mix) := ⟨rfl, rfl, rfl, by decide +kernel, rfl, by decide +kernel, by decide +kernel⟩
abbrev s__law_text : Stmt := topS 29
theorem sc__law_text : FnScope ["words", "frame", "letters", "filling", "k"] ["words", "frame", "letters", "filling"] (defScope s__law_text) := ⟨rfl, rfl, rfl, by decide +kernel, rfl, by decide +kernel, by decide +kernel⟩
abbrev s__law_counts : Stmt := topS 30
theorem sc__law_counts : FnScope ["words", "frame", "letters", "filling", "text", "letter", "sign"] ["words", "frame", "letters", "filling"] (defScope s__law_counts) := ⟨rfl, rfl, rfl, by decide +kernel, rfl, by decide +kernel, by decide +kernel⟩
abbrev s_law : Stmt := topS 31
theorem sc_law : FnScope ["script", "draws", "letters", "words", "t", "size", "frame", "kept", "every", "letter", "longer", "told", "rows", "best", "good", "found", "tries", "right", "j", "number", "k", "one", "two", "far", "sign"] ["script"] (defScope s_law) := ⟨rfl, rfl, rfl, by decide +kernel, rfl, by decide +kernel, by decide +kernel⟩
/-- what the module holds -/
structure Fx (mg : Str → Option Value) : Prop where
  b_abs : mg "abs" = none
  b_all : mg "all" = none
  b_enumerate : mg "enumerate" = none
  b_int : mg "int" = none
  b_len : mg "len" = none
  b_list : mg "list" = none
  b_min : mg "min" = none
  b_range : mg "range" = none
  b_repr : mg "repr" = none
  b_sum : mg "sum" = none
  b_zip : mg "zip" = none
  g_LETTERS : ∃ t, mg "LETTERS" = some (.str "abcdefghijklmnopqrstuvwxyz" t)
  g_MOST_COUNTED : ∃ t, mg "MOST_COUNTED" = some (.int 3 t)
  g_MOST_LETTERS : ∃ t, mg "MOST_LETTERS" = some (.int 8 t)
  g_MOST_NUMBERS : ∃ t, mg "MOST_NUMBERS" = some (.int 16 t)
  g_MOST_SIGNS : ∃ t, mg "MOST_SIGNS" = some (.int 60 t)
/-! ### the functions -/
/- is_word: 0=text 1=letter -/
noncomputable def b_is_word : SF := (sfRet (cAnd (cCh gLe gLe (cC (.int 1)) (cA gLen (aC (cV 0) aN)) (cC (.int 8))) (cA gAll (aC (cLC [1] (iA (cV 0)) (gN 1) tY (c2 gIn (cV 1) (cC (.str [97, 98, 99, 100, 101, 102, 103, 104, 105, 106, 107, 108, 109, 110, 111, 112, 113, 114, 115, 116, 117, 118, 119, 120, 121, 122])))) aN))))
noncomputable def fn_is_word : List D → R D := runB 1 2 b_is_word
/- check_numbers: 0=words 1=k 2=word -/
noncomputable def b_check_numbers : SF := (seqO (sfIf (tNotB (cB (cCh gLe gLe (cC (.int 1)) (cA gLen (aC (cV 0) aN)) (cC (.int 16))))) sfStuck sfN)
  (sfFor ([1] ++ ([2] ++ [])) ([0] ++ []) (iF enum1 (aC (cV 0) aN)) (gT 2 (gsC (gN 1) (gsC (gN 2) gsN))) (sfIf (tNotB (cT (cA fn_is_word (aC (cV 2) aN)))) sfStuck sfN)))
noncomputable def fn_check_numbers : List D → R D := runB 1 3 b_check_numbers
/- check_frame: 0=words 1=frame 2=letters 3=k 4=letter 5=sign -/
noncomputable def b_check_frame : SF := (seqO (sfEx (cA fn_check_numbers (aC (cV 0) aN)))
  (seqO (sfIf (tOrB (cB (c2 gGt (cA gLen (aC (cV 1) aN)) (cC (.int 60)))) (tNotB (cT (cA gAll (aC (cLC [5] (iA (cV 1)) (gN 5) tY (c2 gIn (cV 5) (c2 gAdd (cC (.str [97, 98, 99, 100, 101, 102, 103, 104, 105, 106, 107, 108, 109, 110, 111, 112, 113, 114, 115, 116, 117, 118, 119, 120, 121, 122])) (cC (.str [32]))))) aN))))) sfStuck sfN)
  (seqO (sfIf (tNotB (cB (cCh gLe gLe (cC (.int 1)) (cA gLen (aC (cV 2) aN)) (cC (.int 3))))) sfStuck sfN)
  (sfFor ([3] ++ ([4] ++ [])) ([2] ++ []) (iF enum1 (aC (cV 2) aN)) (gT 2 (gsC (gN 3) (gsC (gN 4) gsN))) (sfIf (tOrB (cB (c2 gNe (cA gLen (aC (cV 4) aN)) (cC (.int 1)))) (tOrB (cB (c2 gNotIn (cV 4) (cC (.str [97, 98, 99, 100, 101, 102, 103, 104, 105, 106, 107, 108, 109, 110, 111, 112, 113, 114, 115, 116, 117, 118, 119, 120, 121, 122])))) (tAndB (cB (c2 gGt (cV 3) (cC (.int 0)))) (cB (c2 gGe (c2 gIx (cV 2) (c2 gSub (cV 3) (cC (.int 1)))) (cV 4)))))) sfStuck sfN)))))
noncomputable def fn_check_frame : List D → R D := runB 3 6 b_check_frame
/- text_of: 0=words 1=frame 2=letters 3=filling 4=found 5=number 6=letter -/
noncomputable def b_text_of : SF := (seqO (sfSet 4 [1] (cV 1))
  (seqO (sfFor ([5] ++ ([6] ++ [])) ([3] ++ ([2] ++ [])) (iF zip2 (aC (cV 3) (aC (cV 2) aN))) (gT 2 (gsC (gN 5) (gsC (gN 6) gsN))) (sfSet 4 (((([4] ++ []) ++ ([0] ++ [5])) ++ []) ++ [6]) (c2 gAdd (c2 gAdd (c2 gAdd (c2 gAdd (cV 4) (cC (.str [32]))) (c2 gIx (cV 0) (cV 5))) (cC (.str [32]))) (cV 6))))
  (sfRet (cV 4))))
noncomputable def fn_text_of : List D → R D := runB 4 7 b_text_of
/- told_text: 0=words 1=frame 2=letters 3=filling 4=number -/
noncomputable def b_told_text : SF := (seqO (sfEx (cA fn_check_frame (aC (cV 0) (aC (cV 1) (aC (cV 2) aN)))))
  (seqO (sfIf (cB (c2 gNe (cA gLen (aC (cV 3) aN)) (cA gLen (aC (cV 2) aN)))) sfStuck sfN)
  (seqO (sfFor [4] [3] (iA (cV 3)) (gN 4) (sfIf (tNotB (cB (cCh gLe gLt (cC (.int 0)) (cV 4) (cA gLen (aC (cV 0) aN))))) sfStuck sfN))
  (sfRet (cA fn_text_of (aC (cV 0) (aC (cV 1) (aC (cV 2) (aC (cV 3) aN)))))))))
noncomputable def fn_told_text : List D → R D := runB 4 5 b_told_text
/- counts_of: 0=words 1=frame 2=letters 3=filling 4=text 5=letter -/
noncomputable def b_counts_of : SF := (seqO (sfSet 4 ([0] ++ ([1] ++ ([2] ++ ([3] ++ [])))) (cA fn_text_of (aC (cV 0) (aC (cV 1) (aC (cV 2) (aC (cV 3) aN))))))
  (sfRet (cLC [5] (iA (cV 2)) (gN 5) tY (cMs gCount (cV 4) (cV 5)))))
noncomputable def fn_counts_of : List D → R D := runB 4 6 b_counts_of
/- is_filling: 0=words 1=letters 2=filling 3=number -/
noncomputable def b_is_filling : SF := (sfRet (cAnd (c2 gEq (cA gLen (aC (cV 2) aN)) (cA gLen (aC (cV 1) aN))) (cA gAll (aC (cLC [3] (iA (cV 2)) (gN 3) tY (cCh gLe gLt (cC (.int 0)) (cV 3) (cA gLen (aC (cV 0) aN)))) aN))))
noncomputable def fn_is_filling : List D → R D := runB 3 4 b_is_filling
/- is_true: 0=words 1=frame 2=letters 3=filling -/
noncomputable def b_is_true : SF := (seqO (sfEx (cA fn_check_frame (aC (cV 0) (aC (cV 1) (aC (cV 2) aN)))))
  (sfRet (cAnd (cA fn_is_filling (aC (cV 0) (aC (cV 2) (aC (cV 3) aN)))) (c2 gEq (cA fn_counts_of (aC (cV 0) (aC (cV 1) (aC (cV 2) (aC (cV 3) aN))))) (cA gList (aC (cV 3) aN))))))
noncomputable def fn_is_true : List D → R D := runB 4 4 b_is_true
/- fillings_of: 0=words 1=letters 2=found 3=_ 4=told 5=number -/
noncomputable def b_fillings_of : SF := (seqO (sfNew 2 ([] ++ []) (cLst (aC (cLst aN) aN)))
  (seqO (sfFor [3] [1] (iA (cV 1)) (gN 3) (sfNew 2 ([2] ++ sans ((([0] ++ []) ++ []) ++ sans ([4] ++ ([5] ++ [])) [5]) [4]) (cLC2 [4, 5] (iA (cV 2)) (gN 4) tY (iF range1 (aC (cA gLen (aC (cV 0) aN)) aN)) [5] (gN 5) tY (cLst (aS (cV 4) (aC (cV 5) aN))))))
  (sfRet (cV 2))))
noncomputable def fn_fillings_of : List D → R D := runB 2 6 b_fillings_of
/- true_fillings: 0=words 1=frame 2=letters 3=told -/
noncomputable def b_true_fillings : SF := (seqO (sfEx (cA fn_check_frame (aC (cV 0) (aC (cV 1) (aC (cV 2) aN)))))
  (sfRet (cLC [3] (iA (cA fn_fillings_of (aC (cV 0) (aC (cV 2) aN)))) (gN 3) (cB (c2 gEq (cA fn_counts_of (aC (cV 0) (aC (cV 1) (aC (cV 2) (aC (cV 3) aN))))) (cV 3))) (cV 3))))
noncomputable def fn_true_fillings : List D → R D := runB 3 4 b_true_fillings
/- nearest: 0=words 1=frame 2=letters 3=best 4=told 5=counts 6=far 7=one 8=two -/
noncomputable def b_nearest : SF := (seqO (sfEx (cA fn_check_frame (aC (cV 0) (aC (cV 1) (aC (cV 2) aN)))))
  (seqO (sfSet 3 [] (cC .non))
  (seqO (sfFor [4] ([0] ++ ([2] ++ [])) (iA (cA fn_fillings_of (aC (cV 0) (aC (cV 2) aN)))) (gN 4) (seqO (sfSet 5 ([0] ++ ([1] ++ ([2] ++ ([4] ++ [])))) (cA fn_counts_of (aC (cV 0) (aC (cV 1) (aC (cV 2) (aC (cV 4) aN))))))
  (seqO (sfSet 6 ((([4] ++ ([5] ++ [])) ++ sans (([7] ++ [8]) ++ []) ([7] ++ ([8] ++ []))) ++ []) (cA gSum (aC (cLC [7, 8] (iF zip2 (aC (cV 4) (aC (cV 5) aN))) (gT 2 (gsC (gN 7) (gsC (gN 8) gsN))) tY (cA gAbs (aC (c2 gSub (cV 7) (cV 8)) aN))) aN)))
  (sfIf (tOrB (cB (c2 gIs (cV 3) (cC .non))) (cB (c2 gLt (cV 6) (c2 gIx (cV 3) (cC (.int 0)))))) (sfSet 3 ([6] ++ ([4] ++ [])) (cTup (aC (cV 6) (aC (cV 4) aN)))) sfN))))
  (sfRet (cV 3)))))
noncomputable def fn_nearest : List D → R D := runB 3 9 b_nearest
/- _law_draws: 0=script 1=draws 2=k 3=rest 4=turn 5=mixed -/
noncomputable def b__law_draws : SF := (seqO (sfNew 1 [] (cLst aN))
  (seqO (sfFor [2] (([] ++ (([0] ++ []) ++ [])) ++ []) (iF range1 (aC (cA gMin (aC (cC (.int 63)) (aC (cA gLen (aC (cV 0) aN)) aN))) aN)) (gN 2) (seqO (sfSet 3 (([0] ++ [2]) ++ []) (cA gAbs (aC (c2 gIx (cV 0) (cV 2)) aN)))
  (sfIf (cB (c2 gGe (cV 3) (c2 gPow (cC (.int 10)) (cC (.int 18))))) (sfFor [4] ([] ++ []) (iF range1 (aC (cC (.int 60)) aN)) (gN 4) (sfIf (cB (c2 gGt (cV 3) (cC (.int 0)))) (seqO (sfApp 1 (([3] ++ []) ++ []) (c2 gMod (cA gInt (aC (cV 3) aN)) (cC (.int 65536))))
  (sfSet 3 ([3] ++ []) (c2 gDiv (cV 3) (cC (.int 65536))))) sfN)) (seqO (sfSet 5 (((([3] ++ []) ++ (([2] ++ []) ++ [])) ++ []) ++ []) (c2 gMod (cA gInt (aC (c2 gAdd (c2 gMul (cV 3) (cC (.int 48271))) (c2 gMul (c2 gAdd (cV 2) (cC (.int 1))) (cC (.int 69621)))) aN)) (cC (.int 2147483647))))
  (seqO (sfSet 5 ((((([5] ++ []) ++ ([] ++ [2])) ++ []) ++ []) ++ []) (c2 gMod (cA gInt (aC (c2 gAdd (c2 gAdd (c2 gMul (cV 5) (cC (.int 16807))) (c2 gMul (cC (.int 11)) (cV 2))) (cC (.int 5))) aN)) (cC (.int 2147483629))))
  (seqO (sfApp 1 (([5] ++ []) ++ []) (c2 gMod (cA gInt (aC (cV 5) aN)) (cC (.int 65536))))
  (sfApp 1 ((([5] ++ []) ++ []) ++ []) (c2 gMod (cA gInt (aC (c2 gDiv (cV 5) (cC (.int 65536))) aN)) (cC (.int 32768))))))))))
  (sfRet (cV 1))))
noncomputable def fn__law_draws : List D → R D := runB 1 6 b__law_draws
/- _law_mix: 0=draws 1=k 2=many 3=cell -/
noncomputable def b__law_mix : SF := (seqO (sfSet 3 [] (cC (.int 0)))
  (seqO (sfIf (cB (c2 gGt (cA gLen (aC (cV 0) aN)) (cC (.int 0)))) (sfSet 3 ([0] ++ (([1] ++ []) ++ ([0] ++ []))) (c2 gIx (cV 0) (c2 gMod (cA gInt (aC (cV 1) aN)) (cA gLen (aC (cV 0) aN))))) sfN)
  (seqO (sfIf (cB (c2 gLt (cV 1) (cA gLen (aC (cV 0) aN)))) (sfRet (c2 gMod (cA gInt (aC (cV 3) aN)) (cV 2))) sfN)
  (sfRet (c2 gMod (cA gInt (aC (c2 gDiv (cA gInt (aC (c2 gAdd (c2 gMul (cV 3) (cC (.int 7919))) (c2 gMul (cV 1) (cC (.int 104729)))) aN)) (cC (.int 3))) aN)) (cV 2))))))
noncomputable def fn__law_mix : List D → R D := runB 3 4 b__law_mix
/- _law_text: 0=words 1=frame 2=letters 3=filling 4=k -/
noncomputable def b__law_text : SF := (sfRet (cMs gJoin (cC (.str [32])) (c2 gAdd (cLst (aC (cV 1) aN)) (cLC [4] (iF range1 (aC (cA gLen (aC (cV 2) aN)) aN)) (gN 4) tY (c2 gAdd (c2 gAdd (c2 gIx (cV 0) (c2 gIx (cV 3) (cV 4))) (cC (.str [32]))) (c2 gIx (cV 2) (cV 4)))))))
noncomputable def fn__law_text : List D → R D := runB 4 5 b__law_text
/- _law_counts: 0=words 1=frame 2=letters 3=filling 4=text 5=letter 6=sign -/
noncomputable def b__law_counts : SF := (seqO (sfSet 4 ([0] ++ ([1] ++ ([2] ++ ([3] ++ [])))) (cA fn__law_text (aC (cV 0) (aC (cV 1) (aC (cV 2) (aC (cV 3) aN))))))
  (sfRet (cLC [5] (iA (cV 2)) (gN 5) tY (cA gLen (aC (cLC [6] (iA (cV 4)) (gN 6) (cB (c2 gEq (cV 6) (cV 5))) (cV 6)) aN)))))
noncomputable def fn__law_counts : List D → R D := runB 4 7 b__law_counts
/- law: 0=script 1=draws 2=letters 3=words 4=t 5=size 6=frame 7=kept 8=every 9=letter 10=longer 11=told 12=rows 13=best 14=good 15=found 16=tries 17=right 18=j 19=number 20=k 21=one 22=two 23=far 24=sign -/
noncomputable def b_law_s0 : SF := (sfSet 1 ([0] ++ []) (cA fn__law_draws (aC (cV 0) aN)))
noncomputable def b_law_s1 : SF := (sfSet 2 ((([] ++ []) ++ (([] ++ ([] ++ [])) ++ (([] ++ ([] ++ [])) ++ (([] ++ ([] ++ ([] ++ []))) ++ [])))) ++ ([1] ++ ([] ++ ([] ++ [])))) (c2 gIx (cLst (aC (cLst (aC (cC (.str [97])) aN)) (aC (cLst (aC (cC (.str [97])) (aC (cC (.str [98])) aN))) (aC (cLst (aC (cC (.str [98])) (aC (cC (.str [99])) aN))) (aC (cLst (aC (cC (.str [97])) (aC (cC (.str [98])) (aC (cC (.str [99])) aN)))) aN))))) (cA fn__law_mix (aC (cV 1) (aC (cC (.int 0)) (aC (cC (.int 4)) aN))))))
noncomputable def b_law_s2 : SF := (sfNew 3 [] (cLst aN))
noncomputable def b_law_s3 : SF := (sfFor [4] (([] ++ ([1] ++ ([] ++ ((([] ++ ([] ++ ([] ++ []))) ++ (([2] ++ []) ++ [])) ++ [])))) ++ []) (iF range1 (aC (c2 gAdd (cC (.int 1)) (cA fn__law_mix (aC (cV 1) (aC (cC (.int 1)) (aC (c2 gIx (cLst (aC (cC (.int 10)) (aC (cC (.int 10)) (aC (cC (.int 7)) aN)))) (c2 gSub (cA gLen (aC (cV 2) aN)) (cC (.int 1)))) aN))))) aN)) (gN 4) (seqO (sfSet 5 ([] ++ ([1] ++ (([] ++ ([] ++ [4])) ++ ([] ++ [])))) (c2 gAdd (cC (.int 1)) (cA fn__law_mix (aC (cV 1) (aC (c2 gAdd (cC (.int 10)) (c2 gMul (cC (.int 8)) (cV 4))) (aC (cC (.int 6)) aN))))))
  (sfApp 3 ([] ++ (([5] ++ []) ++ sans ([] ++ ([1] ++ ((([] ++ ([] ++ [4])) ++ [18]) ++ ((([] ++ ([] ++ ([] ++ []))) ++ ([1] ++ ([] ++ ([] ++ [])))) ++ [])))) [18])) (cMs gJoin (cC (.str [])) (cLC [18] (iF range1 (aC (cV 5) aN)) (gN 18) tY (c2 gIx (cC (.str [97, 98, 99, 120, 121, 122])) (cA fn__law_mix (aC (cV 1) (aC (c2 gAdd (c2 gAdd (cC (.int 11)) (c2 gMul (cC (.int 8)) (cV 4))) (cV 18)) (aC (c2 gIx (cLst (aC (cC (.int 3)) (aC (cC (.int 6)) (aC (cC (.int 6)) aN)))) (cA fn__law_mix (aC (cV 1) (aC (cC (.int 2)) (aC (cC (.int 3)) aN))))) aN))))))))))
noncomputable def b_law_s4 : SF := (sfSet 6 ([] ++ ((([1] ++ ([] ++ ([] ++ []))) ++ []) ++ sans ([] ++ ([1] ++ (([] ++ [4]) ++ ([] ++ [])))) [4])) (cMs gJoin (cC (.str [])) (cLC [4] (iF range1 (aC (cA fn__law_mix (aC (cV 1) (aC (cC (.int 3)) (aC (cC (.int 13)) aN)))) aN)) (gN 4) tY (c2 gIx (cC (.str [97, 98, 99, 120, 32])) (cA fn__law_mix (aC (cV 1) (aC (c2 gAdd (cC (.int 100)) (cV 4)) (aC (cC (.int 5)) aN))))))))
noncomputable def b_law_s5 : SF := (sfSet 7 (([3] ++ ([2] ++ [])) ++ []) (cA gRepr (aC (cTup (aC (cV 3) (aC (cV 2) aN))) aN)))
noncomputable def b_law_s6 : SF := (sfNew 8 ([] ++ []) (cLst (aC (cLst aN) aN)))
noncomputable def b_law_s7 : SF := (sfFor [9] [2] (iA (cV 2)) (gN 9) (seqO (sfNew 10 [] (cLst aN))
  (seqO (sfFor [11] [8] (iA (cV 8)) (gN 11) (sfSet 10 ([10] ++ ((([3] ++ []) ++ []) ++ sans ([11] ++ ([19] ++ [])) [19])) (c2 gAdd (cV 10) (cLC [19] (iF range1 (aC (cA gLen (aC (cV 3) aN)) aN)) (gN 19) tY (c2 gAdd (cV 11) (cLst (aC (cV 19) aN)))))))
  (sfSet 8 [10] (cV 10)))))
noncomputable def b_law_s8 : SF := (sfNew 12 ([8] ++ sans (((((([11] ++ []) ++ []) ++ sans (([11] ++ [20]) ++ ((([3] ++ ([6] ++ ([2] ++ ([11] ++ [])))) ++ [20]) ++ [])) [20]) ++ sans (([21] ++ [22]) ++ []) ([21] ++ ([22] ++ []))) ++ []) ++ ([11] ++ [])) [11]) (cLC [11] (iA (cSl (cV 8) pN (pS (cC (.int 400))))) (gN 11) tY (cTup (aC (cA gSum (aC (cLC [21, 22] (iA (cLC [20] (iF range1 (aC (cA gLen (aC (cV 11) aN)) aN)) (gN 20) tY (cTup (aC (c2 gIx (cV 11) (cV 20)) (aC (c2 gIx (cA fn__law_counts (aC (cV 3) (aC (cV 6) (aC (cV 2) (aC (cV 11) aN))))) (cV 20)) aN))))) (gT 2 (gsC (gN 21) (gsC (gN 22) gsN))) tY (cA gAbs (aC (c2 gSub (cV 21) (cV 22)) aN))) aN)) (aC (cV 11) aN)))))
noncomputable def b_law_s9 : SF := (sfSet 13 ([12] ++ []) (cA gMin (aC (cV 12) aN)))
noncomputable def b_law_s10 : SF := (sfNew 14 ([12] ++ sans [11] ([23] ++ ([11] ++ []))) (cLC [23, 11] (iA (cV 12)) (gT 2 (gsC (gN 23) (gsC (gN 11) gsN))) (cB (c2 gEq (cV 23) (cC (.int 0)))) (cV 11)))
noncomputable def b_law_s11 : SF := (sfFresh 15 ([3] ++ ([6] ++ ([2] ++ []))) (cA fn_true_fillings (aC (cV 3) (aC (cV 6) (aC (cV 2) aN)))))
noncomputable def b_law_s12 : SF := (sfIf (tOrB (cB (c2 gNe (cA gRepr (aC (cV 15) aN)) (cA gRepr (aC (cV 14) aN)))) (cB (c2 gNe (cA gRepr (aC (cA fn_nearest (aC (cV 3) (aC (cV 6) (aC (cV 2) aN)))) aN)) (cA gRepr (aC (cV 13) aN))))) (sfRet (cC (.bl false))) sfN)
noncomputable def b_law_s13 : SF := (sfFor [11] [14] (iA (cV 14)) (gN 11) (sfIf (cB (c2 gNe (cLC [20] (iF range1 (aC (cA gLen (aC (cV 2) aN)) aN)) (gN 20) (cB (c2 gLe (c2 gIx (cV 11) (cV 20)) (cA gLen (aC (cLC [24] (iA (cV 6)) (gN 24) (cB (c2 gEq (cV 24) (c2 gIx (cV 2) (cV 20)))) (cV 24)) aN)))) (cV 20)) (cLst aN))) (sfRet (cC (.bl false))) sfN))
noncomputable def b_law_s14 : SF := (sfIf (cB (c2 gNe (cA fn_true_fillings (aC (cV 3) (aC (c2 gAdd (cV 6) (cC (.str [122]))) (aC (cV 2) aN)))) (cV 14))) (sfIf (cB (c2 gNotIn (cC (.str [122])) (cV 2))) (sfRet (cC (.bl false))) sfN) sfN)
noncomputable def b_law_s15 : SF := (sfNew 16 ([14] ++ ([] ++ ((([] ++ []) ++ ([2] ++ [])) ++ (((([3] ++ []) ++ []) ++ ([2] ++ [])) ++ ((([] ++ []) ++ ([2] ++ [])) ++ ((([] ++ []) ++ (([2] ++ []) ++ [])) ++ [])))))) (c2 gAddL (cSl (cV 14) pN (pS (cC (.int 2)))) (cLst (aC (cLst aN) (aC (c2 gMul (cLst (aC (cC (.int 0)) aN)) (cA gLen (aC (cV 2) aN))) (aC (c2 gMul (cLst (aC (cA gLen (aC (cV 3) aN)) aN)) (cA gLen (aC (cV 2) aN))) (aC (c2 gMul (cLst (aC (c1 gNeg (cC (.int 1))) aN)) (cA gLen (aC (cV 2) aN))) (aC (c2 gMul (cLst (aC (cC (.int 0)) aN)) (c2 gAdd (cA gLen (aC (cV 2) aN)) (cC (.int 1)))) aN))))))))
noncomputable def b_law_s16 : SF := (sfFor [4] ([] ++ []) (iF range1 (aC (cC (.int 5)) aN)) (gN 4) (seqO (sfSet 11 ([8] ++ ([1] ++ (([] ++ [4]) ++ (([8] ++ []) ++ [])))) (c2 gIx (cV 8) (cA fn__law_mix (aC (cV 1) (aC (c2 gAdd (cC (.int 120)) (cV 4)) (aC (cA gLen (aC (cV 8) aN)) aN))))))
  (seqO (sfApp 16 [11] (cV 11))
  (sfIf (cB (c2 gNe (cA gRepr (aC (cA fn_told_text (aC (cV 3) (aC (cV 6) (aC (cV 2) (aC (cV 11) aN))))) aN)) (cA gRepr (aC (cA fn__law_text (aC (cV 3) (aC (cV 6) (aC (cV 2) (aC (cV 11) aN))))) aN)))) (sfRet (cC (.bl false))) sfN))))
noncomputable def b_law_s17 : SF := (sfFor [11] [16] (iA (cV 16)) (gN 11) (seqO (sfSet 17 ((([11] ++ []) ++ ([2] ++ [])) ++ (([11] ++ sans [19] [19]) ++ [])) (cAnd (c2 gEq (cA gLen (aC (cV 11) aN)) (cA gLen (aC (cV 2) aN))) (c2 gEq (cLC [19] (iA (cV 11)) (gN 19) (tNotB (cB (cCh gLe gLt (cC (.int 0)) (cV 19) (cA gLen (aC (cV 3) aN))))) (cV 19)) (cLst aN))))
  (seqO (sfSet 17 ([17] ++ (([3] ++ ([6] ++ ([2] ++ ([11] ++ [])))) ++ [11])) (cAnd (cV 17) (c2 gEq (cA fn__law_counts (aC (cV 3) (aC (cV 6) (aC (cV 2) (aC (cV 11) aN))))) (cV 11))))
  (sfIf (cB (c2 gNe (cA gRepr (aC (cA fn_is_true (aC (cV 3) (aC (cV 6) (aC (cV 2) (aC (cV 11) aN))))) aN)) (cA gRepr (aC (cV 17) aN)))) (sfRet (cC (.bl false))) sfN))))
noncomputable def b_law_s18 : SF := (sfApp 15 [] (cLst aN))
noncomputable def b_law_s19 : SF := (sfPoke (([3] ++ ([6] ++ ([2] ++ []))) ++ []) (c2 gIx (cA fn_nearest (aC (cV 3) (aC (cV 6) (aC (cV 2) aN)))) (cC (.int 1))) (cC (.int 9)))
noncomputable def b_law_s20 : SF := (sfIf (tOrB (cB (c2 gNe (cA fn_true_fillings (aC (cV 3) (aC (cV 6) (aC (cV 2) aN)))) (cV 14))) (tOrB (cB (c2 gNe (cA fn_nearest (aC (cV 3) (aC (cV 6) (aC (cV 2) aN)))) (cV 13))) (cB (c2 gNe (cA gRepr (aC (cTup (aC (cV 3) (aC (cV 2) aN))) aN)) (cV 7))))) (sfRet (cC (.bl false))) sfN)
noncomputable def b_law_s21 : SF := (sfRet (c2 gEq (cA fn_true_fillings (aC (cLst (aC (cC (.str [120])) (aC (cC (.str [120, 97])) (aC (cC (.str [97, 97])) aN)))) (aC (cC (.str [])) (aC (cLst (aC (cC (.str [97])) aN)) aN)))) (cLst aN)))
noncomputable def b_law_21 : SF := b_law_s21
noncomputable def b_law_20 : SF := seqO b_law_s20 b_law_21
noncomputable def b_law_19 : SF := seqO b_law_s19 b_law_20
noncomputable def b_law_18 : SF := seqO b_law_s18 b_law_19
noncomputable def b_law_17 : SF := seqO b_law_s17 b_law_18
noncomputable def b_law_16 : SF := seqO b_law_s16 b_law_17
noncomputable def b_law_15 : SF := seqO b_law_s15 b_law_16
noncomputable def b_law_14 : SF := seqO b_law_s14 b_law_15
noncomputable def b_law_13 : SF := seqO b_law_s13 b_law_14
noncomputable def b_law_12 : SF := seqO b_law_s12 b_law_13
noncomputable def b_law_11 : SF := seqO b_law_s11 b_law_12
noncomputable def b_law_10 : SF := seqO b_law_s10 b_law_11
noncomputable def b_law_9 : SF := seqO b_law_s9 b_law_10
noncomputable def b_law_8 : SF := seqO b_law_s8 b_law_9
noncomputable def b_law_7 : SF := seqO b_law_s7 b_law_8
noncomputable def b_law_6 : SF := seqO b_law_s6 b_law_7
noncomputable def b_law_5 : SF := seqO b_law_s5 b_law_6
noncomputable def b_law_4 : SF := seqO b_law_s4 b_law_5
noncomputable def b_law_3 : SF := seqO b_law_s3 b_law_4
noncomputable def b_law_2 : SF := seqO b_law_s2 b_law_3
noncomputable def b_law_1 : SF := seqO b_law_s1 b_law_2
noncomputable def b_law_0 : SF := seqO b_law_s0 b_law_1
noncomputable def b_law : SF := b_law_0
noncomputable def fn_law : List D → R D := runB 1 25 b_law
/-! ### the derivations -/
section
variable {P : Program} {w : World} {K : PySem.W.Frag} {mg : Str → Option Value} {base : Heap}
theorem k_is_word (Z : Fx mg) {f : Addr} {fd : FuncData} (F : Fun K "is_word" "is_word" s_is_word f fd) (m : mg "is_word" = some (.ref f)) : CalK P w K mg base 1 "is_word" fn_is_word :=
  fn_ok F sc_is_word m (fun _ _ _ _ _ _ us hl => match us, hl with | [_], _ => rfl) (by decide) (fun cdv A outer s H E G => (sss_one (ss_ret (se_and (se_cm2 cm_le cm_le se_int (se_bi bi_len Z.b_len (sa_cons (se_v (i := 0) rfl (.inl rfl)) sa_nil)) (se_gI Z.g_MOST_LETTERS)) (se_one (se_bi (bi_all G) Z.b_all (sa_cons (SN.se (sn_lc G (si_a (se_v (i := 0) rfl (.inl rfl))) (blk_ok (N := ["text", "letter"]) (own := [("letter", 1)]) (by exact True.intro) (by decide +kernel)) (fun s H C cl fp => (sg_name (i := 1) G.blk.nd rfl (.inl rfl))) (fun s H C cl fp => sts_nil) (fun s H C cl fp => (se_cm (cm_in G.blk) (se_v (i := 1) rfl (.inl rfl)) (se_gS (s := [97, 98, 99, 100, 101, 102, 103, 104, 105, 106, 107, 108, 109, 110, 111, 112, 113, 114, 115, 116, 117, 118, 119, 120, 121, 122]) Z.g_LETTERS rfl (by decide)))) (by decide))) sa_nil)))))))
theorem k_check_numbers (Z : Fx mg) (c_is_word : CalK P w K mg base 1 "is_word" fn_is_word) {f : Addr} {fd : FuncData} (F : Fun K "check_numbers" "check_numbers" s_check_numbers f fd) (m : mg "check_numbers" = some (.ref f)) : CalK P w K mg base 2 "check_numbers" fn_check_numbers :=
  fn_ok F sc_check_numbers m (fun _ _ _ _ _ _ us hl => match us, hl with | [_], _ => rfl) (by decide) (fun cdv A outer s H E G => (sss_cons (ss_if (st_not (st_cm2 cm_le cm_le se_int (se_bi bi_len Z.b_len (sa_cons (se_v (i := 0) rfl (.inl rfl)) sa_nil)) (se_gI Z.g_MOST_NUMBERS))) (sss_one ss_stuck) sss_nil)
  (sss_one (ss_for G (si_enum Z.b_enumerate (sa_cons (se_v (i := 0) rfl (.inl rfl)) sa_nil)) (sg_tup G.calm (sgs_cons (sg_name (i := 1) G.nd rfl (.inl rfl)) (sgs_cons (sg_name (i := 2) G.nd rfl (.inl rfl)) sgs_nil (by decide)) (by decide))) (sss_one (ss_if (st_not (st_e (se_call G c_is_word (by decide) (sa_cons (se_v (i := 2) rfl (.inl rfl)) sa_nil)))) (sss_one ss_stuck) sss_nil))))))
theorem k_check_frame (Z : Fx mg) (c_check_numbers : CalK P w K mg base 2 "check_numbers" fn_check_numbers) {f : Addr} {fd : FuncData} (F : Fun K "check_frame" "check_frame" s_check_frame f fd) (m : mg "check_frame" = some (.ref f)) : CalK P w K mg base 3 "check_frame" fn_check_frame :=
  fn_ok F sc_check_frame m (fun _ _ _ _ _ _ us hl => match us, hl with | [_, _, _], _ => rfl) (by decide) (fun cdv A outer s H E G => (sss_cons (ss_expr (se_call G c_check_numbers (by decide) (sa_cons (se_v (i := 0) rfl (.inl rfl)) sa_nil)))
  (sss_cons (ss_if (sw_pt (sw_or (st_cm cm_gt (se_bi bi_len Z.b_len (sa_cons (se_v (i := 1) rfl (.inl rfl)) sa_nil)) (se_gI Z.g_MOST_SIGNS)) (sw_or1 (st_not (st_e (se_bi (bi_all G) Z.b_all (sa_cons (SN.se (sn_lc G (si_a (se_v (i := 1) rfl (.inl rfl))) (blk_ok (N := ["words", "frame", "letters", "k", "letter", "sign"]) (own := [("sign", 5)]) (by exact True.intro) (by decide +kernel)) (fun s H C cl fp => (sg_name (i := 5) G.blk.nd rfl (.inl rfl))) (fun s H C cl fp => sts_nil) (fun s H C cl fp => (se_cm (cm_in G.blk) (se_v (i := 5) rfl (.inl rfl)) (se_add (se_gS (s := [97, 98, 99, 100, 101, 102, 103, 104, 105, 106, 107, 108, 109, 110, 111, 112, 113, 114, 115, 116, 117, 118, 119, 120, 121, 122]) Z.g_LETTERS rfl (by decide)) (se_str [32] rfl (by decide))))) (by decide))) sa_nil))))))) (sss_one ss_stuck) sss_nil)
  (sss_cons (ss_if (st_not (st_cm2 cm_le cm_le se_int (se_bi bi_len Z.b_len (sa_cons (se_v (i := 2) rfl (.inl rfl)) sa_nil)) (se_gI Z.g_MOST_COUNTED))) (sss_one ss_stuck) sss_nil)
  (sss_one (ss_for G (si_enum Z.b_enumerate (sa_cons (se_v (i := 2) rfl (.inl rfl)) sa_nil)) (sg_tup G.calm (sgs_cons (sg_name (i := 3) G.nd rfl (.inl rfl)) (sgs_cons (sg_name (i := 4) G.nd rfl (.inl rfl)) sgs_nil (by decide)) (by decide))) (sss_one (ss_if (sw_pt (sw_or (st_cm (cm_ne G) (se_bi bi_len Z.b_len (sa_cons (se_v (i := 4) rfl (.inl rfl)) sa_nil)) se_int) (sw_or (st_cm (cm_notIn G) (se_v (i := 4) rfl (.inl rfl)) (se_gS (s := [97, 98, 99, 100, 101, 102, 103, 104, 105, 106, 107, 108, 109, 110, 111, 112, 113, 114, 115, 116, 117, 118, 119, 120, 121, 122]) Z.g_LETTERS rfl (by decide))) (sw_or1 (sw_pt (sw_and (st_cm cm_gt (se_v (i := 3) rfl (.inl rfl)) se_int) (sw_and1 (st_cm cm_ge (se_ix (se_v (i := 2) rfl (.inl rfl)) (se_sub (se_v (i := 3) rfl (.inl rfl)) se_int) (fun _ _ => rfl)) (se_v (i := 4) rfl (.inl rfl)))))))))) (sss_one ss_stuck) sss_nil))))))))
theorem k_text_of (Z : Fx mg) {f : Addr} {fd : FuncData} (F : Fun K "text_of" "text_of" s_text_of f fd) (m : mg "text_of" = some (.ref f)) : CalK P w K mg base 1 "text_of" fn_text_of :=
  fn_ok F sc_text_of m (fun _ _ _ _ _ _ us hl => match us, hl with | [_, _, _, _], _ => rfl) (by decide) (fun cdv A outer s H E G => (sss_cons (ss_set (i := 4) G rfl (.inl rfl) (se_v (i := 1) rfl (.inl rfl)))
  (sss_cons (ss_for G (si_zip Z.b_zip (sa_cons (se_v (i := 3) rfl (.inl rfl)) (sa_cons (se_v (i := 2) rfl (.inl rfl)) sa_nil))) (sg_tup G.calm (sgs_cons (sg_name (i := 5) G.nd rfl (.inl rfl)) (sgs_cons (sg_name (i := 6) G.nd rfl (.inl rfl)) sgs_nil (by decide)) (by decide))) (sss_one (ss_set (i := 4) G rfl (.inl rfl) (se_add (se_add (se_add (se_add (se_v (i := 4) rfl (.inl rfl)) (se_str [32] rfl (by decide))) (se_ix (se_v (i := 0) rfl (.inl rfl)) (se_v (i := 5) rfl (.inl rfl)) (fun _ _ => rfl))) (se_str [32] rfl (by decide))) (se_v (i := 6) rfl (.inl rfl))))))
  (sss_one (ss_ret (se_v (i := 4) rfl (.inl rfl)))))))
theorem k_told_text (Z : Fx mg) (c_check_frame : CalK P w K mg base 3 "check_frame" fn_check_frame) (c_text_of : CalK P w K mg base 1 "text_of" fn_text_of) {f : Addr} {fd : FuncData} (F : Fun K "told_text" "told_text" s_told_text f fd) (m : mg "told_text" = some (.ref f)) : CalK P w K mg base 4 "told_text" fn_told_text :=
  fn_ok F sc_told_text m (fun _ _ _ _ _ _ us hl => match us, hl with | [_, _, _, _], _ => rfl) (by decide) (fun cdv A outer s H E G => (sss_cons (ss_expr (se_call G c_check_frame (by decide) (sa_cons (se_v (i := 0) rfl (.inl rfl)) (sa_cons (se_v (i := 1) rfl (.inl rfl)) (sa_cons (se_v (i := 2) rfl (.inl rfl)) sa_nil)))))
  (sss_cons (ss_if (st_cm (cm_ne G) (se_bi bi_len Z.b_len (sa_cons (se_v (i := 3) rfl (.inl rfl)) sa_nil)) (se_bi bi_len Z.b_len (sa_cons (se_v (i := 2) rfl (.inl rfl)) sa_nil))) (sss_one ss_stuck) sss_nil)
  (sss_cons (ss_for G (si_a (se_v (i := 3) rfl (.inl rfl))) (sg_name (i := 4) G.nd rfl (.inl rfl)) (sss_one (ss_if (st_not (st_cm2 cm_le cm_lt se_int (se_v (i := 4) rfl (.inl rfl)) (se_bi bi_len Z.b_len (sa_cons (se_v (i := 0) rfl (.inl rfl)) sa_nil)))) (sss_one ss_stuck) sss_nil)))
  (sss_one (ss_ret (se_call G c_text_of (by decide) (sa_cons (se_v (i := 0) rfl (.inl rfl)) (sa_cons (se_v (i := 1) rfl (.inl rfl)) (sa_cons (se_v (i := 2) rfl (.inl rfl)) (sa_cons (se_v (i := 3) rfl (.inl rfl)) sa_nil)))))))))))
theorem k_counts_of (Z : Fx mg) (c_text_of : CalK P w K mg base 1 "text_of" fn_text_of) {f : Addr} {fd : FuncData} (F : Fun K "counts_of" "counts_of" s_counts_of f fd) (m : mg "counts_of" = some (.ref f)) : CalK P w K mg base 2 "counts_of" fn_counts_of :=
  fn_ok F sc_counts_of m (fun _ _ _ _ _ _ us hl => match us, hl with | [_, _, _, _], _ => rfl) (by decide) (fun cdv A outer s H E G => (sss_cons (ss_set (i := 4) G rfl (.inr rfl) (se_call G c_text_of (by decide) (sa_cons (se_v (i := 0) rfl (.inl rfl)) (sa_cons (se_v (i := 1) rfl (.inl rfl)) (sa_cons (se_v (i := 2) rfl (.inl rfl)) (sa_cons (se_v (i := 3) rfl (.inl rfl)) sa_nil))))))
  (sss_one (ss_ret (SN.se (sn_lc G (si_a (se_v (i := 2) rfl (.inl rfl))) (blk_ok (N := ["words", "frame", "letters", "filling", "text", "letter"]) (own := [("letter", 5)]) (by exact (And.intro rfl True.intro)) (by decide +kernel)) (fun s H C cl fp => (sg_name (i := 5) G.blk.nd rfl (.inl rfl))) (fun s H C cl fp => sts_nil) (fun s H C cl fp => (se_count (se_v (i := 4) rfl (.inr (.inl rfl))) (se_v (i := 5) rfl (.inl rfl)))) (by decide)))))))
theorem k_is_filling (Z : Fx mg) {f : Addr} {fd : FuncData} (F : Fun K "is_filling" "is_filling" s_is_filling f fd) (m : mg "is_filling" = some (.ref f)) : CalK P w K mg base 1 "is_filling" fn_is_filling :=
  fn_ok F sc_is_filling m (fun _ _ _ _ _ _ us hl => match us, hl with | [_, _, _], _ => rfl) (by decide) (fun cdv A outer s H E G => (sss_one (ss_ret (se_and (se_cm (cm_eq G) (se_bi bi_len Z.b_len (sa_cons (se_v (i := 2) rfl (.inl rfl)) sa_nil)) (se_bi bi_len Z.b_len (sa_cons (se_v (i := 1) rfl (.inl rfl)) sa_nil))) (se_one (se_bi (bi_all G) Z.b_all (sa_cons (SN.se (sn_lc G (si_a (se_v (i := 2) rfl (.inl rfl))) (blk_ok (N := ["words", "letters", "filling", "number"]) (own := [("number", 3)]) (by exact (And.intro rfl True.intro)) (by decide +kernel)) (fun s H C cl fp => (sg_name (i := 3) G.blk.nd rfl (.inl rfl))) (fun s H C cl fp => sts_nil) (fun s H C cl fp => (se_cm2 cm_le cm_lt se_int (se_v (i := 3) rfl (.inl rfl)) (se_bi bi_len Z.b_len (sa_cons (se_v (i := 0) rfl (.inr (.inl rfl))) sa_nil)))) (by decide))) sa_nil)))))))
theorem k_is_true (Z : Fx mg) (c_check_frame : CalK P w K mg base 3 "check_frame" fn_check_frame) (c_counts_of : CalK P w K mg base 2 "counts_of" fn_counts_of) (c_is_filling : CalK P w K mg base 1 "is_filling" fn_is_filling) {f : Addr} {fd : FuncData} (F : Fun K "is_true" "is_true" s_is_true f fd) (m : mg "is_true" = some (.ref f)) : CalK P w K mg base 4 "is_true" fn_is_true :=
  fn_ok F sc_is_true m (fun _ _ _ _ _ _ us hl => match us, hl with | [_, _, _, _], _ => rfl) (by decide) (fun cdv A outer s H E G => (sss_cons (ss_expr (se_call G c_check_frame (by decide) (sa_cons (se_v (i := 0) rfl (.inl rfl)) (sa_cons (se_v (i := 1) rfl (.inl rfl)) (sa_cons (se_v (i := 2) rfl (.inl rfl)) sa_nil)))))
  (sss_one (ss_ret (se_and (se_call G c_is_filling (by decide) (sa_cons (se_v (i := 0) rfl (.inl rfl)) (sa_cons (se_v (i := 2) rfl (.inl rfl)) (sa_cons (se_v (i := 3) rfl (.inl rfl)) sa_nil)))) (se_one (se_cm (cm_eq G) (se_call G c_counts_of (by decide) (sa_cons (se_v (i := 0) rfl (.inl rfl)) (sa_cons (se_v (i := 1) rfl (.inl rfl)) (sa_cons (se_v (i := 2) rfl (.inl rfl)) (sa_cons (se_v (i := 3) rfl (.inl rfl)) sa_nil))))) (se_bi bi_list Z.b_list (sa_cons (se_v (i := 3) rfl (.inl rfl)) sa_nil)))))))))
theorem k_fillings_of (Z : Fx mg) {f : Addr} {fd : FuncData} (F : Fun K "fillings_of" "fillings_of" s_fillings_of f fd) (m : mg "fillings_of" = some (.ref f)) : CalK P w K mg base 1 "fillings_of" fn_fillings_of :=
  fn_ok F sc_fillings_of m (fun _ _ _ _ _ _ us hl => match us, hl with | [_, _], _ => rfl) (by decide) (fun cdv A outer s H E G => (sss_cons (ss_new (i := 2) G rfl (.inl rfl) (sn_lst (sa_cons (se_lst sa_nil) sa_nil)))
  (sss_cons (ss_for G (si_a (se_v (i := 1) rfl (.inl rfl))) (sg_name (i := 3) G.nd rfl (.inl rfl)) (sss_one (ss_newLc2 (i := 2) G rfl rfl (sw_true rfl rfl rfl (by decide +kernel)) (si_a (se_v (i := 2) rfl (.inl rfl))) (blk_ok (N := ["words", "letters", "found", "_", "told", "number"]) (own := [("told", 4), ("number", 5)]) (by exact (And.intro rfl True.intro)) (by decide +kernel)) (vs1 := [5]) (by decide) (fun s H C cl fp => (sg_name (i := 4) G.blk.nd rfl (.inl rfl))) (fun s H C cl fp => sts_nil) (fun s H C cl fp => (si_range1 Z.b_range (sa_cons (se_bi bi_len Z.b_len (sa_cons (se_v (i := 0) rfl (.inr (.inl rfl))) sa_nil)) sa_nil))) (fun s H C cl fp => (sg_name (i := 5) G.blk.nd rfl (.inl rfl))) (fun s H C cl fp => sts_nil) (fun s H C cl fp => (se_lst (sa_star (se_v (i := 4) rfl (.inl rfl)) (sa_cons (se_v (i := 5) rfl (.inl rfl)) sa_nil)))) (by decide) (by decide))))
  (sss_one (ss_ret (se_v (i := 2) rfl (.inl rfl)))))))
theorem k_true_fillings (Z : Fx mg) (c_check_frame : CalK P w K mg base 3 "check_frame" fn_check_frame) (c_counts_of : CalK P w K mg base 2 "counts_of" fn_counts_of) (c_fillings_of : CalK P w K mg base 1 "fillings_of" fn_fillings_of) {f : Addr} {fd : FuncData} (F : Fun K "true_fillings" "true_fillings" s_true_fillings f fd) (m : mg "true_fillings" = some (.ref f)) : CalK P w K mg base 4 "true_fillings" fn_true_fillings :=
  fn_ok F sc_true_fillings m (fun _ _ _ _ _ _ us hl => match us, hl with | [_, _, _], _ => rfl) (by decide) (fun cdv A outer s H E G => (sss_cons (ss_expr (se_call G c_check_frame (by decide) (sa_cons (se_v (i := 0) rfl (.inr (.inl rfl))) (sa_cons (se_v (i := 1) rfl (.inr (.inl rfl))) (sa_cons (se_v (i := 2) rfl (.inr (.inl rfl))) sa_nil)))))
  (sss_one (ss_ret (SN.se (sn_lc G (si_a (se_call G c_fillings_of (by decide) (sa_cons (se_v (i := 0) rfl (.inr (.inl rfl))) (sa_cons (se_v (i := 2) rfl (.inr (.inl rfl))) sa_nil)))) (blk_ok (N := ["words", "frame", "letters", "told"]) (own := [("told", 3)]) (by exact (And.intro rfl (And.intro rfl (And.intro rfl True.intro)))) (by decide +kernel)) (fun s H C cl fp => (sg_name (i := 3) G.blk.nd rfl (.inl rfl))) (fun s H C cl fp => (sts_one (st_cm (cm_eq G.blk) (se_call G.blk c_counts_of (by decide) (sa_cons (se_v (i := 0) rfl (.inr (.inl rfl))) (sa_cons (se_v (i := 1) rfl (.inr (.inl rfl))) (sa_cons (se_v (i := 2) rfl (.inr (.inl rfl))) (sa_cons (se_v (i := 3) rfl (.inl rfl)) sa_nil))))) (se_v (i := 3) rfl (.inl rfl))))) (fun s H C cl fp => (se_v (i := 3) rfl (.inl rfl))) (by decide)))))))
theorem k_nearest (Z : Fx mg) (c_check_frame : CalK P w K mg base 3 "check_frame" fn_check_frame) (c_counts_of : CalK P w K mg base 2 "counts_of" fn_counts_of) (c_fillings_of : CalK P w K mg base 1 "fillings_of" fn_fillings_of) {f : Addr} {fd : FuncData} (F : Fun K "nearest" "nearest" s_nearest f fd) (m : mg "nearest" = some (.ref f)) : CalK P w K mg base 4 "nearest" fn_nearest :=
  fn_ok F sc_nearest m (fun _ _ _ _ _ _ us hl => match us, hl with | [_, _, _], _ => rfl) (by decide) (fun cdv A outer s H E G => (sss_cons (ss_expr (se_call G c_check_frame (by decide) (sa_cons (se_v (i := 0) rfl (.inl rfl)) (sa_cons (se_v (i := 1) rfl (.inl rfl)) (sa_cons (se_v (i := 2) rfl (.inl rfl)) sa_nil)))))
  (sss_cons (ss_set (i := 3) G rfl (.inl rfl) se_non)
  (sss_cons (ss_for G (si_a (se_call G c_fillings_of (by decide) (sa_cons (se_v (i := 0) rfl (.inl rfl)) (sa_cons (se_v (i := 2) rfl (.inl rfl)) sa_nil)))) (sg_name (i := 4) G.nd rfl (.inl rfl)) (sss_cons (ss_set (i := 5) G rfl (.inl rfl) (se_call G c_counts_of (by decide) (sa_cons (se_v (i := 0) rfl (.inl rfl)) (sa_cons (se_v (i := 1) rfl (.inl rfl)) (sa_cons (se_v (i := 2) rfl (.inl rfl)) (sa_cons (se_v (i := 4) rfl (.inl rfl)) sa_nil))))))
  (sss_cons (ss_set (i := 6) G rfl (.inl rfl) (se_bi (bi_sum G) Z.b_sum (sa_cons (SN.se (sn_lc G (si_zip Z.b_zip (sa_cons (se_v (i := 4) rfl (.inl rfl)) (sa_cons (se_v (i := 5) rfl (.inl rfl)) sa_nil))) (blk_ok (N := ["words", "frame", "letters", "best", "told", "counts", "far", "one", "two"]) (own := [("one", 7), ("two", 8)]) (by exact True.intro) (by decide +kernel)) (fun s H C cl fp => (sg_tup G.blk.calm (sgs_cons (sg_name (i := 7) G.blk.nd rfl (.inl rfl)) (sgs_cons (sg_name (i := 8) G.blk.nd rfl (.inl rfl)) sgs_nil (by decide)) (by decide)))) (fun s H C cl fp => sts_nil) (fun s H C cl fp => (se_bi bi_abs Z.b_abs (sa_cons (se_sub (se_v (i := 7) rfl (.inl rfl)) (se_v (i := 8) rfl (.inl rfl))) sa_nil))) (by decide))) sa_nil)))
  (sss_one (ss_if (sw_pt (sw_or (st_cm cm_is (se_v (i := 3) rfl (.inl rfl)) se_non) (sw_or1 (st_cm cm_lt (se_v (i := 6) rfl (.inl rfl)) (se_ix (se_v (i := 3) rfl (.inl rfl)) se_int (fun _ _ => rfl)))))) (sss_one (ss_set (i := 3) G rfl (.inl rfl) (se_tup (sa_cons (se_v (i := 6) rfl (.inl rfl)) (sa_cons (se_v (i := 4) rfl (.inl rfl)) sa_nil))))) sss_nil)))))
  (sss_one (ss_ret (se_v (i := 3) rfl (.inl rfl))))))))
theorem k__law_draws (Z : Fx mg) {f : Addr} {fd : FuncData} (F : Fun K "_law_draws" "_law_draws" s__law_draws f fd) (m : mg "_law_draws" = some (.ref f)) : CalK P w K mg base 1 "_law_draws" fn__law_draws :=
  fn_ok F sc__law_draws m (fun _ _ _ _ _ _ us hl => match us, hl with | [_], _ => rfl) (by decide) (fun cdv A outer s H E G => (sss_cons (ss_new (i := 1) G rfl (.inl rfl) (sn_lst sa_nil))
  (sss_cons (ss_for G (si_range1 Z.b_range (sa_cons (se_bi (bi_min G) Z.b_min (sa_cons se_int (sa_cons (se_bi bi_len Z.b_len (sa_cons (se_v (i := 0) rfl (.inl rfl)) sa_nil)) sa_nil))) sa_nil)) (sg_name (i := 2) G.nd rfl (.inl rfl)) (sss_cons (ss_set (i := 3) G rfl (.inl rfl) (se_bi bi_abs Z.b_abs (sa_cons (se_ix (se_v (i := 0) rfl (.inl rfl)) (se_v (i := 2) rfl (.inl rfl)) (fun _ _ => rfl)) sa_nil)))
  (sss_one (ss_if (st_cm cm_ge (se_v (i := 3) rfl (.inl rfl)) (se_pow se_int se_int)) (sss_one (ss_for G (si_range1 Z.b_range (sa_cons se_int sa_nil)) (sg_name (i := 4) G.nd rfl (.inl rfl)) (sss_one (ss_if (st_cm cm_gt (se_v (i := 3) rfl (.inl rfl)) se_int) (sss_cons (ss_append (i := 1) rfl (.inl rfl) (se_mod (se_bi bi_int Z.b_int (sa_cons (se_v (i := 3) rfl (.inl rfl)) sa_nil)) se_int))
  (sss_one (ss_set (i := 3) G rfl (.inl rfl) (se_fdiv (se_v (i := 3) rfl (.inl rfl)) se_int)))) sss_nil)))) (sss_cons (ss_set (i := 5) G rfl (.inl rfl) (se_mod (se_bi bi_int Z.b_int (sa_cons (se_add (se_mul (se_v (i := 3) rfl (.inl rfl)) se_int) (se_mul (se_add (se_v (i := 2) rfl (.inl rfl)) se_int) se_int)) sa_nil)) se_int))
  (sss_cons (ss_set (i := 5) G rfl (.inl rfl) (se_mod (se_bi bi_int Z.b_int (sa_cons (se_add (se_add (se_mul (se_v (i := 5) rfl (.inl rfl)) se_int) (se_mul se_int (se_v (i := 2) rfl (.inl rfl)))) se_int) sa_nil)) se_int))
  (sss_cons (ss_append (i := 1) rfl (.inl rfl) (se_mod (se_bi bi_int Z.b_int (sa_cons (se_v (i := 5) rfl (.inl rfl)) sa_nil)) se_int))
  (sss_one (ss_append (i := 1) rfl (.inl rfl) (se_mod (se_bi bi_int Z.b_int (sa_cons (se_fdiv (se_v (i := 5) rfl (.inl rfl)) se_int) sa_nil)) se_int))))))))))
  (sss_one (ss_ret (se_v (i := 1) rfl (.inl rfl)))))))
theorem k__law_mix (Z : Fx mg) {f : Addr} {fd : FuncData} (F : Fun K "_law_mix" "_law_mix" s__law_mix f fd) (m : mg "_law_mix" = some (.ref f)) : CalK P w K mg base 1 "_law_mix" fn__law_mix :=
  fn_ok F sc__law_mix m (fun _ _ _ _ _ _ us hl => match us, hl with | [_, _, _], _ => rfl) (by decide) (fun cdv A outer s H E G => (sss_cons (ss_set (i := 3) G rfl (.inl rfl) se_int)
  (sss_cons (ss_if (st_cm cm_gt (se_bi bi_len Z.b_len (sa_cons (se_v (i := 0) rfl (.inl rfl)) sa_nil)) se_int) (sss_one (ss_set (i := 3) G rfl (.inl rfl) (se_ix (se_v (i := 0) rfl (.inl rfl)) (se_mod (se_bi bi_int Z.b_int (sa_cons (se_v (i := 1) rfl (.inl rfl)) sa_nil)) (se_bi bi_len Z.b_len (sa_cons (se_v (i := 0) rfl (.inl rfl)) sa_nil))) (fun _ _ => rfl)))) sss_nil)
  (sss_cons (ss_if (st_cm cm_lt (se_v (i := 1) rfl (.inl rfl)) (se_bi bi_len Z.b_len (sa_cons (se_v (i := 0) rfl (.inl rfl)) sa_nil))) (sss_one (ss_ret (se_mod (se_bi bi_int Z.b_int (sa_cons (se_v (i := 3) rfl (.inl rfl)) sa_nil)) (se_v (i := 2) rfl (.inl rfl))))) sss_nil)
  (sss_one (ss_ret (se_mod (se_bi bi_int Z.b_int (sa_cons (se_fdiv (se_bi bi_int Z.b_int (sa_cons (se_add (se_mul (se_v (i := 3) rfl (.inl rfl)) se_int) (se_mul (se_v (i := 1) rfl (.inl rfl)) se_int)) sa_nil)) se_int) sa_nil)) (se_v (i := 2) rfl (.inl rfl)))))))))
theorem k__law_text (Z : Fx mg) {f : Addr} {fd : FuncData} (F : Fun K "_law_text" "_law_text" s__law_text f fd) (m : mg "_law_text" = some (.ref f)) : CalK P w K mg base 1 "_law_text" fn__law_text :=
  fn_ok F sc__law_text m (fun _ _ _ _ _ _ us hl => match us, hl with | [_, _, _, _], _ => rfl) (by decide) (fun cdv A outer s H E G => (sss_one (ss_ret (se_join (se_str [32] rfl (by decide)) (se_add (se_lst (sa_cons (se_v (i := 1) rfl (.inl rfl)) sa_nil)) (SN.se (sn_lc G (si_range1 Z.b_range (sa_cons (se_bi bi_len Z.b_len (sa_cons (se_v (i := 2) rfl (.inr (.inl rfl))) sa_nil)) sa_nil)) (blk_ok (N := ["words", "frame", "letters", "filling", "k"]) (own := [("k", 4)]) (by exact (And.intro rfl (And.intro rfl (And.intro rfl True.intro)))) (by decide +kernel)) (fun s H C cl fp => (sg_name (i := 4) G.blk.nd rfl (.inl rfl))) (fun s H C cl fp => sts_nil) (fun s H C cl fp => (se_add (se_add (se_ix (se_v (i := 0) rfl (.inr (.inl rfl))) (se_ix (se_v (i := 3) rfl (.inr (.inl rfl))) (se_v (i := 4) rfl (.inl rfl)) (fun _ _ => rfl)) (fun _ _ => rfl)) (se_str [32] rfl (by decide))) (se_ix (se_v (i := 2) rfl (.inr (.inl rfl))) (se_v (i := 4) rfl (.inl rfl)) (fun _ _ => rfl)))) (by decide))))))))
theorem k__law_counts (Z : Fx mg) (c__law_text : CalK P w K mg base 1 "_law_text" fn__law_text) {f : Addr} {fd : FuncData} (F : Fun K "_law_counts" "_law_counts" s__law_counts f fd) (m : mg "_law_counts" = some (.ref f)) : CalK P w K mg base 2 "_law_counts" fn__law_counts :=
  fn_ok F sc__law_counts m (fun _ _ _ _ _ _ us hl => match us, hl with | [_, _, _, _], _ => rfl) (by decide) (fun cdv A outer s H E G => (sss_cons (ss_set (i := 4) G rfl (.inr rfl) (se_call G c__law_text (by decide) (sa_cons (se_v (i := 0) rfl (.inl rfl)) (sa_cons (se_v (i := 1) rfl (.inl rfl)) (sa_cons (se_v (i := 2) rfl (.inl rfl)) (sa_cons (se_v (i := 3) rfl (.inl rfl)) sa_nil))))))
  (sss_one (ss_ret (SN.se (sn_lc G (si_a (se_v (i := 2) rfl (.inl rfl))) (blk_ok (N := ["words", "frame", "letters", "filling", "text", "letter", "sign"]) (own := [("letter", 5)]) (by exact (And.intro rfl True.intro)) (by decide +kernel)) (fun s H C cl fp => (sg_name (i := 5) G.blk.nd rfl (.inr rfl))) (fun s H C cl fp => sts_nil) (fun s H C cl fp => (se_bi bi_len Z.b_len (sa_cons (SN.se (sn_lc G.blk (si_a (se_v (i := 4) rfl (.inr (.inl rfl)))) (blk_ok (N := ["words", "frame", "letters", "filling", "text", "letter", "sign"]) (own := [("sign", 6)]) (by exact (And.intro rfl True.intro)) (by decide +kernel)) (fun s H C cl fp => (sg_name (i := 6) G.blk.blk.nd rfl (.inl rfl))) (fun s H C cl fp => (sts_one (st_cm (cm_eq G.blk.blk) (se_v (i := 6) rfl (.inl rfl)) (se_v (i := 5) rfl (.inr (.inl rfl)))))) (fun s H C cl fp => (se_v (i := 6) rfl (.inl rfl))) (by decide))) sa_nil))) (by decide)))))))
theorem k_law (Z : Fx mg) (c_told_text : CalK P w K mg base 4 "told_text" fn_told_text) (c_is_true : CalK P w K mg base 4 "is_true" fn_is_true) (c_true_fillings : CalK P w K mg base 4 "true_fillings" fn_true_fillings) (c_nearest : CalK P w K mg base 4 "nearest" fn_nearest) (c__law_draws : CalK P w K mg base 1 "_law_draws" fn__law_draws) (c__law_mix : CalK P w K mg base 1 "_law_mix" fn__law_mix) (c__law_text : CalK P w K mg base 1 "_law_text" fn__law_text) (c__law_counts : CalK P w K mg base 2 "_law_counts" fn__law_counts) {f : Addr} {fd : FuncData} {ns : List Int} (F : Fun K "law" "law" s_law f fd) (hr : Room 5 callerA) (hlaw : fn_law [.scr ns] = .ok (.bl true)) : LawAt P w K mg base f fd "script" ns :=
  law_at F sc_law hr (by decide) (fun cdv A outer s H E hgd G => (sss_cons (ss_set (i := 1) G rfl (.inr rfl) (se_call G c__law_draws (by decide) (sa_cons (se_v (i := 0) rfl (.inl rfl)) sa_nil)))
  (sss_cons (ss_set (i := 2) G rfl (.inr rfl) (se_ix (se_lst (sa_cons (se_lst (sa_cons (se_str [97] rfl (by decide)) sa_nil)) (sa_cons (se_lst (sa_cons (se_str [97] rfl (by decide)) (sa_cons (se_str [98] rfl (by decide)) sa_nil))) (sa_cons (se_lst (sa_cons (se_str [98] rfl (by decide)) (sa_cons (se_str [99] rfl (by decide)) sa_nil))) (sa_cons (se_lst (sa_cons (se_str [97] rfl (by decide)) (sa_cons (se_str [98] rfl (by decide)) (sa_cons (se_str [99] rfl (by decide)) sa_nil)))) sa_nil))))) (se_call G c__law_mix (by decide) (sa_cons (se_v (i := 1) rfl (.inr (.inl rfl))) (sa_cons se_int (sa_cons se_int sa_nil)))) (fun _ _ => rfl)))
  (sss_cons (ss_new (i := 3) G rfl (.inr rfl) (sn_lst sa_nil))
  (sss_cons (ss_for G (si_range1 Z.b_range (sa_cons (se_add se_int (se_call G c__law_mix (by decide) (sa_cons (se_v (i := 1) rfl (.inr (.inl rfl))) (sa_cons se_int (sa_cons (se_ix (se_lst (sa_cons se_int (sa_cons se_int (sa_cons se_int sa_nil)))) (se_sub (se_bi bi_len Z.b_len (sa_cons (se_v (i := 2) rfl (.inr (.inl rfl))) sa_nil)) se_int) (fun _ _ => rfl)) sa_nil))))) sa_nil)) (sg_name (i := 4) G.nd rfl (.inr rfl)) (sss_cons (ss_set (i := 5) G rfl (.inl rfl) (se_add se_int (se_call G c__law_mix (by decide) (sa_cons (se_v (i := 1) rfl (.inr (.inl rfl))) (sa_cons (se_add se_int (se_mul se_int (se_v (i := 4) rfl (.inr (.inl rfl))))) (sa_cons se_int sa_nil))))))
  (sss_one (ss_append (i := 3) rfl (.inr (.inl rfl)) (se_join (se_str [] rfl (by decide)) (SN.se (sn_lc G (si_range1 Z.b_range (sa_cons (se_v (i := 5) rfl (.inl rfl)) sa_nil)) (blk_ok (N := ["script", "draws", "letters", "words", "t", "size", "frame", "kept", "every", "letter", "longer", "told", "rows", "best", "good", "found", "tries", "right", "j", "number", "k", "one", "two", "far", "sign"]) (own := [("j", 18)]) (by exact (And.intro rfl (And.intro rfl True.intro))) (by decide +kernel)) (fun s H C cl fp => (sg_name (i := 18) G.blk.nd rfl (.inl rfl))) (fun s H C cl fp => sts_nil) (fun s H C cl fp => (se_ix (se_str [97, 98, 99, 120, 121, 122] rfl (by decide)) (se_call G.blk c__law_mix (by decide) (sa_cons (se_v (i := 1) rfl (.inr (.inl rfl))) (sa_cons (se_add (se_add se_int (se_mul se_int (se_v (i := 4) rfl (.inr (.inl rfl))))) (se_v (i := 18) rfl (.inl rfl))) (sa_cons (se_ix (se_lst (sa_cons se_int (sa_cons se_int (sa_cons se_int sa_nil)))) (se_call G.blk c__law_mix (by decide) (sa_cons (se_v (i := 1) rfl (.inr (.inl rfl))) (sa_cons se_int (sa_cons se_int sa_nil)))) (fun _ _ => rfl)) sa_nil)))) (fun _ _ => rfl))) (by decide))))))))
  (sss_cons (ss_set (i := 6) G rfl (.inr rfl) (se_join (se_str [] rfl (by decide)) (SN.se (sn_lc G (si_range1 Z.b_range (sa_cons (se_call G c__law_mix (by decide) (sa_cons (se_v (i := 1) rfl (.inr (.inl rfl))) (sa_cons se_int (sa_cons se_int sa_nil)))) sa_nil)) (blk_ok (N := ["script", "draws", "letters", "words", "t", "size", "frame", "kept", "every", "letter", "longer", "told", "rows", "best", "good", "found", "tries", "right", "j", "number", "k", "one", "two", "far", "sign"]) (own := [("t", 4)]) (by exact (And.intro rfl True.intro)) (by decide +kernel)) (fun s H C cl fp => (sg_name (i := 4) G.blk.nd rfl (.inl rfl))) (fun s H C cl fp => sts_nil) (fun s H C cl fp => (se_ix (se_str [97, 98, 99, 120, 32] rfl (by decide)) (se_call G.blk c__law_mix (by decide) (sa_cons (se_v (i := 1) rfl (.inr (.inl rfl))) (sa_cons (se_add se_int (se_v (i := 4) rfl (.inl rfl))) (sa_cons se_int sa_nil)))) (fun _ _ => rfl))) (by decide)))))
  (sss_cons (ss_set (i := 7) G rfl (.inl rfl) (se_bi (bi_repr G hgd) Z.b_repr (sa_cons (se_tup (sa_cons (se_v (i := 3) rfl (.inr (.inl rfl))) (sa_cons (se_v (i := 2) rfl (.inr (.inl rfl))) sa_nil))) sa_nil)))
  (sss_cons (ss_new (i := 8) G rfl (.inl rfl) (sn_lst (sa_cons (se_lst sa_nil) sa_nil)))
  (sss_cons (ss_for G (si_a (se_v (i := 2) rfl (.inr (.inl rfl)))) (sg_name (i := 9) G.nd rfl (.inl rfl)) (sss_cons (ss_new (i := 10) G rfl (.inl rfl) (sn_lst sa_nil))
  (sss_cons (ss_for G (si_a (se_v (i := 8) rfl (.inl rfl))) (sg_name (i := 11) G.nd rfl (.inr rfl)) (sss_one (ss_set (i := 10) G rfl (.inl rfl) (se_add (se_v (i := 10) rfl (.inl rfl)) (SN.se (sn_lc G (si_range1 Z.b_range (sa_cons (se_bi bi_len Z.b_len (sa_cons (se_v (i := 3) rfl (.inr (.inl rfl))) sa_nil)) sa_nil)) (blk_ok (N := ["script", "draws", "letters", "words", "t", "size", "frame", "kept", "every", "letter", "longer", "told", "rows", "best", "good", "found", "tries", "right", "j", "number", "k", "one", "two", "far", "sign"]) (own := [("number", 19)]) (by exact (And.intro rfl True.intro)) (by decide +kernel)) (fun s H C cl fp => (sg_name (i := 19) G.blk.nd rfl (.inl rfl))) (fun s H C cl fp => sts_nil) (fun s H C cl fp => (se_add (se_v (i := 11) rfl (.inr (.inl rfl))) (se_lst (sa_cons (se_v (i := 19) rfl (.inl rfl)) sa_nil)))) (by decide)))))))
  (sss_one (ss_set (i := 8) G rfl (.inl rfl) (se_v (i := 10) rfl (.inl rfl)))))))
  (sss_cons (ss_newLc (i := 12) G rfl rfl (sw_true rfl rfl rfl (by decide +kernel)) (si_a (se_sl (se_v (i := 8) rfl (.inl rfl)) so_none (so_some se_int))) (blk_ok (N := ["script", "draws", "letters", "words", "t", "size", "frame", "kept", "every", "letter", "longer", "told", "rows", "best", "good", "found", "tries", "right", "j", "number", "k", "one", "two", "far", "sign"]) (own := [("told", 11)]) (by exact (And.intro rfl (And.intro rfl (And.intro rfl True.intro)))) (by decide +kernel)) (fun s H C cl fp => (sg_name (i := 11) G.blk.nd rfl (.inr rfl))) (fun s H C cl fp => sts_nil) (fun s H C cl fp => (se_tup (sa_cons (se_bi (bi_sum G.blk) Z.b_sum (sa_cons (SN.se (sn_lc G.blk (si_a (SN.se (sn_lc G.blk (si_range1 Z.b_range (sa_cons (se_bi bi_len Z.b_len (sa_cons (se_v (i := 11) rfl (.inr (.inl rfl))) sa_nil)) sa_nil)) (blk_ok (N := ["script", "draws", "letters", "words", "t", "size", "frame", "kept", "every", "letter", "longer", "told", "rows", "best", "good", "found", "tries", "right", "j", "number", "k", "one", "two", "far", "sign"]) (own := [("k", 20)]) (by exact (And.intro rfl (And.intro rfl (And.intro rfl (And.intro rfl True.intro))))) (by decide +kernel)) (fun s H C cl fp => (sg_name (i := 20) G.blk.blk.nd rfl (.inl rfl))) (fun s H C cl fp => sts_nil) (fun s H C cl fp => (se_tup (sa_cons (se_ix (se_v (i := 11) rfl (.inr (.inl rfl))) (se_v (i := 20) rfl (.inl rfl)) (fun _ _ => rfl)) (sa_cons (se_ix (se_call G.blk.blk c__law_counts (by decide) (sa_cons (se_v (i := 3) rfl (.inr (.inl rfl))) (sa_cons (se_v (i := 6) rfl (.inr (.inl rfl))) (sa_cons (se_v (i := 2) rfl (.inr (.inl rfl))) (sa_cons (se_v (i := 11) rfl (.inr (.inl rfl))) sa_nil))))) (se_v (i := 20) rfl (.inl rfl)) (fun _ _ => rfl)) sa_nil)))) (by decide)))) (blk_ok (N := ["script", "draws", "letters", "words", "t", "size", "frame", "kept", "every", "letter", "longer", "told", "rows", "best", "good", "found", "tries", "right", "j", "number", "k", "one", "two", "far", "sign"]) (own := [("one", 21), ("two", 22)]) (by exact True.intro) (by decide +kernel)) (fun s H C cl fp => (sg_tup G.blk.blk.calm (sgs_cons (sg_name (i := 21) G.blk.blk.nd rfl (.inl rfl)) (sgs_cons (sg_name (i := 22) G.blk.blk.nd rfl (.inl rfl)) sgs_nil (by decide)) (by decide)))) (fun s H C cl fp => sts_nil) (fun s H C cl fp => (se_bi bi_abs Z.b_abs (sa_cons (se_sub (se_v (i := 21) rfl (.inl rfl)) (se_v (i := 22) rfl (.inl rfl))) sa_nil))) (by decide))) sa_nil)) (sa_cons (se_v (i := 11) rfl (.inr (.inl rfl))) sa_nil)))) (by decide))
  (sss_cons (ss_set (i := 13) G rfl (.inl rfl) (se_bi (bi_min G) Z.b_min (sa_cons (se_v (i := 12) rfl (.inl rfl)) sa_nil)))
  (sss_cons (ss_newLc (i := 14) G rfl rfl (sw_true rfl rfl rfl (by decide +kernel)) (si_a (se_v (i := 12) rfl (.inl rfl))) (blk_ok (N := ["script", "draws", "letters", "words", "t", "size", "frame", "kept", "every", "letter", "longer", "told", "rows", "best", "good", "found", "tries", "right", "j", "number", "k", "one", "two", "far", "sign"]) (own := [("far", 23), ("told", 11)]) (by exact True.intro) (by decide +kernel)) (fun s H C cl fp => (sg_tup G.blk.calm (sgs_cons (sg_name (i := 23) G.blk.nd rfl (.inl rfl)) (sgs_cons (sg_name (i := 11) G.blk.nd rfl (.inl rfl)) sgs_nil (by decide)) (by decide)))) (fun s H C cl fp => (sts_one (st_cm (cm_eq G.blk) (se_v (i := 23) rfl (.inl rfl)) se_int))) (fun s H C cl fp => (se_v (i := 11) rfl (.inl rfl))) (by decide))
  (sss_cons (ss_fresh (i := 15) G rfl (.inl rfl) (se_call G c_true_fillings (by decide) (sa_cons (se_v (i := 3) rfl (.inr (.inl rfl))) (sa_cons (se_v (i := 6) rfl (.inr (.inl rfl))) (sa_cons (se_v (i := 2) rfl (.inr (.inl rfl))) sa_nil)))))
  (sss_cons (ss_if (sw_pt (sw_or (st_cm (cm_ne G) (se_bi (bi_repr G hgd) Z.b_repr (sa_cons (se_v (i := 15) rfl (.inl rfl)) sa_nil)) (se_bi (bi_repr G hgd) Z.b_repr (sa_cons (se_v (i := 14) rfl (.inl rfl)) sa_nil))) (sw_or1 (st_cm (cm_ne G) (se_bi (bi_repr G hgd) Z.b_repr (sa_cons (se_call G c_nearest (by decide) (sa_cons (se_v (i := 3) rfl (.inr (.inl rfl))) (sa_cons (se_v (i := 6) rfl (.inr (.inl rfl))) (sa_cons (se_v (i := 2) rfl (.inr (.inl rfl))) sa_nil)))) sa_nil)) (se_bi (bi_repr G hgd) Z.b_repr (sa_cons (se_v (i := 13) rfl (.inl rfl)) sa_nil)))))) (sss_one (ss_ret se_bl)) sss_nil)
  (sss_cons (ss_for G (si_a (se_v (i := 14) rfl (.inl rfl))) (sg_name (i := 11) G.nd rfl (.inr rfl)) (sss_one (ss_if (st_cm (cm_ne G) (SN.se (sn_lc G (si_range1 Z.b_range (sa_cons (se_bi bi_len Z.b_len (sa_cons (se_v (i := 2) rfl (.inr (.inl rfl))) sa_nil)) sa_nil)) (blk_ok (N := ["script", "draws", "letters", "words", "t", "size", "frame", "kept", "every", "letter", "longer", "told", "rows", "best", "good", "found", "tries", "right", "j", "number", "k", "one", "two", "far", "sign"]) (own := [("k", 20)]) (by exact (And.intro rfl (And.intro rfl (And.intro rfl True.intro)))) (by decide +kernel)) (fun s H C cl fp => (sg_name (i := 20) G.blk.nd rfl (.inr rfl))) (fun s H C cl fp => (sts_one (st_cm cm_le (se_ix (se_v (i := 11) rfl (.inr (.inl rfl))) (se_v (i := 20) rfl (.inr (.inl rfl))) (fun _ _ => rfl)) (se_bi bi_len Z.b_len (sa_cons (SN.se (sn_lc G.blk (si_a (se_v (i := 6) rfl (.inr (.inl rfl)))) (blk_ok (N := ["script", "draws", "letters", "words", "t", "size", "frame", "kept", "every", "letter", "longer", "told", "rows", "best", "good", "found", "tries", "right", "j", "number", "k", "one", "two", "far", "sign"]) (own := [("sign", 24)]) (by exact (And.intro rfl (And.intro rfl True.intro))) (by decide +kernel)) (fun s H C cl fp => (sg_name (i := 24) G.blk.blk.nd rfl (.inl rfl))) (fun s H C cl fp => (sts_one (st_cm (cm_eq G.blk.blk) (se_v (i := 24) rfl (.inl rfl)) (se_ix (se_v (i := 2) rfl (.inr (.inl rfl))) (se_v (i := 20) rfl (.inr (.inl rfl))) (fun _ _ => rfl))))) (fun s H C cl fp => (se_v (i := 24) rfl (.inl rfl))) (by decide))) sa_nil))))) (fun s H C cl fp => (se_v (i := 20) rfl (.inr (.inl rfl)))) (by decide))) (se_lst sa_nil)) (sss_one (ss_ret se_bl)) sss_nil)))
  (sss_cons (ss_if (st_cm (cm_ne G) (se_call G c_true_fillings (by decide) (sa_cons (se_v (i := 3) rfl (.inr (.inl rfl))) (sa_cons (se_add (se_v (i := 6) rfl (.inr (.inl rfl))) (se_str [122] rfl (by decide))) (sa_cons (se_v (i := 2) rfl (.inr (.inl rfl))) sa_nil)))) (se_v (i := 14) rfl (.inl rfl))) (sss_one (ss_if (st_cm (cm_notIn G) (se_str [122] rfl (by decide)) (se_v (i := 2) rfl (.inr (.inl rfl)))) (sss_one (ss_ret se_bl)) sss_nil)) sss_nil)
  (sss_cons (ss_new (i := 16) G rfl (.inl rfl) (sn_add (se_sl (se_v (i := 14) rfl (.inl rfl)) so_none (so_some se_int)) (se_lst (sa_cons (se_lst sa_nil) (sa_cons (se_mul (se_lst (sa_cons se_int sa_nil)) (se_bi bi_len Z.b_len (sa_cons (se_v (i := 2) rfl (.inr (.inl rfl))) sa_nil))) (sa_cons (se_mul (se_lst (sa_cons (se_bi bi_len Z.b_len (sa_cons (se_v (i := 3) rfl (.inr (.inl rfl))) sa_nil)) sa_nil)) (se_bi bi_len Z.b_len (sa_cons (se_v (i := 2) rfl (.inr (.inl rfl))) sa_nil))) (sa_cons (se_mul (se_lst (sa_cons (se_neg se_int) sa_nil)) (se_bi bi_len Z.b_len (sa_cons (se_v (i := 2) rfl (.inr (.inl rfl))) sa_nil))) (sa_cons (se_mul (se_lst (sa_cons se_int sa_nil)) (se_add (se_bi bi_len Z.b_len (sa_cons (se_v (i := 2) rfl (.inr (.inl rfl))) sa_nil)) se_int)) sa_nil))))))))
  (sss_cons (ss_for G (si_range1 Z.b_range (sa_cons se_int sa_nil)) (sg_name (i := 4) G.nd rfl (.inr rfl)) (sss_cons (ss_set (i := 11) G rfl (.inr rfl) (se_ix (se_v (i := 8) rfl (.inl rfl)) (se_call G c__law_mix (by decide) (sa_cons (se_v (i := 1) rfl (.inr (.inl rfl))) (sa_cons (se_add se_int (se_v (i := 4) rfl (.inr (.inl rfl)))) (sa_cons (se_bi bi_len Z.b_len (sa_cons (se_v (i := 8) rfl (.inl rfl)) sa_nil)) sa_nil)))) (fun _ _ => rfl)))
  (sss_cons (ss_append (i := 16) rfl (.inl rfl) (se_v (i := 11) rfl (.inr (.inl rfl))))
  (sss_one (ss_if (st_cm (cm_ne G) (se_bi (bi_repr G hgd) Z.b_repr (sa_cons (se_call G c_told_text (by decide) (sa_cons (se_v (i := 3) rfl (.inr (.inl rfl))) (sa_cons (se_v (i := 6) rfl (.inr (.inl rfl))) (sa_cons (se_v (i := 2) rfl (.inr (.inl rfl))) (sa_cons (se_v (i := 11) rfl (.inr (.inl rfl))) sa_nil))))) sa_nil)) (se_bi (bi_repr G hgd) Z.b_repr (sa_cons (se_call G c__law_text (by decide) (sa_cons (se_v (i := 3) rfl (.inr (.inl rfl))) (sa_cons (se_v (i := 6) rfl (.inr (.inl rfl))) (sa_cons (se_v (i := 2) rfl (.inr (.inl rfl))) (sa_cons (se_v (i := 11) rfl (.inr (.inl rfl))) sa_nil))))) sa_nil))) (sss_one (ss_ret se_bl)) sss_nil)))))
  (sss_cons (ss_for G (si_a (se_v (i := 16) rfl (.inl rfl))) (sg_name (i := 11) G.nd rfl (.inr rfl)) (sss_cons (ss_set (i := 17) G rfl (.inl rfl) (se_and (se_cm (cm_eq G) (se_bi bi_len Z.b_len (sa_cons (se_v (i := 11) rfl (.inr (.inl rfl))) sa_nil)) (se_bi bi_len Z.b_len (sa_cons (se_v (i := 2) rfl (.inr (.inl rfl))) sa_nil))) (se_one (se_cm (cm_eq G) (SN.se (sn_lc G (si_a (se_v (i := 11) rfl (.inr (.inl rfl)))) (blk_ok (N := ["script", "draws", "letters", "words", "t", "size", "frame", "kept", "every", "letter", "longer", "told", "rows", "best", "good", "found", "tries", "right", "j", "number", "k", "one", "two", "far", "sign"]) (own := [("number", 19)]) (by exact (And.intro rfl True.intro)) (by decide +kernel)) (fun s H C cl fp => (sg_name (i := 19) G.blk.nd rfl (.inl rfl))) (fun s H C cl fp => (sts_one (st_not (st_cm2 cm_le cm_lt se_int (se_v (i := 19) rfl (.inl rfl)) (se_bi bi_len Z.b_len (sa_cons (se_v (i := 3) rfl (.inr (.inl rfl))) sa_nil)))))) (fun s H C cl fp => (se_v (i := 19) rfl (.inl rfl))) (by decide))) (se_lst sa_nil)))))
  (sss_cons (ss_set (i := 17) G rfl (.inl rfl) (se_and (se_v (i := 17) rfl (.inl rfl)) (se_one (se_cm (cm_eq G) (se_call G c__law_counts (by decide) (sa_cons (se_v (i := 3) rfl (.inr (.inl rfl))) (sa_cons (se_v (i := 6) rfl (.inr (.inl rfl))) (sa_cons (se_v (i := 2) rfl (.inr (.inl rfl))) (sa_cons (se_v (i := 11) rfl (.inr (.inl rfl))) sa_nil))))) (se_v (i := 11) rfl (.inr (.inl rfl)))))))
  (sss_one (ss_if (st_cm (cm_ne G) (se_bi (bi_repr G hgd) Z.b_repr (sa_cons (se_call G c_is_true (by decide) (sa_cons (se_v (i := 3) rfl (.inr (.inl rfl))) (sa_cons (se_v (i := 6) rfl (.inr (.inl rfl))) (sa_cons (se_v (i := 2) rfl (.inr (.inl rfl))) (sa_cons (se_v (i := 11) rfl (.inr (.inl rfl))) sa_nil))))) sa_nil)) (se_bi (bi_repr G hgd) Z.b_repr (sa_cons (se_v (i := 17) rfl (.inl rfl)) sa_nil))) (sss_one (ss_ret se_bl)) sss_nil)))))
  (sss_cons (ss_append (i := 15) rfl (.inl rfl) (se_lst sa_nil))
  (sss_cons (ss_poke (se_ix (se_call G c_nearest (by decide) (sa_cons (se_v (i := 3) rfl (.inr (.inl rfl))) (sa_cons (se_v (i := 6) rfl (.inr (.inl rfl))) (sa_cons (se_v (i := 2) rfl (.inr (.inl rfl))) sa_nil)))) se_int (fun _ _ => rfl)) se_int)
  (sss_cons (ss_if (sw_pt (sw_or (st_cm (cm_ne G) (se_call G c_true_fillings (by decide) (sa_cons (se_v (i := 3) rfl (.inr (.inl rfl))) (sa_cons (se_v (i := 6) rfl (.inr (.inl rfl))) (sa_cons (se_v (i := 2) rfl (.inr (.inl rfl))) sa_nil)))) (se_v (i := 14) rfl (.inl rfl))) (sw_or (st_cm (cm_ne G) (se_call G c_nearest (by decide) (sa_cons (se_v (i := 3) rfl (.inr (.inl rfl))) (sa_cons (se_v (i := 6) rfl (.inr (.inl rfl))) (sa_cons (se_v (i := 2) rfl (.inr (.inl rfl))) sa_nil)))) (se_v (i := 13) rfl (.inl rfl))) (sw_or1 (st_cm (cm_ne G) (se_bi (bi_repr G hgd) Z.b_repr (sa_cons (se_tup (sa_cons (se_v (i := 3) rfl (.inr (.inl rfl))) (sa_cons (se_v (i := 2) rfl (.inr (.inl rfl))) sa_nil))) sa_nil)) (se_v (i := 7) rfl (.inl rfl))))))) (sss_one (ss_ret se_bl)) sss_nil)
  (sss_one (ss_ret (se_cm (cm_eq G) (se_call G c_true_fillings (by decide) (sa_cons (se_lst (sa_cons (se_str [120] rfl (by decide)) (sa_cons (se_str [120, 97] rfl (by decide)) (sa_cons (se_str [97, 97] rfl (by decide)) sa_nil)))) (sa_cons (se_str [] rfl (by decide)) (sa_cons (se_lst (sa_cons (se_str [97] rfl (by decide)) sa_nil)) sa_nil)))) (se_lst sa_nil)))))))))))))))))))))))))) hlaw
end
/-! ### what the top has written -/
theorem all_mk {l : PySem.W.OpenLaw} {w : World} {K : PySem.W.Frag} {h : Heap} {mg : Str → Option Value} {fa : Addr} (hl : ∀ ns : List Int, ns.length ≤ 63 → fn_law [.scr ns] = .ok (.bl true)) (X : K.In h) (Gn : h.Ns mainGlobals mg) (hfa : mg "law" = some (.ref fa))
    {f0 : Addr} {oc0 kV0 dc0 pm0 cd0 ct0 : Value} {od0 an0 : Option Addr} {sl0 : Array (Option Value)}
    {f1 : Addr} {oc1 kV1 dc1 pm1 cd1 ct1 : Value} {od1 an1 : Option Addr} {sl1 : Array (Option Value)}
    {f2 : Addr} {oc2 kV2 dc2 pm2 cd2 ct2 : Value} {od2 an2 : Option Addr} {sl2 : Array (Option Value)}
    {f3 : Addr} {oc3 kV3 dc3 pm3 cd3 ct3 : Value} {od3 an3 : Option Addr} {sl3 : Array (Option Value)}
    {f4 : Addr} {oc4 kV4 dc4 pm4 cd4 ct4 : Value} {od4 an4 : Option Addr} {sl4 : Array (Option Value)}
    {f5 : Addr} {oc5 kV5 dc5 pm5 cd5 ct5 : Value} {od5 an5 : Option Addr} {sl5 : Array (Option Value)}
    {f6 : Addr} {oc6 kV6 dc6 pm6 cd6 ct6 : Value} {od6 an6 : Option Addr} {sl6 : Array (Option Value)}
    {f7 : Addr} {oc7 kV7 dc7 pm7 cd7 ct7 : Value} {od7 an7 : Option Addr} {sl7 : Array (Option Value)}
    {f8 : Addr} {oc8 kV8 dc8 pm8 cd8 ct8 : Value} {od8 an8 : Option Addr} {sl8 : Array (Option Value)}
    {f9 : Addr} {oc9 kV9 dc9 pm9 cd9 ct9 : Value} {od9 an9 : Option Addr} {sl9 : Array (Option Value)}
    {f10 : Addr} {oc10 kV10 dc10 pm10 cd10 ct10 : Value} {od10 an10 : Option Addr} {sl10 : Array (Option Value)}
    {f11 : Addr} {oc11 kV11 dc11 pm11 cd11 ct11 : Value} {od11 an11 : Option Addr} {sl11 : Array (Option Value)}
    {f12 : Addr} {oc12 kV12 dc12 pm12 cd12 ct12 : Value} {od12 an12 : Option Addr} {sl12 : Array (Option Value)}
    {f13 : Addr} {oc13 kV13 dc13 pm13 cd13 ct13 : Value} {od13 an13 : Option Addr} {sl13 : Array (Option Value)}
    {f14 : Addr} {oc14 kV14 dc14 pm14 cd14 ct14 : Value} {od14 an14 : Option Addr} {sl14 : Array (Option Value)}
    {f15 : Addr} {oc15 kV15 dc15 pm15 cd15 ct15 : Value} {od15 an15 : Option Addr} {sl15 : Array (Option Value)}
    {t_LETTERS : Tok}
    {t_MOST_COUNTED : Tok}
    {t_MOST_LETTERS : Tok}
    {t_MOST_NUMBERS : Tok}
    {t_MOST_SIGNS : Tok}
    (a0 : PySem.W.nsIn K mainGlobals "is_word" = some (some (.ref f0)))
    (l0 : K.lookup f0 = some ⟨oc0, od0, .func (PySem.W.fnOf "is_word" "is_word" (defArgs s_is_word) (defBody s_is_word) (defScope s_is_word) .none kV0 dc0 pm0 an0 cd0 ct0), sl0⟩)
    (c0 : PySem.W.codeIn K cd0 "is_word" = true)
    (k0 : PySem.W.keepIn K (.ref f0) = true)
    (a1 : PySem.W.nsIn K mainGlobals "check_numbers" = some (some (.ref f1)))
    (l1 : K.lookup f1 = some ⟨oc1, od1, .func (PySem.W.fnOf "check_numbers" "check_numbers" (defArgs s_check_numbers) (defBody s_check_numbers) (defScope s_check_numbers) .none kV1 dc1 pm1 an1 cd1 ct1), sl1⟩)
    (c1 : PySem.W.codeIn K cd1 "check_numbers" = true)
    (k1 : PySem.W.keepIn K (.ref f1) = true)
    (a2 : PySem.W.nsIn K mainGlobals "check_frame" = some (some (.ref f2)))
    (l2 : K.lookup f2 = some ⟨oc2, od2, .func (PySem.W.fnOf "check_frame" "check_frame" (defArgs s_check_frame) (defBody s_check_frame) (defScope s_check_frame) .none kV2 dc2 pm2 an2 cd2 ct2), sl2⟩)
    (c2 : PySem.W.codeIn K cd2 "check_frame" = true)
    (k2 : PySem.W.keepIn K (.ref f2) = true)
    (a3 : PySem.W.nsIn K mainGlobals "text_of" = some (some (.ref f3)))
    (l3 : K.lookup f3 = some ⟨oc3, od3, .func (PySem.W.fnOf "text_of" "text_of" (defArgs s_text_of) (defBody s_text_of) (defScope s_text_of) .none kV3 dc3 pm3 an3 cd3 ct3), sl3⟩)
    (c3 : PySem.W.codeIn K cd3 "text_of" = true)
    (k3 : PySem.W.keepIn K (.ref f3) = true)
    (a4 : PySem.W.nsIn K mainGlobals "told_text" = some (some (.ref f4)))
    (l4 : K.lookup f4 = some ⟨oc4, od4, .func (PySem.W.fnOf "told_text" "told_text" (defArgs s_told_text) (defBody s_told_text) (defScope s_told_text) .none kV4 dc4 pm4 an4 cd4 ct4), sl4⟩)
    (c4 : PySem.W.codeIn K cd4 "told_text" = true)
    (k4 : PySem.W.keepIn K (.ref f4) = true)
    (a5 : PySem.W.nsIn K mainGlobals "counts_of" = some (some (.ref f5)))
    (l5 : K.lookup f5 = some ⟨oc5, od5, .func (PySem.W.fnOf "counts_of" "counts_of" (defArgs s_counts_of) (defBody s_counts_of) (defScope s_counts_of) .none kV5 dc5 pm5 an5 cd5 ct5), sl5⟩)
    (c5 : PySem.W.codeIn K cd5 "counts_of" = true)
    (k5 : PySem.W.keepIn K (.ref f5) = true)
    (a6 : PySem.W.nsIn K mainGlobals "is_filling" = some (some (.ref f6)))
    (l6 : K.lookup f6 = some ⟨oc6, od6, .func (PySem.W.fnOf "is_filling" "is_filling" (defArgs s_is_filling) (defBody s_is_filling) (defScope s_is_filling) .none kV6 dc6 pm6 an6 cd6 ct6), sl6⟩)
    (c6 : PySem.W.codeIn K cd6 "is_filling" = true)
    (k6 : PySem.W.keepIn K (.ref f6) = true)
    (a7 : PySem.W.nsIn K mainGlobals "is_true" = some (some (.ref f7)))
    (l7 : K.lookup f7 = some ⟨oc7, od7, .func (PySem.W.fnOf "is_true" "is_true" (defArgs s_is_true) (defBody s_is_true) (defScope s_is_true) .none kV7 dc7 pm7 an7 cd7 ct7), sl7⟩)
    (c7 : PySem.W.codeIn K cd7 "is_true" = true)
    (k7 : PySem.W.keepIn K (.ref f7) = true)
    (a8 : PySem.W.nsIn K mainGlobals "fillings_of" = some (some (.ref f8)))
    (l8 : K.lookup f8 = some ⟨oc8, od8, .func (PySem.W.fnOf "fillings_of" "fillings_of" (defArgs s_fillings_of) (defBody s_fillings_of) (defScope s_fillings_of) .none kV8 dc8 pm8 an8 cd8 ct8), sl8⟩)
    (c8 : PySem.W.codeIn K cd8 "fillings_of" = true)
    (k8 : PySem.W.keepIn K (.ref f8) = true)
    (a9 : PySem.W.nsIn K mainGlobals "true_fillings" = some (some (.ref f9)))
    (l9 : K.lookup f9 = some ⟨oc9, od9, .func (PySem.W.fnOf "true_fillings" "true_fillings" (defArgs s_true_fillings) (defBody s_true_fillings) (defScope s_true_fillings) .none kV9 dc9 pm9 an9 cd9 ct9), sl9⟩)
    (c9 : PySem.W.codeIn K cd9 "true_fillings" = true)
    (k9 : PySem.W.keepIn K (.ref f9) = true)
    (a10 : PySem.W.nsIn K mainGlobals "nearest" = some (some (.ref f10)))
    (l10 : K.lookup f10 = some ⟨oc10, od10, .func (PySem.W.fnOf "nearest" "nearest" (defArgs s_nearest) (defBody s_nearest) (defScope s_nearest) .none kV10 dc10 pm10 an10 cd10 ct10), sl10⟩)
    (c10 : PySem.W.codeIn K cd10 "nearest" = true)
    (k10 : PySem.W.keepIn K (.ref f10) = true)
    (a11 : PySem.W.nsIn K mainGlobals "_law_draws" = some (some (.ref f11)))
    (l11 : K.lookup f11 = some ⟨oc11, od11, .func (PySem.W.fnOf "_law_draws" "_law_draws" (defArgs s__law_draws) (defBody s__law_draws) (defScope s__law_draws) .none kV11 dc11 pm11 an11 cd11 ct11), sl11⟩)
    (c11 : PySem.W.codeIn K cd11 "_law_draws" = true)
    (k11 : PySem.W.keepIn K (.ref f11) = true)
    (a12 : PySem.W.nsIn K mainGlobals "_law_mix" = some (some (.ref f12)))
    (l12 : K.lookup f12 = some ⟨oc12, od12, .func (PySem.W.fnOf "_law_mix" "_law_mix" (defArgs s__law_mix) (defBody s__law_mix) (defScope s__law_mix) .none kV12 dc12 pm12 an12 cd12 ct12), sl12⟩)
    (c12 : PySem.W.codeIn K cd12 "_law_mix" = true)
    (k12 : PySem.W.keepIn K (.ref f12) = true)
    (a13 : PySem.W.nsIn K mainGlobals "_law_text" = some (some (.ref f13)))
    (l13 : K.lookup f13 = some ⟨oc13, od13, .func (PySem.W.fnOf "_law_text" "_law_text" (defArgs s__law_text) (defBody s__law_text) (defScope s__law_text) .none kV13 dc13 pm13 an13 cd13 ct13), sl13⟩)
    (c13 : PySem.W.codeIn K cd13 "_law_text" = true)
    (k13 : PySem.W.keepIn K (.ref f13) = true)
    (a14 : PySem.W.nsIn K mainGlobals "_law_counts" = some (some (.ref f14)))
    (l14 : K.lookup f14 = some ⟨oc14, od14, .func (PySem.W.fnOf "_law_counts" "_law_counts" (defArgs s__law_counts) (defBody s__law_counts) (defScope s__law_counts) .none kV14 dc14 pm14 an14 cd14 ct14), sl14⟩)
    (c14 : PySem.W.codeIn K cd14 "_law_counts" = true)
    (k14 : PySem.W.keepIn K (.ref f14) = true)
    (a15 : PySem.W.nsIn K mainGlobals "law" = some (some (.ref f15)))
    (l15 : K.lookup f15 = some ⟨oc15, od15, .func (PySem.W.fnOf "law" "law" (defArgs s_law) (defBody s_law) (defScope s_law) .none kV15 dc15 pm15 an15 cd15 ct15), sl15⟩)
    (c15 : PySem.W.codeIn K cd15 "law" = true)
    (k15 : PySem.W.keepIn K (.ref f15) = true)
    (z_abs : PySem.W.nsIn K mainGlobals "abs" = some none)
    (z_all : PySem.W.nsIn K mainGlobals "all" = some none)
    (z_enumerate : PySem.W.nsIn K mainGlobals "enumerate" = some none)
    (z_int : PySem.W.nsIn K mainGlobals "int" = some none)
    (z_len : PySem.W.nsIn K mainGlobals "len" = some none)
    (z_list : PySem.W.nsIn K mainGlobals "list" = some none)
    (z_min : PySem.W.nsIn K mainGlobals "min" = some none)
    (z_range : PySem.W.nsIn K mainGlobals "range" = some none)
    (z_repr : PySem.W.nsIn K mainGlobals "repr" = some none)
    (z_sum : PySem.W.nsIn K mainGlobals "sum" = some none)
    (z_zip : PySem.W.nsIn K mainGlobals "zip" = some none)
    (v_LETTERS : PySem.W.nsIn K mainGlobals "LETTERS" = some (some (.str "abcdefghijklmnopqrstuvwxyz" t_LETTERS)))
    (v_MOST_COUNTED : PySem.W.nsIn K mainGlobals "MOST_COUNTED" = some (some (.int 3 t_MOST_COUNTED)))
    (v_MOST_LETTERS : PySem.W.nsIn K mainGlobals "MOST_LETTERS" = some (some (.int 8 t_MOST_LETTERS)))
    (v_MOST_NUMBERS : PySem.W.nsIn K mainGlobals "MOST_NUMBERS" = some (some (.int 16 t_MOST_NUMBERS)))
    (v_MOST_SIGNS : PySem.W.nsIn K mainGlobals "MOST_SIGNS" = some (some (.int 60 t_MOST_SIGNS)))
    : ∃ fd : FuncData, (∀ (s : Shared) (u : Value), BindsTo s fd ⟨[u], []⟩ [("script", u)]) ∧ ∀ (base : Heap) (ns : List Int), ns.length ≤ 63 → K.In base → base.Ns mainGlobals mg → LawAt l.prog w K mg base fa fd "script" ns := by
  have e := hfa.symm.trans (PySem.W.mg_of X Gn a15)
  cases e
  have Z : Fx mg := ⟨PySem.W.mg_none_of X Gn z_abs, PySem.W.mg_none_of X Gn z_all, PySem.W.mg_none_of X Gn z_enumerate, PySem.W.mg_none_of X Gn z_int, PySem.W.mg_none_of X Gn z_len, PySem.W.mg_none_of X Gn z_list, PySem.W.mg_none_of X Gn z_min, PySem.W.mg_none_of X Gn z_range, PySem.W.mg_none_of X Gn z_repr, PySem.W.mg_none_of X Gn z_sum, PySem.W.mg_none_of X Gn z_zip, ⟨_, PySem.W.mg_of X Gn v_LETTERS⟩, ⟨_, PySem.W.mg_of X Gn v_MOST_COUNTED⟩, ⟨_, PySem.W.mg_of X Gn v_MOST_LETTERS⟩, ⟨_, PySem.W.mg_of X Gn v_MOST_NUMBERS⟩, ⟨_, PySem.W.mg_of X Gn v_MOST_SIGNS⟩⟩
  refine ⟨PySem.W.fnOf "law" "law" (defArgs s_law) (defBody s_law) (defScope s_law) .none kV15 dc15 pm15 an15 cd15 ct15, fun s v => .of_eq rfl, fun base ns hn _ _ => ?_⟩
  have c_is_word : CalK l.prog w K mg base 1 "is_word" fn_is_word := k_is_word Z  (fun_mk (st := s_is_word) l0 c0 k0) (PySem.W.mg_of X Gn a0)
  have c_check_numbers : CalK l.prog w K mg base 2 "check_numbers" fn_check_numbers := k_check_numbers Z c_is_word (fun_mk (st := s_check_numbers) l1 c1 k1) (PySem.W.mg_of X Gn a1)
  have c_check_frame : CalK l.prog w K mg base 3 "check_frame" fn_check_frame := k_check_frame Z c_check_numbers (fun_mk (st := s_check_frame) l2 c2 k2) (PySem.W.mg_of X Gn a2)
  have c_text_of : CalK l.prog w K mg base 1 "text_of" fn_text_of := k_text_of Z  (fun_mk (st := s_text_of) l3 c3 k3) (PySem.W.mg_of X Gn a3)
  have c_told_text : CalK l.prog w K mg base 4 "told_text" fn_told_text := k_told_text Z c_check_frame c_text_of (fun_mk (st := s_told_text) l4 c4 k4) (PySem.W.mg_of X Gn a4)
  have c_counts_of : CalK l.prog w K mg base 2 "counts_of" fn_counts_of := k_counts_of Z c_text_of (fun_mk (st := s_counts_of) l5 c5 k5) (PySem.W.mg_of X Gn a5)
  have c_is_filling : CalK l.prog w K mg base 1 "is_filling" fn_is_filling := k_is_filling Z  (fun_mk (st := s_is_filling) l6 c6 k6) (PySem.W.mg_of X Gn a6)
  have c_is_true : CalK l.prog w K mg base 4 "is_true" fn_is_true := k_is_true Z c_check_frame c_counts_of c_is_filling (fun_mk (st := s_is_true) l7 c7 k7) (PySem.W.mg_of X Gn a7)
  have c_fillings_of : CalK l.prog w K mg base 1 "fillings_of" fn_fillings_of := k_fillings_of Z  (fun_mk (st := s_fillings_of) l8 c8 k8) (PySem.W.mg_of X Gn a8)
  have c_true_fillings : CalK l.prog w K mg base 4 "true_fillings" fn_true_fillings := k_true_fillings Z c_check_frame c_counts_of c_fillings_of (fun_mk (st := s_true_fillings) l9 c9 k9) (PySem.W.mg_of X Gn a9)
  have c_nearest : CalK l.prog w K mg base 4 "nearest" fn_nearest := k_nearest Z c_check_frame c_counts_of c_fillings_of (fun_mk (st := s_nearest) l10 c10 k10) (PySem.W.mg_of X Gn a10)
  have c__law_draws : CalK l.prog w K mg base 1 "_law_draws" fn__law_draws := k__law_draws Z  (fun_mk (st := s__law_draws) l11 c11 k11) (PySem.W.mg_of X Gn a11)
  have c__law_mix : CalK l.prog w K mg base 1 "_law_mix" fn__law_mix := k__law_mix Z  (fun_mk (st := s__law_mix) l12 c12 k12) (PySem.W.mg_of X Gn a12)
  have c__law_text : CalK l.prog w K mg base 1 "_law_text" fn__law_text := k__law_text Z  (fun_mk (st := s__law_text) l13 c13 k13) (PySem.W.mg_of X Gn a13)
  have c__law_counts : CalK l.prog w K mg base 2 "_law_counts" fn__law_counts := k__law_counts Z c__law_text (fun_mk (st := s__law_counts) l14 c14 k14) (PySem.W.mg_of X Gn a14)
  exact k_law Z c_told_text c_is_true c_true_fillings c_nearest c__law_draws c__law_mix c__law_text c__law_counts (fun_mk (st := s_law) l15 c15 k15) ⟨rfl, by decide +kernel, by decide +kernel⟩ (hl ns hn)
end K59

namespace K59
open PySem PySem.Spec Ev
/-! ### the draws -/
def Dr (ds : List Int) : Prop := ∀ d ∈ ds, 0 ≤ d ∧ d < 65536
theorem Dr.snoc {ds : List Int} {d : Int} (h : Dr ds) (h1 : 0 ≤ d) (h2 : d < 65536) : Dr (ds ++ [d]) := fun x hx => by
  rcases List.mem_append.mp hx with z | z
  · exact h x z
  · rw [List.mem_singleton.mp z]
    exact ⟨h1, h2⟩
theorem dIs_app (a : List Int) (x : Int) : dIs (a ++ [x]) = .lst (a.map D.int ++ [.int x]) := by simp [dIs]
theorem map_app (a : List Int) (x : Int) : (a ++ [x]).map D.int = a.map D.int ++ [.int x] := by simp
theorem mixA (x0 x1 x4 x5 : Option D) (kk rest : Int) : c2 gMod (cA gInt (aC (c2 gAdd (c2 gMul (cV 3) (cC (.int 48271))) (c2 gMul (c2 gAdd (cV 2) (cC (.int 1))) (cC (.int 69621)))) aN)) (cC (.int 2147483647)) [x0, x1, some (.int kk), some (.int rest), x4, x5] = .ok (.int ((rest * 48271 + (kk + 1) * 69621) % 2147483647)) := by
  simp only [cA, aC, aN, cV, cC, c1, c2, cMs, cTup, cLst, cAnd, cOr, cIf, cT, cB, tNotB, tAndB, tOrB, tY, iA, iF, gN, gT, gsC, gsN, aS, pN, pS, cSl, cCh, gNot, walked, bo, br, bs, noR_ok, truB, truI, truS, truL, asBB, asI, gLenL, gLenT, gLenS, gLenN, gAddI, gSubI, gNegI, gLtI, gLeI, gGtI, gGeI, gLtS, gLeS, gGtS, gGeS, gAbsI, gIntI, gInC, gNotInC, gIsN, gIsNotN, gListL, gListT, gTupleL, gEqI, gNeI, gEqS, gNeS, List.getElem?_cons_succ, List.getElem?_cons_zero, List.set_cons_succ, List.set_cons_zero, List.map_cons, List.map_nil, List.cons_append, List.nil_append, wipeE, ↓reduceIte, Bool.not_true, Bool.not_false, Bool.false_eq_true, List.replicate_succ, List.replicate_zero, Nat.reduceSub, gMulR (show -18446744073709551616 < (48271 : Int) ∧ (48271 : Int) < 18446744073709551616 by decide), gMulR (show -18446744073709551616 < (69621 : Int) ∧ (69621 : Int) < 18446744073709551616 by decide), gModI (show (0 : Int) < 2147483647 by decide)]
theorem mixB (x0 x1 x3 x4 : Option D) (kk m1 : Int) : c2 gMod (cA gInt (aC (c2 gAdd (c2 gAdd (c2 gMul (cV 5) (cC (.int 16807))) (c2 gMul (cC (.int 11)) (cV 2))) (cC (.int 5))) aN)) (cC (.int 2147483629)) [x0, x1, some (.int kk), x3, x4, some (.int m1)] = .ok (.int ((m1 * 16807 + 11 * kk + 5) % 2147483629)) := by
  simp only [cA, aC, aN, cV, cC, c1, c2, cMs, cTup, cLst, cAnd, cOr, cIf, cT, cB, tNotB, tAndB, tOrB, tY, iA, iF, gN, gT, gsC, gsN, aS, pN, pS, cSl, cCh, gNot, walked, bo, br, bs, noR_ok, truB, truI, truS, truL, asBB, asI, gLenL, gLenT, gLenS, gLenN, gAddI, gSubI, gNegI, gLtI, gLeI, gGtI, gGeI, gLtS, gLeS, gGtS, gGeS, gAbsI, gIntI, gInC, gNotInC, gIsN, gIsNotN, gListL, gListT, gTupleL, gEqI, gNeI, gEqS, gNeS, List.getElem?_cons_succ, List.getElem?_cons_zero, List.set_cons_succ, List.set_cons_zero, List.map_cons, List.map_nil, List.cons_append, List.nil_append, wipeE, ↓reduceIte, Bool.not_true, Bool.not_false, Bool.false_eq_true, List.replicate_succ, List.replicate_zero, Nat.reduceSub, gMulR (show -18446744073709551616 < (16807 : Int) ∧ (16807 : Int) < 18446744073709551616 by decide), gMulLft (show -18446744073709551616 < (11 : Int) ∧ (11 : Int) < 18446744073709551616 by decide), gModI (show (0 : Int) < 2147483629 by decide)]
theorem e__law_draws (ns : List Int) (hn : ns.length ≤ 63) : ∃ ds : List Int, Dr ds ∧ fn__law_draws [.scr ns] = .ok (dIs ds) := by
  have hb : big = 16777216 := rfl
  suffices h : ∃ ds : List Int, Dr ds ∧ b__law_draws ([D.scr ns].map some ++ List.replicate (6 - 1) none) [] = .ok (.rt (dIs ds)) by
    obtain ⟨ds, h1, h2⟩ := h
    exact ⟨ds, h1, runB_rt rfl h2⟩
  have loop : Go (sfFor [2] (([] ++ (([0] ++ []) ++ [])) ++ []) (iF range1 (aC (cA gMin (aC (cC (.int 63)) (aC (cA gLen (aC (cV 0) aN)) aN))) aN)) (gN 2) (seqO (sfSet 3 (([0] ++ [2]) ++ []) (cA gAbs (aC (c2 gIx (cV 0) (cV 2)) aN)))
  (sfIf (cB (c2 gGe (cV 3) (c2 gPow (cC (.int 10)) (cC (.int 18))))) (sfFor [4] ([] ++ []) (iF range1 (aC (cC (.int 60)) aN)) (gN 4) (sfIf (cB (c2 gGt (cV 3) (cC (.int 0)))) (seqO (sfApp 1 (([3] ++ []) ++ []) (c2 gMod (cA gInt (aC (cV 3) aN)) (cC (.int 65536))))
  (sfSet 3 ([3] ++ []) (c2 gDiv (cV 3) (cC (.int 65536))))) sfN)) (seqO (sfSet 5 (((([3] ++ []) ++ (([2] ++ []) ++ [])) ++ []) ++ []) (c2 gMod (cA gInt (aC (c2 gAdd (c2 gMul (cV 3) (cC (.int 48271))) (c2 gMul (c2 gAdd (cV 2) (cC (.int 1))) (cC (.int 69621)))) aN)) (cC (.int 2147483647))))
  (seqO (sfSet 5 ((((([5] ++ []) ++ ([] ++ [2])) ++ []) ++ []) ++ []) (c2 gMod (cA gInt (aC (c2 gAdd (c2 gAdd (c2 gMul (cV 5) (cC (.int 16807))) (c2 gMul (cC (.int 11)) (cV 2))) (cC (.int 5))) aN)) (cC (.int 2147483629))))
  (seqO (sfApp 1 (([5] ++ []) ++ []) (c2 gMod (cA gInt (aC (cV 5) aN)) (cC (.int 65536))))
  (sfApp 1 ((([5] ++ []) ++ []) ++ []) (c2 gMod (cA gInt (aC (c2 gDiv (cV 5) (cC (.int 65536))) aN)) (cC (.int 32768))))))))) [some (.scr ns), some (.lst []), none, none, none, none] [1]) (fun ρ own => ∃ acc a b c d, Dr acc ∧ ρ = [some (.scr ns), some (dIs acc), a, b, c, d]) := by
    refine go_for (List.range ns.length) (fun (k : Nat) => .int (k : Int)) (fun done ρ own => 1 ∈ own ∧ ∃ acc a b c d, Dr acc ∧ acc.length ≤ 60 * done.length ∧ ρ = [some (.scr ns), some (dIs acc), a, b, c, d]) ?_ ⟨by simp [sansO], [], none, none, none, none, (fun _ z => by cases z), Nat.zero_le _, rfl⟩ ?_ fun ρ own ⟨_, acc, a, b, c, d, h1, _, h2⟩ => ⟨acc, a, b, c, d, h1, h2⟩
    · have e : (if (ns.length : Int) < 63 then (ns.length : Int) else 63) = ns.length := by
        split <;> omega
      simp only [cA, aC, aN, cV, cC, c1, c2, cMs, cTup, cLst, cAnd, cOr, cIf, cT, cB, tNotB, tAndB, tOrB, tY, iA, iF, gN, gT, gsC, gsN, aS, pN, pS, cSl, cCh, gNot, walked, bo, br, bs, noR_ok, truB, truI, truS, truL, asBB, asI, gLenL, gLenT, gLenS, gLenN, gAddI, gSubI, gNegI, gLtI, gLeI, gGtI, gGeI, gLtS, gLeS, gGtS, gGeS, gAbsI, gIntI, gInC, gNotInC, gIsN, gIsNotN, gListL, gListT, gTupleL, gEqI, gNeI, gEqS, gNeS, List.getElem?_cons_succ, List.getElem?_cons_zero, List.set_cons_succ, List.set_cons_zero, List.map_cons, List.map_nil, List.cons_append, List.nil_append, wipeE, ↓reduceIte, Bool.not_true, Bool.not_false, Bool.false_eq_true, List.replicate_succ, List.replicate_zero, Nat.reduceSub, gMin2I, e, range1_nat ns.length (by omega)]
    · rintro d1 k d2 e ρ own ⟨ho, acc, a, b, c, d, hd, hl, rfl⟩
      have hk : k < ns.length := List.mem_range.mp (by rw [e]; simp)
      have hd1 : d1.length ≤ 62 := by
        have := congrArg List.length e
        simp only [List.length_range, List.length_append, List.length_cons] at this
        omega
      refine ⟨_, rfl, Go.c ?_⟩
      generalize hr : (if ns[k] < 0 then -ns[k] else ns[k]) = rest
      have hr0 : 0 ≤ rest := by
        rw [← hr]
        split <;> omega
      refine gos_set (d := .int rest) ?_ ?_
      · simp only [cA, aC, aN, cV, cC, c1, c2, cMs, cTup, cLst, cAnd, cOr, cIf, cT, cB, tNotB, tAndB, tOrB, tY, iA, iF, gN, gT, gsC, gsN, aS, pN, pS, cSl, cCh, gNot, walked, bo, br, bs, noR_ok, truB, truI, truS, truL, asBB, asI, gLenL, gLenT, gLenS, gLenN, gAddI, gSubI, gNegI, gLtI, gLeI, gGtI, gGeI, gLtS, gLeS, gGtS, gGeS, gAbsI, gIntI, gInC, gNotInC, gIsN, gIsNotN, gListL, gListT, gTupleL, gEqI, gNeI, gEqS, gNeS, List.getElem?_cons_succ, List.getElem?_cons_zero, List.set_cons_succ, List.set_cons_zero, List.map_cons, List.map_nil, List.cons_append, List.nil_append, wipeE, ↓reduceIte, Bool.not_true, Bool.not_false, Bool.false_eq_true, List.replicate_succ, List.replicate_zero, Nat.reduceSub, gIx_scr (List.getElem?_eq_getElem hk), hr]
      have ho2 : 1 ∈ dropO (keepO (sansO own [2]) ([0] ++ [2] ++ []) (D.int rest)) 3 := in_dropO (in_keepA (in_sansO ho (by decide)) rfl) (by decide)
      refine go_if (k := decide (rest ≥ 10 ^ 18)) ?_ (fun _ => ?_) (fun _ => ?_)
      · have g : gPow (.int 10) (.int 18) = .ok (.int (10 ^ 18)) := by
          simp only [gPow]
          rw [if_pos (by decide)]
          rfl
        simp only [cA, aC, aN, cV, cC, c1, c2, cMs, cTup, cLst, cAnd, cOr, cIf, cT, cB, tNotB, tAndB, tOrB, tY, iA, iF, gN, gT, gsC, gsN, aS, pN, pS, cSl, cCh, gNot, walked, bo, br, bs, noR_ok, truB, truI, truS, truL, asBB, asI, gLenL, gLenT, gLenS, gLenN, gAddI, gSubI, gNegI, gLtI, gLeI, gGtI, gGeI, gLtS, gLeS, gGtS, gGeS, gAbsI, gIntI, gInC, gNotInC, gIsN, gIsNotN, gListL, gListT, gTupleL, gEqI, gNeI, gEqS, gNeS, List.getElem?_cons_succ, List.getElem?_cons_zero, List.set_cons_succ, List.set_cons_zero, List.map_cons, List.map_nil, List.cons_append, List.nil_append, wipeE, ↓reduceIte, Bool.not_true, Bool.not_false, Bool.false_eq_true, List.replicate_succ, List.replicate_zero, Nat.reduceSub, g]
      · refine go_for (List.range 60) (fun (k : Nat) => .int (k : Int)) (fun done ρ own => 1 ∈ own ∧ ∃ acc' b' c', Dr acc' ∧ 0 ≤ b' ∧ acc'.length ≤ acc.length + done.length ∧ ρ = [some (.scr ns), some (dIs acc'), some (.int (k : Int)), some (.int b'), c', d]) ?_ ⟨in_sansO ho2 (by decide), acc, rest, c, hd, hr0, Nat.le_refl _, rfl⟩ ?_ ?_
        · simp only [cA, aC, aN, cV, cC, c1, c2, cMs, cTup, cLst, cAnd, cOr, cIf, cT, cB, tNotB, tAndB, tOrB, tY, iA, iF, gN, gT, gsC, gsN, aS, pN, pS, cSl, cCh, gNot, walked, bo, br, bs, noR_ok, truB, truI, truS, truL, asBB, asI, gLenL, gLenT, gLenS, gLenN, gAddI, gSubI, gNegI, gLtI, gLeI, gGtI, gGeI, gLtS, gLeS, gGtS, gGeS, gAbsI, gIntI, gInC, gNotInC, gIsN, gIsNotN, gListL, gListT, gTupleL, gEqI, gNeI, gEqS, gNeS, List.getElem?_cons_succ, List.getElem?_cons_zero, List.set_cons_succ, List.set_cons_zero, List.map_cons, List.map_nil, List.cons_append, List.nil_append, wipeE, ↓reduceIte, Bool.not_true, Bool.not_false, Bool.false_eq_true, List.replicate_succ, List.replicate_zero, Nat.reduceSub]
          exact range1_nat 60 (by decide)
        · rintro d3 j d4 e2 ρ own2 ⟨ho3, acc', b', c', hd', hb', hl', rfl⟩
          have hd3 : d3.length ≤ 59 := by
            have := congrArg List.length e2
            simp only [List.length_range, List.length_append, List.length_cons] at this
            omega
          refine ⟨_, rfl, Go.c (go_if (k := decide (b' > 0)) (by simp only [cA, aC, aN, cV, cC, c1, c2, cMs, cTup, cLst, cAnd, cOr, cIf, cT, cB, tNotB, tAndB, tOrB, tY, iA, iF, gN, gT, gsC, gsN, aS, pN, pS, cSl, cCh, gNot, walked, bo, br, bs, noR_ok, truB, truI, truS, truL, asBB, asI, gLenL, gLenT, gLenS, gLenN, gAddI, gSubI, gNegI, gLtI, gLeI, gGtI, gGeI, gLtS, gLeS, gGtS, gGeS, gAbsI, gIntI, gInC, gNotInC, gIsN, gIsNotN, gListL, gListT, gTupleL, gEqI, gNeI, gEqS, gNeS, List.getElem?_cons_succ, List.getElem?_cons_zero, List.set_cons_succ, List.set_cons_zero, List.map_cons, List.map_nil, List.cons_append, List.nil_append, wipeE, ↓reduceIte, Bool.not_true, Bool.not_false, Bool.false_eq_true, List.replicate_succ, List.replicate_zero, Nat.reduceSub]) (fun _ => ?_) (fun _ => ?_))⟩
          · refine gos_app (xs := acc'.map D.int) (d := .int (b' % 65536)) rfl ?_ (in_keepA (in_sansO ho3 (by decide)) rfl) (by rw [List.length_map]; omega) ?_
            · simp only [cA, aC, aN, cV, cC, c1, c2, cMs, cTup, cLst, cAnd, cOr, cIf, cT, cB, tNotB, tAndB, tOrB, tY, iA, iF, gN, gT, gsC, gsN, aS, pN, pS, cSl, cCh, gNot, walked, bo, br, bs, noR_ok, truB, truI, truS, truL, asBB, asI, gLenL, gLenT, gLenS, gLenN, gAddI, gSubI, gNegI, gLtI, gLeI, gGtI, gGeI, gLtS, gLeS, gGtS, gGeS, gAbsI, gIntI, gInC, gNotInC, gIsN, gIsNotN, gListL, gListT, gTupleL, gEqI, gNeI, gEqS, gNeS, List.getElem?_cons_succ, List.getElem?_cons_zero, List.set_cons_succ, List.set_cons_zero, List.map_cons, List.map_nil, List.cons_append, List.nil_append, wipeE, ↓reduceIte, Bool.not_true, Bool.not_false, Bool.false_eq_true, List.replicate_succ, List.replicate_zero, Nat.reduceSub, gModI (show (0 : Int) < 65536 by decide)]
            · refine go_set (d := .int (b' / 65536)) ?_ ⟨in_dropO (in_keepA (in_keepA (in_sansO ho3 (by decide)) rfl) rfl) (by decide), acc' ++ [b' % 65536], b' / 65536, some (.int (j : Int)), hd'.snoc (by omega) (by omega), by omega, by simp only [List.length_append, List.length_cons, List.length_nil]; omega, ?_⟩
              · simp only [cA, aC, aN, cV, cC, c1, c2, cMs, cTup, cLst, cAnd, cOr, cIf, cT, cB, tNotB, tAndB, tOrB, tY, iA, iF, gN, gT, gsC, gsN, aS, pN, pS, cSl, cCh, gNot, walked, bo, br, bs, noR_ok, truB, truI, truS, truL, asBB, asI, gLenL, gLenT, gLenS, gLenN, gAddI, gSubI, gNegI, gLtI, gLeI, gGtI, gGeI, gLtS, gLeS, gGtS, gGeS, gAbsI, gIntI, gInC, gNotInC, gIsN, gIsNotN, gListL, gListT, gTupleL, gEqI, gNeI, gEqS, gNeS, List.getElem?_cons_succ, List.getElem?_cons_zero, List.set_cons_succ, List.set_cons_zero, List.map_cons, List.map_nil, List.cons_append, List.nil_append, wipeE, ↓reduceIte, Bool.not_true, Bool.not_false, Bool.false_eq_true, List.replicate_succ, List.replicate_zero, Nat.reduceSub, gDivI (show (0 : Int) < 65536 ∧ (65536 : Int) < 1073741824 by decide)]
              · rw [dIs_app]
                rfl
          · exact go_pass ⟨in_sansO ho3 (by decide), acc', b', _, hd', hb', by simp only [List.length_append]; omega, rfl⟩
        · rintro ρ own2 ⟨ho3, acc', b', c', hd', hb', hl', rfl⟩
          refine ⟨ho3, acc', _, _, _, _, hd', ?_, rfl⟩
          simp only [List.length_range, List.length_append, List.length_cons, List.length_nil] at hl' ⊢
          omega
      · generalize ((k : Nat) : Int) = kk
        refine gos_set (d := .int ((rest * 48271 + (kk + 1) * 69621) % 2147483647)) ?_ ?_
        · exact mixA _ _ _ _ _ _
        generalize (rest * 48271 + (kk + 1) * 69621) % 2147483647 = m1
        refine gos_set (d := .int ((m1 * 16807 + 11 * kk + 5) % 2147483629)) ?_ ?_
        · exact mixB _ _ _ _ _ _
        generalize hm2 : (m1 * 16807 + 11 * kk + 5) % 2147483629 = m2
        have hm0 : 0 ≤ m2 := by
          rw [← hm2]
          exact Int.emod_nonneg _ (by decide)
        clear hm2
        have ho3 : 1 ∈ dropO (keepO (dropO (keepO (dropO (keepO (sansO own [2]) ([0] ++ [2] ++ []) (D.int rest)) 3) ([3] ++ [] ++ ([2] ++ [] ++ []) ++ [] ++ []) (D.int m1)) 5) ([5] ++ [] ++ ([] ++ [2]) ++ [] ++ [] ++ []) (D.int m2)) 5 := in_dropO (in_keepA (in_dropO (in_keepA ho2 rfl) (by decide)) rfl) (by decide)
        refine gos_app (xs := acc.map D.int) (d := .int (m2 % 65536)) rfl ?_ (in_keepA ho3 rfl) (by rw [List.length_map]; omega) ?_
        · simp only [cA, aC, aN, cV, cC, c1, c2, cMs, cTup, cLst, cAnd, cOr, cIf, cT, cB, tNotB, tAndB, tOrB, tY, iA, iF, gN, gT, gsC, gsN, aS, pN, pS, cSl, cCh, gNot, walked, bo, br, bs, noR_ok, truB, truI, truS, truL, asBB, asI, gLenL, gLenT, gLenS, gLenN, gAddI, gSubI, gNegI, gLtI, gLeI, gGtI, gGeI, gLtS, gLeS, gGtS, gGeS, gAbsI, gIntI, gInC, gNotInC, gIsN, gIsNotN, gListL, gListT, gTupleL, gEqI, gNeI, gEqS, gNeS, List.getElem?_cons_succ, List.getElem?_cons_zero, List.set_cons_succ, List.set_cons_zero, List.map_cons, List.map_nil, List.cons_append, List.nil_append, wipeE, ↓reduceIte, Bool.not_true, Bool.not_false, Bool.false_eq_true, List.replicate_succ, List.replicate_zero, Nat.reduceSub, gModI (show (0 : Int) < 65536 by decide)]
        refine go_app (xs := (acc ++ [m2 % 65536]).map D.int) (d := .int ((m2 / 65536) % 32768)) ?_ ?_ (in_keepA (in_keepA ho3 rfl) rfl) (by rw [List.length_map, List.length_append, List.length_cons, List.length_nil]; omega) ⟨in_keepA (in_keepA ho3 rfl) rfl, acc ++ [m2 % 65536] ++ [(m2 / 65536) % 32768], some (.int kk), some (.int rest), c, some (.int m2), (hd.snoc (by omega) (by omega)).snoc (by omega) (by omega), by simp only [List.length_append, List.length_cons, List.length_nil]; omega, ?_⟩
        · rw [map_app]
          rfl
        · simp only [cA, aC, aN, cV, cC, c1, c2, cMs, cTup, cLst, cAnd, cOr, cIf, cT, cB, tNotB, tAndB, tOrB, tY, iA, iF, gN, gT, gsC, gsN, aS, pN, pS, cSl, cCh, gNot, walked, bo, br, bs, noR_ok, truB, truI, truS, truL, asBB, asI, gLenL, gLenT, gLenS, gLenN, gAddI, gSubI, gNegI, gLtI, gLeI, gGtI, gGeI, gLtS, gLeS, gGtS, gGeS, gAbsI, gIntI, gInC, gNotInC, gIsN, gIsNotN, gListL, gListT, gTupleL, gEqI, gNeI, gEqS, gNeS, List.getElem?_cons_succ, List.getElem?_cons_zero, List.set_cons_succ, List.set_cons_zero, List.map_cons, List.map_nil, List.cons_append, List.nil_append, wipeE, ↓reduceIte, Bool.not_true, Bool.not_false, Bool.false_eq_true, List.replicate_succ, List.replicate_zero, Nat.reduceSub, gDivI (show (0 : Int) < 65536 ∧ (65536 : Int) < 1073741824 by decide), gModI (show (0 : Int) < 32768 by decide)]
        · rw [dIs_app, map_app]
          rfl
  obtain ⟨ρ, own, e, acc, a, b, c, d, h1, rfl⟩ := loop
  refine ⟨acc, h1, ?_⟩
  refine rts_new (d := .lst []) rfl (by simp) ?_
  refine (seqO_nx e).trans ?_
  exact sfRet_ok rfl
theorem mixC (x0 : Option D) (kk m cell : Int) (hm : 0 < m) : c2 gMod (cA gInt (aC (c2 gDiv (cA gInt (aC (c2 gAdd (c2 gMul (cV 3) (cC (.int 7919))) (c2 gMul (cV 1) (cC (.int 104729)))) aN)) (cC (.int 3))) aN)) (cV 2) [x0, some (.int kk), some (.int m), some (.int cell)] = .ok (.int (((cell * 7919 + kk * 104729) / 3) % m)) := by
  simp only [cA, aC, aN, cV, cC, c1, c2, cMs, cTup, cLst, cAnd, cOr, cIf, cT, cB, tNotB, tAndB, tOrB, tY, iA, iF, gN, gT, gsC, gsN, aS, pN, pS, cSl, cCh, gNot, walked, bo, br, bs, noR_ok, truB, truI, truS, truL, asBB, asI, gLenL, gLenT, gLenS, gLenN, gAddI, gSubI, gNegI, gLtI, gLeI, gGtI, gGeI, gLtS, gLeS, gGtS, gGeS, gAbsI, gIntI, gInC, gNotInC, gIsN, gIsNotN, gListL, gListT, gTupleL, gEqI, gNeI, gEqS, gNeS, List.getElem?_cons_succ, List.getElem?_cons_zero, List.set_cons_succ, List.set_cons_zero, List.map_cons, List.map_nil, List.cons_append, List.nil_append, wipeE, ↓reduceIte, Bool.not_true, Bool.not_false, Bool.false_eq_true, List.replicate_succ, List.replicate_zero, Nat.reduceSub, gMulR (show -18446744073709551616 < (7919 : Int) ∧ (7919 : Int) < 18446744073709551616 by decide), gMulR (show -18446744073709551616 < (104729 : Int) ∧ (104729 : Int) < 18446744073709551616 by decide), gModI hm, gDivI (show (0 : Int) < 3 ∧ (3 : Int) < 1073741824 by decide)]
theorem e__law_mix0 (ds : List Int) (k m : Nat) (hm : 0 < m) : ∃ r : Nat, r < m ∧ fn__law_mix [dIs ds, .int (k : Int), .int (m : Int)] = .ok (.int (r : Int)) := by
  have hm1 : (0 : Int) < (m : Int) := by omega
  have fin : ∀ x : Int, ∃ r : Nat, r < m ∧ x % (m : Int) = (r : Int) := fun x => by
    have h1 := Int.emod_nonneg x (show (m : Int) ≠ 0 by omega)
    have h2 := Int.emod_lt_of_pos x hm1
    exact ⟨(x % (m : Int)).toNat, by omega, by omega⟩
  have body : ∀ (cell : Int) (own : List Nat), ∃ r : Nat, r < m ∧ seqO (sfIf (cB (c2 gLt (cV 1) (cA gLen (aC (cV 0) aN)))) (sfRet (c2 gMod (cA gInt (aC (cV 3) aN)) (cV 2))) sfN)
      (sfRet (c2 gMod (cA gInt (aC (c2 gDiv (cA gInt (aC (c2 gAdd (c2 gMul (cV 3) (cC (.int 7919))) (c2 gMul (cV 1) (cC (.int 104729)))) aN)) (cC (.int 3))) aN)) (cV 2))) [some (dIs ds), some (.int (k : Int)), some (.int (m : Int)), some (.int cell)] own = .ok (.rt (.int (r : Int))) := fun cell own => by
    have t1 : cB (c2 gLt (cV 1) (cA gLen (aC (cV 0) aN))) [some (dIs ds), some (.int (k : Int)), some (.int (m : Int)), some (.int cell)] = .ok (decide ((k : Int) < (ds.length : Int))) := by
      simp only [cA, aC, aN, cV, cC, c1, c2, cMs, cTup, cLst, cAnd, cOr, cIf, cT, cB, tNotB, tAndB, tOrB, tY, iA, iF, gN, gT, gsC, gsN, aS, pN, pS, cSl, cCh, gNot, walked, bo, br, bs, noR_ok, truB, truI, truS, truL, asBB, asI, gLenL, gLenT, gLenS, gLenN, gAddI, gSubI, gNegI, gLtI, gLeI, gGtI, gGeI, gLtS, gLeS, gGtS, gGeS, gAbsI, gIntI, gInC, gNotInC, gIsN, gIsNotN, gListL, gListT, gTupleL, gEqI, gNeI, gEqS, gNeS, List.getElem?_cons_succ, List.getElem?_cons_zero, List.set_cons_succ, List.set_cons_zero, List.map_cons, List.map_nil, List.cons_append, List.nil_append, wipeE, ↓reduceIte, Bool.not_true, Bool.not_false, Bool.false_eq_true, List.replicate_succ, List.replicate_zero, Nat.reduceSub, List.length_map]
    by_cases hk : (k : Int) < (ds.length : Int)
    · obtain ⟨r, h1, h2⟩ := fin cell
      refine ⟨r, h1, ?_⟩
      rw [seqO_rt (d := .int (r : Int))]
      rw [sfIf_t (t1.trans (by rw [decide_eq_true hk]))]
      refine sfRet_ok ?_
      simp only [cA, aC, aN, cV, cC, c1, c2, cMs, cTup, cLst, cAnd, cOr, cIf, cT, cB, tNotB, tAndB, tOrB, tY, iA, iF, gN, gT, gsC, gsN, aS, pN, pS, cSl, cCh, gNot, walked, bo, br, bs, noR_ok, truB, truI, truS, truL, asBB, asI, gLenL, gLenT, gLenS, gLenN, gAddI, gSubI, gNegI, gLtI, gLeI, gGtI, gGeI, gLtS, gLeS, gGtS, gGeS, gAbsI, gIntI, gInC, gNotInC, gIsN, gIsNotN, gListL, gListT, gTupleL, gEqI, gNeI, gEqS, gNeS, List.getElem?_cons_succ, List.getElem?_cons_zero, List.set_cons_succ, List.set_cons_zero, List.map_cons, List.map_nil, List.cons_append, List.nil_append, wipeE, ↓reduceIte, Bool.not_true, Bool.not_false, Bool.false_eq_true, List.replicate_succ, List.replicate_zero, Nat.reduceSub, gModI hm1, h2]
    · obtain ⟨r, h1, h2⟩ := fin ((cell * 7919 + (k : Int) * 104729) / 3)
      refine ⟨r, h1, ?_⟩
      rw [seqO_nx (sfIf_fN (t1.trans (by rw [decide_eq_false hk])))]
      refine sfRet_ok ?_
      rw [mixC _ _ _ _ hm1, h2]
  have t0 : cB (c2 gGt (cA gLen (aC (cV 0) aN)) (cC (.int 0))) [some (dIs ds), some (.int (k : Int)), some (.int (m : Int)), some (.int 0)] = .ok (decide ((ds.length : Int) > 0)) := by
    simp only [cA, aC, aN, cV, cC, c1, c2, cMs, cTup, cLst, cAnd, cOr, cIf, cT, cB, tNotB, tAndB, tOrB, tY, iA, iF, gN, gT, gsC, gsN, aS, pN, pS, cSl, cCh, gNot, walked, bo, br, bs, noR_ok, truB, truI, truS, truL, asBB, asI, gLenL, gLenT, gLenS, gLenN, gAddI, gSubI, gNegI, gLtI, gLeI, gGtI, gGeI, gLtS, gLeS, gGtS, gGeS, gAbsI, gIntI, gInC, gNotInC, gIsN, gIsNotN, gListL, gListT, gTupleL, gEqI, gNeI, gEqS, gNeS, List.getElem?_cons_succ, List.getElem?_cons_zero, List.set_cons_succ, List.set_cons_zero, List.map_cons, List.map_nil, List.cons_append, List.nil_append, wipeE, ↓reduceIte, Bool.not_true, Bool.not_false, Bool.false_eq_true, List.replicate_succ, List.replicate_zero, Nat.reduceSub, List.length_map]
  suffices h : ∃ r : Nat, r < m ∧ b__law_mix ([dIs ds, .int (k : Int), .int (m : Int)].map some ++ List.replicate (4 - 3) none) [] = .ok (.rt (.int (r : Int))) by
    obtain ⟨r, h1, h2⟩ := h
    exact ⟨r, h1, runB_rt rfl h2⟩
  by_cases hd : (ds.length : Int) > 0
  · have hl : k % ds.length < ds.length := Nat.mod_lt _ (by omega)
    obtain ⟨r, h1, h2⟩ := body ds[k % ds.length] (dropO (keepO (dropO (keepO [] [] (.int 0)) 3) ([0] ++ (([1] ++ []) ++ ([0] ++ []))) (.int ds[k % ds.length])) 3)
    refine ⟨r, h1, ?_⟩
    refine rts_set (d := .int 0) rfl ?_
    refine (seqO_nx ((sfIf_t (t0.trans (by rw [decide_eq_true hd]))).trans (sfSet_ok (d := .int ds[k % ds.length]) ?_))).trans h2
    have e1 : (k : Int) % (ds.length : Int) = ((k % ds.length : Nat) : Int) := by simp
    have e2 : gIx (dIs ds) (.int ((k % ds.length : Nat) : Int)) = .ok (.int ds[k % ds.length]) := ix_map D.int (List.getElem?_eq_getElem hl)
    show c2 gIx (cV 0) (c2 gMod (cA gInt (aC (cV 1) aN)) (cA gLen (aC (cV 0) aN))) [some (dIs ds), some (.int (k : Int)), some (.int (m : Int)), some (.int 0)] = _
    simp only [cA, aC, aN, cV, cC, c1, c2, cMs, cTup, cLst, cAnd, cOr, cIf, cT, cB, tNotB, tAndB, tOrB, tY, iA, iF, gN, gT, gsC, gsN, aS, pN, pS, cSl, cCh, gNot, walked, bo, br, bs, noR_ok, truB, truI, truS, truL, asBB, asI, gLenL, gLenT, gLenS, gLenN, gAddI, gSubI, gNegI, gLtI, gLeI, gGtI, gGeI, gLtS, gLeS, gGtS, gGeS, gAbsI, gIntI, gInC, gNotInC, gIsN, gIsNotN, gListL, gListT, gTupleL, gEqI, gNeI, gEqS, gNeS, List.getElem?_cons_succ, List.getElem?_cons_zero, List.set_cons_succ, List.set_cons_zero, List.map_cons, List.map_nil, List.cons_append, List.nil_append, wipeE, ↓reduceIte, Bool.not_true, Bool.not_false, Bool.false_eq_true, List.replicate_succ, List.replicate_zero, Nat.reduceSub, List.length_map, gModI hd, e1, e2]
  · obtain ⟨r, h1, h2⟩ := body 0 (dropO (keepO [] [] (.int 0)) 3)
    refine ⟨r, h1, ?_⟩
    refine rts_set (d := .int 0) rfl ?_
    exact (seqO_nx (sfIf_fN (t0.trans (by rw [decide_eq_false hd])))).trans h2
/-- the draw k, below m -/
noncomputable def mixN (ds : List Int) (k m : Nat) : Nat := if h : 0 < m then (e__law_mix0 ds k m h).choose else 0
theorem mixN_lt (ds : List Int) (k m : Nat) (hm : 0 < m) : mixN ds k m < m := by
  unfold mixN
  rw [dif_pos hm]
  exact (e__law_mix0 ds k m hm).choose_spec.1
theorem e__law_mix (ds : List Int) (k m : Nat) (hm : 0 < m) : fn__law_mix [dIs ds, .int (k : Int), .int (m : Int)] = .ok (.int (mixN ds k m : Int)) := by
  unfold mixN
  rw [dif_pos hm]
  exact (e__law_mix0 ds k m hm).choose_spec.2
theorem e_mixI (ds : List Int) (k m : Int) (hk : 0 ≤ k) (hm : 0 < m) : fn__law_mix [dIs ds, .int k, .int m] = .ok (.int (mixN ds k.toNat m.toNat : Int)) := by
  have e := e__law_mix ds k.toNat m.toNat (by omega)
  rw [Int.toNat_of_nonneg hk, Int.toNat_of_nonneg (Int.le_of_lt hm)] at e
  exact e
abbrev LET : List Nat := [97, 98, 99, 100, 101, 102, 103, 104, 105, 106, 107, 108, 109, 110, 111, 112, 113, 114, 115, 116, 117, 118, 119, 120, 121, 122]

theorem e_is_word (s : List Nat) (h1 : 1 ≤ s.length) (h2 : s.length ≤ 8) (hs : ∀ c ∈ s, c ∈ LET) : fn_is_word [.str s] = .ok (.bl true) := by
  refine runB_rt rfl (sfRet_ok ?_)
  have e1 : cLC [1] (iA (cV 0)) (gN 1) tY (c2 gIn (cV 1) (cC (.str LET))) [some (.str s), none] = .ok (.lst (s.map fun c => .bl true)) := by
    refine cLC_map s (fun c => .str [c]) _ rfl fun c hc => ?_
    refine lcTurn_ok rfl rfl ?_
    simp only [cA, aC, aN, cV, cC, c1, c2, cMs, cTup, cLst, cAnd, cOr, cIf, cT, cB, tNotB, tAndB, tOrB, tY, iA, iF, gN, gT, gsC, gsN, aS, pN, pS, cSl, cCh, gNot, walked, bo, br, bs, noR_ok, truB, truI, truS, truL, asBB, asI, gLenL, gLenT, gLenS, gLenN, gAddI, gSubI, gNegI, gLtI, gLeI, gGtI, gGeI, gLtS, gLeS, gGtS, gGeS, gAbsI, gIntI, gInC, gNotInC, gIsN, gIsNotN, gListL, gListT, gTupleL, gEqI, gNeI, gEqS, gNeS, List.getElem?_cons_succ, List.getElem?_cons_zero, List.set_cons_succ, List.set_cons_zero, List.map_cons, List.map_nil, List.cons_append, List.nil_append, wipeE, ↓reduceIte, Bool.not_true, Bool.not_false, Bool.false_eq_true, List.replicate_succ, List.replicate_zero, Nat.reduceSub, hs c hc, decide_true]
  have a1 : (1 : Int) ≤ s.length := by omega
  have a2 : (s.length : Int) ≤ 8 := by omega
  show cAnd _ (cA gAll (aC (cLC [1] (iA (cV 0)) (gN 1) tY (c2 gIn (cV 1) (cC (.str LET)))) aN)) [some (.str s), none] = _
  simp only [cA, aC, aN, cV, cC, c1, c2, cMs, cTup, cLst, cAnd, cOr, cIf, cT, cB, tNotB, tAndB, tOrB, tY, iA, iF, gN, gT, gsC, gsN, aS, pN, pS, cSl, cCh, gNot, walked, bo, br, bs, noR_ok, truB, truI, truS, truL, asBB, asI, gLenL, gLenT, gLenS, gLenN, gAddI, gSubI, gNegI, gLtI, gLeI, gGtI, gGeI, gLtS, gLeS, gGtS, gGeS, gAbsI, gIntI, gInC, gNotInC, gIsN, gIsNotN, gListL, gListT, gTupleL, gEqI, gNeI, gEqS, gNeS, List.getElem?_cons_succ, List.getElem?_cons_zero, List.set_cons_succ, List.set_cons_zero, List.map_cons, List.map_nil, List.cons_append, List.nil_append, wipeE, ↓reduceIte, Bool.not_true, Bool.not_false, Bool.false_eq_true, List.replicate_succ, List.replicate_zero, Nat.reduceSub, a1, a2, decide_true, e1, gAll_bls]
  simp
/-- a good board -/
structure Good59 (ws : List (List Nat)) (fr cs : List Nat) : Prop where
  w1 : 1 ≤ ws.length
  w2 : ws.length ≤ 16
  ww : ∀ w ∈ ws, 1 ≤ w.length ∧ w.length ≤ 8 ∧ ∀ c ∈ w, c ∈ LET
  f1 : fr.length ≤ 60
  ff : ∀ c ∈ fr, c ∈ LET ++ [32]
  c1 : 1 ≤ cs.length
  c2 : cs.length ≤ 3
  cc : ∀ c ∈ cs, c ∈ LET
  cp : cs.Pairwise (· < ·)
theorem e_check_numbers {ws : List (List Nat)} {fr cs : List Nat} (h : Good59 ws fr cs) : fn_check_numbers [dSs ws] = .ok .non := by
  have a1 : (1 : Int) ≤ ((ws.map D.str).length : Nat) := by have := h.w1; simp; omega
  have a2 : ((ws.map D.str).length : Int) ≤ 16 := by have := h.w2; simp; omega
  obtain ⟨ρ', own', e, _⟩ := sfFor_inv (vs := ([1] ++ ([2] ++ []))) (lk := ([0] ++ [])) (fi := iF enum1 (aC (cV 0) aN)) (g := (gT 2 (gsC (gN 1) (gsC (gN 2) gsN)))) (body := (sfIf (tNotB (cT (cA fn_is_word (aC (cV 2) aN)))) sfStuck sfN))
    (ρ := [some (dSs ws), none, none]) (own := []) ws.zipIdx (fun p => .tup [.int (p.2 : Int), .str p.1]) (fun _ ρ _ => ∃ a b, ρ = [some (dSs ws), a, b]) (by simp only [cA, aC, aN, cV, cC, c1, c2, cMs, cTup, cLst, cAnd, cOr, cIf, cT, cB, tNotB, tAndB, tOrB, tY, iA, iF, gN, gT, gsC, gsN, aS, pN, pS, cSl, cCh, gNot, walked, bo, br, bs, noR_ok, truB, truI, truS, truL, asBB, asI, gLenL, gLenT, gLenS, gLenN, gAddI, gSubI, gNegI, gLtI, gLeI, gGtI, gGeI, gLtS, gLeS, gGtS, gGeS, gAbsI, gIntI, gInC, gNotInC, gIsN, gIsNotN, gListL, gListT, gTupleL, gEqI, gNeI, gEqS, gNeS, List.getElem?_cons_succ, List.getElem?_cons_zero, List.set_cons_succ, List.set_cons_zero, List.map_cons, List.map_nil, List.cons_append, List.nil_append, wipeE, ↓reduceIte, Bool.not_true, Bool.not_false, Bool.false_eq_true, List.replicate_succ, List.replicate_zero, Nat.reduceSub, enum_map]) ⟨_, _, rfl⟩
    (fun d1 x d2 e ρ own ⟨a, b, hρ⟩ => by
      subst hρ
      obtain ⟨w, k⟩ := x
      have hm : (w, k) ∈ ws.zipIdx := by rw [e]; simp
      have hw := h.ww w (List.fst_mem_of_mem_zipIdx hm)
      refine ⟨_, _, _, by simp only [cA, aC, aN, cV, cC, c1, c2, cMs, cTup, cLst, cAnd, cOr, cIf, cT, cB, tNotB, tAndB, tOrB, tY, iA, iF, gN, gT, gsC, gsN, aS, pN, pS, cSl, cCh, gNot, walked, bo, br, bs, noR_ok, truB, truI, truS, truL, asBB, asI, gLenL, gLenT, gLenS, gLenN, gAddI, gSubI, gNegI, gLtI, gLeI, gGtI, gGeI, gLtS, gLeS, gGtS, gGeS, gAbsI, gIntI, gInC, gNotInC, gIsN, gIsNotN, gListL, gListT, gTupleL, gEqI, gNeI, gEqS, gNeS, List.getElem?_cons_succ, List.getElem?_cons_zero, List.set_cons_succ, List.set_cons_zero, List.map_cons, List.map_nil, List.cons_append, List.nil_append, wipeE, ↓reduceIte, Bool.not_true, Bool.not_false, Bool.false_eq_true, List.replicate_succ, List.replicate_zero, Nat.reduceSub, List.length_cons, List.length_nil]; rfl, .inl (sfIf_fN ?_), ⟨_, _, rfl⟩⟩
      simp only [cA, aC, aN, cV, cC, c1, c2, cMs, cTup, cLst, cAnd, cOr, cIf, cT, cB, tNotB, tAndB, tOrB, tY, iA, iF, gN, gT, gsC, gsN, aS, pN, pS, cSl, cCh, gNot, walked, bo, br, bs, noR_ok, truB, truI, truS, truL, asBB, asI, gLenL, gLenT, gLenS, gLenN, gAddI, gSubI, gNegI, gLtI, gLeI, gGtI, gGeI, gLtS, gLeS, gGtS, gGeS, gAbsI, gIntI, gInC, gNotInC, gIsN, gIsNotN, gListL, gListT, gTupleL, gEqI, gNeI, gEqS, gNeS, List.getElem?_cons_succ, List.getElem?_cons_zero, List.set_cons_succ, List.set_cons_zero, List.map_cons, List.map_nil, List.cons_append, List.nil_append, wipeE, ↓reduceIte, Bool.not_true, Bool.not_false, Bool.false_eq_true, List.replicate_succ, List.replicate_zero, Nat.reduceSub, e_is_word w hw.1 hw.2.1 hw.2.2])
  refine runB_nx rfl (own := own') (ρ := ρ') ?_
  refine (seqO_nx (sfIf_fN ?_)).trans e
  simp only [cA, aC, aN, cV, cC, c1, c2, cMs, cTup, cLst, cAnd, cOr, cIf, cT, cB, tNotB, tAndB, tOrB, tY, iA, iF, gN, gT, gsC, gsN, aS, pN, pS, cSl, cCh, gNot, walked, bo, br, bs, noR_ok, truB, truI, truS, truL, asBB, asI, gLenL, gLenT, gLenS, gLenN, gAddI, gSubI, gNegI, gLtI, gLeI, gGtI, gGeI, gLtS, gLeS, gGtS, gGeS, gAbsI, gIntI, gInC, gNotInC, gIsN, gIsNotN, gListL, gListT, gTupleL, gEqI, gNeI, gEqS, gNeS, List.getElem?_cons_succ, List.getElem?_cons_zero, List.set_cons_succ, List.set_cons_zero, List.map_cons, List.map_nil, List.cons_append, List.nil_append, wipeE, ↓reduceIte, Bool.not_true, Bool.not_false, Bool.false_eq_true, List.replicate_succ, List.replicate_zero, Nat.reduceSub, a1, a2, decide_true, List.map_cons, List.map_nil, List.cons_append]
theorem e_check_frame {ws : List (List Nat)} {fr cs : List Nat} (h : Good59 ws fr cs) : fn_check_frame [dSs ws, dS fr, dCs cs] = .ok .non := by
  have a1 : (1 : Int) ≤ ((cs.map fun c => D.str [c]).length : Nat) := by have := h.c1; simp; omega
  have a2 : ((cs.map fun c => D.str [c]).length : Int) ≤ 3 := by have := h.c2; simp; omega
  have a3 : ¬ ((fr.length : Int) > 60) := by have := h.f1; omega
  have e1 : cLC [5] (iA (cV 1)) (gN 5) tY (c2 gIn (cV 5) (c2 gAdd (cC (.str LET)) (cC (.str [32])))) [some (dSs ws), some (dS fr), some (dCs cs), none, none, none] = .ok (.lst (fr.map fun c => .bl true)) := by
    refine cLC_map fr (fun c => .str [c]) _ rfl fun c hc => ?_
    refine lcTurn_ok rfl rfl ?_
    have g : gAdd (.str LET) (.str [32]) = .ok (.str (LET ++ [32])) := gAddS (by decide)
    simp only [cA, aC, aN, cV, cC, c1, c2, cMs, cTup, cLst, cAnd, cOr, cIf, cT, cB, tNotB, tAndB, tOrB, tY, iA, iF, gN, gT, gsC, gsN, aS, pN, pS, cSl, cCh, gNot, walked, bo, br, bs, noR_ok, truB, truI, truS, truL, asBB, asI, gLenL, gLenT, gLenS, gLenN, gAddI, gSubI, gNegI, gLtI, gLeI, gGtI, gGeI, gLtS, gLeS, gGtS, gGeS, gAbsI, gIntI, gInC, gNotInC, gIsN, gIsNotN, gListL, gListT, gTupleL, gEqI, gNeI, gEqS, gNeS, List.getElem?_cons_succ, List.getElem?_cons_zero, List.set_cons_succ, List.set_cons_zero, List.map_cons, List.map_nil, List.cons_append, List.nil_append, wipeE, ↓reduceIte, Bool.not_true, Bool.not_false, Bool.false_eq_true, List.replicate_succ, List.replicate_zero, Nat.reduceSub, g]
    rw [decide_eq_true]
    exact h.ff c hc
  refine runB_ex (I := fun _ _ => True) rfl ?_
  refine seqO_end (sfEx_ok (d := .non) (by simp only [cA, aC, aN, cV, cC, c1, c2, cMs, cTup, cLst, cAnd, cOr, cIf, cT, cB, tNotB, tAndB, tOrB, tY, iA, iF, gN, gT, gsC, gsN, aS, pN, pS, cSl, cCh, gNot, walked, bo, br, bs, noR_ok, truB, truI, truS, truL, asBB, asI, gLenL, gLenT, gLenS, gLenN, gAddI, gSubI, gNegI, gLtI, gLeI, gGtI, gGeI, gLtS, gLeS, gGtS, gGeS, gAbsI, gIntI, gInC, gNotInC, gIsN, gIsNotN, gListL, gListT, gTupleL, gEqI, gNeI, gEqS, gNeS, List.getElem?_cons_succ, List.getElem?_cons_zero, List.set_cons_succ, List.set_cons_zero, List.map_cons, List.map_nil, List.cons_append, List.nil_append, wipeE, ↓reduceIte, Bool.not_true, Bool.not_false, Bool.false_eq_true, List.replicate_succ, List.replicate_zero, Nat.reduceSub, e_check_numbers h, List.map_cons, List.cons_append])) ?_
  refine seqO_end (sfIf_fN ?_) ?_
  · show tOrB _ (tNotB (cT (cA gAll (aC (cLC [5] (iA (cV 1)) (gN 5) tY (c2 gIn (cV 5) (c2 gAdd (cC (.str LET)) (cC (.str [32]))))) aN)))) [some (dSs ws), some (dS fr), some (dCs cs), none, none, none] = _
    simp only [cA, aC, aN, cV, cC, c1, c2, cMs, cTup, cLst, cAnd, cOr, cIf, cT, cB, tNotB, tAndB, tOrB, tY, iA, iF, gN, gT, gsC, gsN, aS, pN, pS, cSl, cCh, gNot, walked, bo, br, bs, noR_ok, truB, truI, truS, truL, asBB, asI, gLenL, gLenT, gLenS, gLenN, gAddI, gSubI, gNegI, gLtI, gLeI, gGtI, gGeI, gLtS, gLeS, gGtS, gGeS, gAbsI, gIntI, gInC, gNotInC, gIsN, gIsNotN, gListL, gListT, gTupleL, gEqI, gNeI, gEqS, gNeS, List.getElem?_cons_succ, List.getElem?_cons_zero, List.set_cons_succ, List.set_cons_zero, List.map_cons, List.map_nil, List.cons_append, List.nil_append, wipeE, ↓reduceIte, Bool.not_true, Bool.not_false, Bool.false_eq_true, List.replicate_succ, List.replicate_zero, Nat.reduceSub, a3, decide_false, e1, gAll_bls]
    simp
  refine seqO_end (sfIf_fN ?_) ?_
  · simp only [cA, aC, aN, cV, cC, c1, c2, cMs, cTup, cLst, cAnd, cOr, cIf, cT, cB, tNotB, tAndB, tOrB, tY, iA, iF, gN, gT, gsC, gsN, aS, pN, pS, cSl, cCh, gNot, walked, bo, br, bs, noR_ok, truB, truI, truS, truL, asBB, asI, gLenL, gLenT, gLenS, gLenN, gAddI, gSubI, gNegI, gLtI, gLeI, gGtI, gGeI, gLtS, gLeS, gGtS, gGeS, gAbsI, gIntI, gInC, gNotInC, gIsN, gIsNotN, gListL, gListT, gTupleL, gEqI, gNeI, gEqS, gNeS, List.getElem?_cons_succ, List.getElem?_cons_zero, List.set_cons_succ, List.set_cons_zero, List.map_cons, List.map_nil, List.cons_append, List.nil_append, wipeE, ↓reduceIte, Bool.not_true, Bool.not_false, Bool.false_eq_true, List.replicate_succ, List.replicate_zero, Nat.reduceSub, a1, a2, decide_true, List.map_cons, List.cons_append]
  obtain ⟨ρ', own', e, _⟩ := sfFor_inv (vs := ([3] ++ ([4] ++ []))) (lk := ([2] ++ [])) (fi := iF enum1 (aC (cV 2) aN)) (g := gT 2 (gsC (gN 3) (gsC (gN 4) gsN))) (body := sfIf (tOrB (cB (c2 gNe (cA gLen (aC (cV 4) aN)) (cC (.int 1)))) (tOrB (cB (c2 gNotIn (cV 4) (cC (.str LET)))) (tAndB (cB (c2 gGt (cV 3) (cC (.int 0)))) (cB (c2 gGe (c2 gIx (cV 2) (c2 gSub (cV 3) (cC (.int 1)))) (cV 4)))))) sfStuck sfN)
    (ρ := [some (dSs ws), some (dS fr), some (dCs cs), none, none, none]) (own := []) cs.zipIdx (fun p => .tup [.int (p.2 : Int), .str [p.1]]) (fun _ ρ _ => ∃ a b, ρ = [some (dSs ws), some (dS fr), some (dCs cs), a, b, none]) (by simp only [cA, aC, aN, cV, cC, c1, c2, cMs, cTup, cLst, cAnd, cOr, cIf, cT, cB, tNotB, tAndB, tOrB, tY, iA, iF, gN, gT, gsC, gsN, aS, pN, pS, cSl, cCh, gNot, walked, bo, br, bs, noR_ok, truB, truI, truS, truL, asBB, asI, gLenL, gLenT, gLenS, gLenN, gAddI, gSubI, gNegI, gLtI, gLeI, gGtI, gGeI, gLtS, gLeS, gGtS, gGeS, gAbsI, gIntI, gInC, gNotInC, gIsN, gIsNotN, gListL, gListT, gTupleL, gEqI, gNeI, gEqS, gNeS, List.getElem?_cons_succ, List.getElem?_cons_zero, List.set_cons_succ, List.set_cons_zero, List.map_cons, List.map_nil, List.cons_append, List.nil_append, wipeE, ↓reduceIte, Bool.not_true, Bool.not_false, Bool.false_eq_true, List.replicate_succ, List.replicate_zero, Nat.reduceSub]; exact enum_map _ cs) ⟨_, _, rfl⟩
    (fun d1 x d2 e ρ own ⟨a, b, hρ⟩ => by
      subst hρ
      obtain ⟨c, k⟩ := x
      have hm : (c, k) ∈ cs.zipIdx := by rw [e]; simp
      have hc := h.cc c (List.fst_mem_of_mem_zipIdx hm)
      have hk : cs[k]? = some c := by simpa using List.mem_zipIdx_iff_getElem?.mp hm
      refine ⟨_, _, _, by simp only [cA, aC, aN, cV, cC, c1, c2, cMs, cTup, cLst, cAnd, cOr, cIf, cT, cB, tNotB, tAndB, tOrB, tY, iA, iF, gN, gT, gsC, gsN, aS, pN, pS, cSl, cCh, gNot, walked, bo, br, bs, noR_ok, truB, truI, truS, truL, asBB, asI, gLenL, gLenT, gLenS, gLenN, gAddI, gSubI, gNegI, gLtI, gLeI, gGtI, gGeI, gLtS, gLeS, gGtS, gGeS, gAbsI, gIntI, gInC, gNotInC, gIsN, gIsNotN, gListL, gListT, gTupleL, gEqI, gNeI, gEqS, gNeS, List.getElem?_cons_succ, List.getElem?_cons_zero, List.set_cons_succ, List.set_cons_zero, List.map_cons, List.map_nil, List.cons_append, List.nil_append, wipeE, ↓reduceIte, Bool.not_true, Bool.not_false, Bool.false_eq_true, List.replicate_succ, List.replicate_zero, Nat.reduceSub, List.length_cons, List.length_nil]; rfl, .inl (sfIf_fN ?_), ⟨_, _, rfl⟩⟩
      have b1 : ((([c].length : Nat) : Int) = 1) := rfl
      by_cases h0 : k = 0
      · subst h0
        simp only [cA, aC, aN, cV, cC, c1, c2, cMs, cTup, cLst, cAnd, cOr, cIf, cT, cB, tNotB, tAndB, tOrB, tY, iA, iF, gN, gT, gsC, gsN, aS, pN, pS, cSl, cCh, gNot, walked, bo, br, bs, noR_ok, truB, truI, truS, truL, asBB, asI, gLenL, gLenT, gLenS, gLenN, gAddI, gSubI, gNegI, gLtI, gLeI, gGtI, gGeI, gLtS, gLeS, gGtS, gGeS, gAbsI, gIntI, gInC, gNotInC, gIsN, gIsNotN, gListL, gListT, gTupleL, gEqI, gNeI, gEqS, gNeS, List.getElem?_cons_succ, List.getElem?_cons_zero, List.set_cons_succ, List.set_cons_zero, List.map_cons, List.map_nil, List.cons_append, List.nil_append, wipeE, ↓reduceIte, Bool.not_true, Bool.not_false, Bool.false_eq_true, List.replicate_succ, List.replicate_zero, Nat.reduceSub, hc, decide_true, b1]
        rfl
      · have hk1 : k - 1 < cs.length := by
          have := (List.getElem?_eq_some_iff.mp hk).1
          omega
        have ek : ((k : Int) - 1) = ((k - 1 : Nat) : Int) := by omega
        have lt : cs[k - 1] < c := by
          obtain ⟨q1, q2⟩ := List.getElem?_eq_some_iff.mp hk
          have := List.pairwise_iff_getElem.mp h.cp (k - 1) k hk1 q1 (by omega)
          rw [q2] at this
          exact this
        have gi : gIx (dCs cs) (.int ((k : Int) - 1)) = .ok (.str [cs[k - 1]]) := by
          rw [ek]
          exact ix_map (fun c => .str [c]) (List.getElem?_eq_getElem hk1)
        have b2 : ((k : Int) > 0) := by omega
        have b3 : ([cs[k - 1]] : List Nat) < [c] := List.Lex.rel lt
        simp only [cA, aC, aN, cV, cC, c1, c2, cMs, cTup, cLst, cAnd, cOr, cIf, cT, cB, tNotB, tAndB, tOrB, tY, iA, iF, gN, gT, gsC, gsN, aS, pN, pS, cSl, cCh, gNot, walked, bo, br, bs, noR_ok, truB, truI, truS, truL, asBB, asI, gLenL, gLenT, gLenS, gLenN, gAddI, gSubI, gNegI, gLtI, gLeI, gGtI, gGeI, gLtS, gLeS, gGtS, gGeS, gAbsI, gIntI, gInC, gNotInC, gIsN, gIsNotN, gListL, gListT, gTupleL, gEqI, gNeI, gEqS, gNeS, List.getElem?_cons_succ, List.getElem?_cons_zero, List.set_cons_succ, List.set_cons_zero, List.map_cons, List.map_nil, List.cons_append, List.nil_append, wipeE, ↓reduceIte, Bool.not_true, Bool.not_false, Bool.false_eq_true, List.replicate_succ, List.replicate_zero, Nat.reduceSub, hc, decide_true, b1, b2, gi, b3])
  exact ⟨ρ', own', e, trivial⟩
/-! ### texts and counts -/
def wd (ws : List (List Nat)) (n : Nat) : List Nat := ws.getD n []
def txt (ws : List (List Nat)) (fr : List Nat) (l : List (Nat × Nat)) : List Nat := l.foldl (fun acc p => acc ++ [32] ++ wd ws p.1 ++ [32] ++ [p.2]) fr
theorem txt_snoc (ws : List (List Nat)) (fr : List Nat) (l : List (Nat × Nat)) (p : Nat × Nat) : txt ws fr (l ++ [p]) = txt ws fr l ++ [32] ++ wd ws p.1 ++ [32] ++ [p.2] := by
  unfold txt
  rw [List.foldl_append]
  rfl
theorem wd_at {ws : List (List Nat)} {n : Nat} (h : n < ws.length) : ws[n]? = some (wd ws n) := by
  unfold wd
  rw [List.getD_eq_getElem?_getD, List.getElem?_eq_getElem h]
  rfl
theorem wd_le {ws : List (List Nat)} {fr cs : List Nat} (h : Good59 ws fr cs) {n : Nat} (hn : n < ws.length) : (wd ws n).length ≤ 8 := (h.ww _ (List.mem_of_getElem? (wd_at hn))).2.1
theorem txt_len {ws : List (List Nat)} {fr cs : List Nat} (h : Good59 ws fr cs) : ∀ (l : List (Nat × Nat)) (fr : List Nat), (∀ p ∈ l, p.1 < ws.length) → (txt ws fr l).length ≤ fr.length + 11 * l.length
  | [], fr, _ => Nat.le_refl _
  | p :: l, fr, hl => by
    have ih := txt_len h l (fr ++ [32] ++ wd ws p.1 ++ [32] ++ [p.2]) fun q hq => hl q (List.mem_cons_of_mem _ hq)
    have h1 := wd_le h (hl p (by simp))
    show (txt ws (fr ++ [32] ++ wd ws p.1 ++ [32] ++ [p.2]) l).length ≤ _
    simp only [List.length_append, List.length_cons, List.length_nil] at ih ⊢
    omega
/-- a filling -/
def Fill (ws : List (List Nat)) (cs t : List Nat) : Prop := t.length = cs.length ∧ ∀ n ∈ t, n < ws.length
theorem e_text_of {ws : List (List Nat)} {fr cs t : List Nat} (h : Good59 ws fr cs) (ht : Fill ws cs t) : fn_text_of [dSs ws, dS fr, dCs cs, dNs t] = .ok (.str (txt ws fr (t.zip cs))) := by
  have hb : big = 16777216 := rfl
  have hzl : (t.zip cs).length ≤ 3 := by have := h.c2; rw [List.length_zip]; omega
  have hz : ∀ p ∈ t.zip cs, p.1 < ws.length := fun p hp => ht.2 p.1 (List.of_mem_zip (a := p.1) (b := p.2) hp).1
  refine runB_rt rfl ?_
  refine (seqO_nx (sfSet_ok (d := .str fr) (by simp only [cA, aC, aN, cV, cC, c1, c2, cMs, cTup, cLst, cAnd, cOr, cIf, cT, cB, tNotB, tAndB, tOrB, tY, iA, iF, gN, gT, gsC, gsN, aS, pN, pS, cSl, cCh, gNot, walked, bo, br, bs, noR_ok, truB, truI, truS, truL, asBB, asI, gLenL, gLenT, gLenS, gLenN, gAddI, gSubI, gNegI, gLtI, gLeI, gGtI, gGeI, gLtS, gLeS, gGtS, gGeS, gAbsI, gIntI, gInC, gNotInC, gIsN, gIsNotN, gListL, gListT, gTupleL, gEqI, gNeI, gEqS, gNeS, List.getElem?_cons_succ, List.getElem?_cons_zero, List.set_cons_succ, List.set_cons_zero, List.map_cons, List.map_nil, List.cons_append, List.nil_append, wipeE, ↓reduceIte, Bool.not_true, Bool.not_false, Bool.false_eq_true, List.replicate_succ, List.replicate_zero, Nat.reduceSub, List.map_cons, List.cons_append]))).trans ?_
  refine seqO_ex (sfFor_inv (t.zip cs) (fun p => .tup [.int (p.1 : Int), .str [p.2]]) (fun done ρ _ => ∃ a b, ρ = [some (dSs ws), some (dS fr), some (dCs cs), some (dNs t), some (.str (txt ws fr done)), a, b]) ?_ ⟨none, none, rfl⟩ ?_) ?_
  · simp only [cA, aC, aN, cV, cC, c1, c2, cMs, cTup, cLst, cAnd, cOr, cIf, cT, cB, tNotB, tAndB, tOrB, tY, iA, iF, gN, gT, gsC, gsN, aS, pN, pS, cSl, cCh, gNot, walked, bo, br, bs, noR_ok, truB, truI, truS, truL, asBB, asI, gLenL, gLenT, gLenS, gLenN, gAddI, gSubI, gNegI, gLtI, gLeI, gGtI, gGeI, gLtS, gLeS, gGtS, gGeS, gAbsI, gIntI, gInC, gNotInC, gIsN, gIsNotN, gListL, gListT, gTupleL, gEqI, gNeI, gEqS, gNeS, List.getElem?_cons_succ, List.getElem?_cons_zero, List.set_cons_succ, List.set_cons_zero, List.map_cons, List.map_nil, List.cons_append, List.nil_append, wipeE, ↓reduceIte, Bool.not_true, Bool.not_false, Bool.false_eq_true, List.replicate_succ, List.replicate_zero, Nat.reduceSub, List.map_cons, List.cons_append]
    exact zip2_map _ _ t cs
  · rintro d1 ⟨n, c⟩ d2 e ρ own ⟨a, b, rfl⟩
    have hn : n < ws.length := hz (n, c) (by rw [e]; simp)
    have l1 := txt_len h d1 fr fun p hp => hz p (by rw [e]; simp [hp])
    have l0 : d1.length ≤ 3 := by
      have := congrArg List.length e
      rw [List.length_append] at this
      omega
    have l2 := wd_le h hn
    have l3 := h.f1
    refine ⟨_, _, _, by simp only [cA, aC, aN, cV, cC, c1, c2, cMs, cTup, cLst, cAnd, cOr, cIf, cT, cB, tNotB, tAndB, tOrB, tY, iA, iF, gN, gT, gsC, gsN, aS, pN, pS, cSl, cCh, gNot, walked, bo, br, bs, noR_ok, truB, truI, truS, truL, asBB, asI, gLenL, gLenT, gLenS, gLenN, gAddI, gSubI, gNegI, gLtI, gLeI, gGtI, gGeI, gLtS, gLeS, gGtS, gGeS, gAbsI, gIntI, gInC, gNotInC, gIsN, gIsNotN, gListL, gListT, gTupleL, gEqI, gNeI, gEqS, gNeS, List.getElem?_cons_succ, List.getElem?_cons_zero, List.set_cons_succ, List.set_cons_zero, List.map_cons, List.map_nil, List.cons_append, List.nil_append, wipeE, ↓reduceIte, Bool.not_true, Bool.not_false, Bool.false_eq_true, List.replicate_succ, List.replicate_zero, Nat.reduceSub, List.length_cons, List.length_nil]; rfl, .inl (sfSet_ok (d := .str (txt ws fr d1 ++ [32] ++ wd ws n ++ [32] ++ [c])) ?_), ⟨_, _, by rw [txt_snoc]; rfl⟩⟩
    have g1 : gAdd (.str (txt ws fr d1)) (.str [32]) = .ok (.str (txt ws fr d1 ++ [32])) := gAddS (by simp only [List.length_cons, List.length_nil]; omega)
    have g2 : gIx (dSs ws) (.int (n : Int)) = .ok (.str (wd ws n)) := ix_map D.str (wd_at hn)
    have g3 : gAdd (.str (txt ws fr d1 ++ [32])) (.str (wd ws n)) = .ok (.str (txt ws fr d1 ++ [32] ++ wd ws n)) := gAddS (by simp only [List.length_append, List.length_cons, List.length_nil]; omega)
    have g4 : gAdd (.str (txt ws fr d1 ++ [32] ++ wd ws n)) (.str [32]) = .ok (.str (txt ws fr d1 ++ [32] ++ wd ws n ++ [32])) := gAddS (by simp only [List.length_append, List.length_cons, List.length_nil]; omega)
    have g5 : gAdd (.str (txt ws fr d1 ++ [32] ++ wd ws n ++ [32])) (.str [c]) = .ok (.str (txt ws fr d1 ++ [32] ++ wd ws n ++ [32] ++ [c])) := gAddS (by simp only [List.length_append, List.length_cons, List.length_nil]; omega)
    simp only [cA, aC, aN, cV, cC, c1, c2, cMs, cTup, cLst, cAnd, cOr, cIf, cT, cB, tNotB, tAndB, tOrB, tY, iA, iF, gN, gT, gsC, gsN, aS, pN, pS, cSl, cCh, gNot, walked, bo, br, bs, noR_ok, truB, truI, truS, truL, asBB, asI, gLenL, gLenT, gLenS, gLenN, gAddI, gSubI, gNegI, gLtI, gLeI, gGtI, gGeI, gLtS, gLeS, gGtS, gGeS, gAbsI, gIntI, gInC, gNotInC, gIsN, gIsNotN, gListL, gListT, gTupleL, gEqI, gNeI, gEqS, gNeS, List.getElem?_cons_succ, List.getElem?_cons_zero, List.set_cons_succ, List.set_cons_zero, List.map_cons, List.map_nil, List.cons_append, List.nil_append, wipeE, ↓reduceIte, Bool.not_true, Bool.not_false, Bool.false_eq_true, List.replicate_succ, List.replicate_zero, Nat.reduceSub, g1, g2, g3, g4, g5]
  · rintro ρ' own' ⟨a, b, rfl⟩
    exact sfRet_ok rfl
def cnts (ws : List (List Nat)) (fr cs t : List Nat) : List Nat := cs.map fun c => cntN c (txt ws fr (t.zip cs))
theorem dNs_map {α : Type} (f : α → Nat) (l : List α) : (.lst (l.map fun x => .int (f x : Int)) : D) = dNs (l.map f) := by
  rw [dNs, List.map_map]
  rfl
theorem e_counts_of {ws : List (List Nat)} {fr cs t : List Nat} (h : Good59 ws fr cs) (ht : Fill ws cs t) : fn_counts_of [dSs ws, dS fr, dCs cs, dNs t] = .ok (dNs (cnts ws fr cs t)) := by
  refine runB_rt rfl ?_
  refine (seqO_nx (sfSet_ok (d := .str (txt ws fr (t.zip cs))) (by simp only [cA, aC, aN, cV, cC, c1, c2, cMs, cTup, cLst, cAnd, cOr, cIf, cT, cB, tNotB, tAndB, tOrB, tY, iA, iF, gN, gT, gsC, gsN, aS, pN, pS, cSl, cCh, gNot, walked, bo, br, bs, noR_ok, truB, truI, truS, truL, asBB, asI, gLenL, gLenT, gLenS, gLenN, gAddI, gSubI, gNegI, gLtI, gLeI, gGtI, gGeI, gLtS, gLeS, gGtS, gGeS, gAbsI, gIntI, gInC, gNotInC, gIsN, gIsNotN, gListL, gListT, gTupleL, gEqI, gNeI, gEqS, gNeS, List.getElem?_cons_succ, List.getElem?_cons_zero, List.set_cons_succ, List.set_cons_zero, List.map_cons, List.map_nil, List.cons_append, List.nil_append, wipeE, ↓reduceIte, Bool.not_true, Bool.not_false, Bool.false_eq_true, List.replicate_succ, List.replicate_zero, Nat.reduceSub, List.map_cons, List.cons_append]; exact e_text_of h ht))).trans ?_
  refine sfRet_ok ?_
  rw [cnts, ← dNs_map]
  refine cLC_map cs (fun c => .str [c]) _ (by simp only [cA, aC, aN, cV, cC, c1, c2, cMs, cTup, cLst, cAnd, cOr, cIf, cT, cB, tNotB, tAndB, tOrB, tY, iA, iF, gN, gT, gsC, gsN, aS, pN, pS, cSl, cCh, gNot, walked, bo, br, bs, noR_ok, truB, truI, truS, truL, asBB, asI, gLenL, gLenT, gLenS, gLenN, gAddI, gSubI, gNegI, gLtI, gLeI, gGtI, gGeI, gLtS, gLeS, gGtS, gGeS, gAbsI, gIntI, gInC, gNotInC, gIsN, gIsNotN, gListL, gListT, gTupleL, gEqI, gNeI, gEqS, gNeS, List.getElem?_cons_succ, List.getElem?_cons_zero, List.set_cons_succ, List.set_cons_zero, List.map_cons, List.map_nil, List.cons_append, List.nil_append, wipeE, ↓reduceIte, Bool.not_true, Bool.not_false, Bool.false_eq_true, List.replicate_succ, List.replicate_zero, Nat.reduceSub, List.map_cons, List.cons_append]) fun c hc => ?_
  exact lcTurn_ok rfl rfl (by simp only [cA, aC, aN, cV, cC, c1, c2, cMs, cTup, cLst, cAnd, cOr, cIf, cT, cB, tNotB, tAndB, tOrB, tY, iA, iF, gN, gT, gsC, gsN, aS, pN, pS, cSl, cCh, gNot, walked, bo, br, bs, noR_ok, truB, truI, truS, truL, asBB, asI, gLenL, gLenT, gLenS, gLenN, gAddI, gSubI, gNegI, gLtI, gLeI, gGtI, gGeI, gLtS, gLeS, gGtS, gGeS, gAbsI, gIntI, gInC, gNotInC, gIsN, gIsNotN, gListL, gListT, gTupleL, gEqI, gNeI, gEqS, gNeS, List.getElem?_cons_succ, List.getElem?_cons_zero, List.set_cons_succ, List.set_cons_zero, List.map_cons, List.map_nil, List.cons_append, List.nil_append, wipeE, ↓reduceIte, Bool.not_true, Bool.not_false, Bool.false_eq_true, List.replicate_succ, List.replicate_zero, Nat.reduceSub, List.map_cons, List.cons_append]; rfl)
theorem e_told_text {ws : List (List Nat)} {fr cs t : List Nat} (h : Good59 ws fr cs) (ht : Fill ws cs t) : fn_told_text [dSs ws, dS fr, dCs cs, dNs t] = .ok (.str (txt ws fr (t.zip cs))) := by
  refine runB_rt rfl ?_
  refine (seqO_nx (sfEx_ok (d := .non) (by simp only [cA, aC, aN, cV, cC, c1, c2, cMs, cTup, cLst, cAnd, cOr, cIf, cT, cB, tNotB, tAndB, tOrB, tY, iA, iF, gN, gT, gsC, gsN, aS, pN, pS, cSl, cCh, gNot, walked, bo, br, bs, noR_ok, truB, truI, truS, truL, asBB, asI, gLenL, gLenT, gLenS, gLenN, gAddI, gSubI, gNegI, gLtI, gLeI, gGtI, gGeI, gLtS, gLeS, gGtS, gGeS, gAbsI, gIntI, gInC, gNotInC, gIsN, gIsNotN, gListL, gListT, gTupleL, gEqI, gNeI, gEqS, gNeS, List.getElem?_cons_succ, List.getElem?_cons_zero, List.set_cons_succ, List.set_cons_zero, List.map_cons, List.map_nil, List.cons_append, List.nil_append, wipeE, ↓reduceIte, Bool.not_true, Bool.not_false, Bool.false_eq_true, List.replicate_succ, List.replicate_zero, Nat.reduceSub, List.map_cons, List.cons_append]; exact e_check_frame h))).trans ?_
  refine (seqO_nx (sfIf_fN (by simp only [cA, aC, aN, cV, cC, c1, c2, cMs, cTup, cLst, cAnd, cOr, cIf, cT, cB, tNotB, tAndB, tOrB, tY, iA, iF, gN, gT, gsC, gsN, aS, pN, pS, cSl, cCh, gNot, walked, bo, br, bs, noR_ok, truB, truI, truS, truL, asBB, asI, gLenL, gLenT, gLenS, gLenN, gAddI, gSubI, gNegI, gLtI, gLeI, gGtI, gGeI, gLtS, gLeS, gGtS, gGeS, gAbsI, gIntI, gInC, gNotInC, gIsN, gIsNotN, gListL, gListT, gTupleL, gEqI, gNeI, gEqS, gNeS, List.getElem?_cons_succ, List.getElem?_cons_zero, List.set_cons_succ, List.set_cons_zero, List.map_cons, List.map_nil, List.cons_append, List.nil_append, wipeE, ↓reduceIte, Bool.not_true, Bool.not_false, Bool.false_eq_true, List.replicate_succ, List.replicate_zero, Nat.reduceSub, List.map_cons, List.cons_append, List.length_map, ht.1, decide_true]))).trans ?_
  refine seqO_ex (sfFor_inv t (fun n => .int (n : Int)) (fun _ ρ _ => ∃ a, ρ = [some (dSs ws), some (dS fr), some (dCs cs), some (dNs t), a]) (by simp only [cA, aC, aN, cV, cC, c1, c2, cMs, cTup, cLst, cAnd, cOr, cIf, cT, cB, tNotB, tAndB, tOrB, tY, iA, iF, gN, gT, gsC, gsN, aS, pN, pS, cSl, cCh, gNot, walked, bo, br, bs, noR_ok, truB, truI, truS, truL, asBB, asI, gLenL, gLenT, gLenS, gLenN, gAddI, gSubI, gNegI, gLtI, gLeI, gGtI, gGeI, gLtS, gLeS, gGtS, gGeS, gAbsI, gIntI, gInC, gNotInC, gIsN, gIsNotN, gListL, gListT, gTupleL, gEqI, gNeI, gEqS, gNeS, List.getElem?_cons_succ, List.getElem?_cons_zero, List.set_cons_succ, List.set_cons_zero, List.map_cons, List.map_nil, List.cons_append, List.nil_append, wipeE, ↓reduceIte, Bool.not_true, Bool.not_false, Bool.false_eq_true, List.replicate_succ, List.replicate_zero, Nat.reduceSub, List.map_cons, List.cons_append]) ⟨none, rfl⟩ ?_) ?_
  · rintro d1 n d2 e ρ own ⟨a, rfl⟩
    have hn : n < ws.length := ht.2 n (by rw [e]; simp)
    refine ⟨_, _, _, rfl, .inl (sfIf_fN ?_), ⟨_, rfl⟩⟩
    have a1 : (0 : Int) ≤ (n : Int) := by omega
    have a2 : (n : Int) < ((ws.map D.str).length : Nat) := by rw [List.length_map]; omega
    simp only [cA, aC, aN, cV, cC, c1, c2, cMs, cTup, cLst, cAnd, cOr, cIf, cT, cB, tNotB, tAndB, tOrB, tY, iA, iF, gN, gT, gsC, gsN, aS, pN, pS, cSl, cCh, gNot, walked, bo, br, bs, noR_ok, truB, truI, truS, truL, asBB, asI, gLenL, gLenT, gLenS, gLenN, gAddI, gSubI, gNegI, gLtI, gLeI, gGtI, gGeI, gLtS, gLeS, gGtS, gGeS, gAbsI, gIntI, gInC, gNotInC, gIsN, gIsNotN, gListL, gListT, gTupleL, gEqI, gNeI, gEqS, gNeS, List.getElem?_cons_succ, List.getElem?_cons_zero, List.set_cons_succ, List.set_cons_zero, List.map_cons, List.map_nil, List.cons_append, List.nil_append, wipeE, ↓reduceIte, Bool.not_true, Bool.not_false, Bool.false_eq_true, List.replicate_succ, List.replicate_zero, Nat.reduceSub, a1, a2, decide_true]
  · rintro ρ' own' ⟨a, rfl⟩
    exact sfRet_ok (by simp only [cA, aC, aN, cV, cC, c1, c2, cMs, cTup, cLst, cAnd, cOr, cIf, cT, cB, tNotB, tAndB, tOrB, tY, iA, iF, gN, gT, gsC, gsN, aS, pN, pS, cSl, cCh, gNot, walked, bo, br, bs, noR_ok, truB, truI, truS, truL, asBB, asI, gLenL, gLenT, gLenS, gLenN, gAddI, gSubI, gNegI, gLtI, gLeI, gGtI, gGeI, gLtS, gLeS, gGtS, gGeS, gAbsI, gIntI, gInC, gNotInC, gIsN, gIsNotN, gListL, gListT, gTupleL, gEqI, gNeI, gEqS, gNeS, List.getElem?_cons_succ, List.getElem?_cons_zero, List.set_cons_succ, List.set_cons_zero, List.map_cons, List.map_nil, List.cons_append, List.nil_append, wipeE, ↓reduceIte, Bool.not_true, Bool.not_false, Bool.false_eq_true, List.replicate_succ, List.replicate_zero, Nat.reduceSub]; exact e_text_of h ht)
theorem e_is_filling (ws : List (List Nat)) (cs : List Nat) (t : List Int) : fn_is_filling [dSs ws, dCs cs, dIs t] = .ok (.bl (decide (t.length = cs.length) && t.all fun (n : Int) => decide (0 ≤ n) && decide (n < (ws.length : Int)))) := by
  refine runB_rt rfl (sfRet_ok ?_)
  have e1 : cLC [3] (iA (cV 2)) (gN 3) tY (cCh gLe gLt (cC (.int 0)) (cV 3) (cA gLen (aC (cV 0) aN))) [some (dSs ws), some (dCs cs), some (dIs t), none] = .ok (.lst (t.map fun (n : Int) => D.bl (decide (0 ≤ n) && decide (n < (ws.length : Int))))) := by
    refine cLC_map t D.int _ rfl fun n hn => ?_
    refine lcTurn_ok rfl rfl ?_
    simp only [cA, aC, aN, cV, cC, c1, c2, cMs, cTup, cLst, cAnd, cOr, cIf, cT, cB, tNotB, tAndB, tOrB, tY, iA, iF, gN, gT, gsC, gsN, aS, pN, pS, cSl, cCh, gNot, walked, bo, br, bs, noR_ok, truB, truI, truS, truL, asBB, asI, gLenL, gLenT, gLenS, gLenN, gAddI, gSubI, gNegI, gLtI, gLeI, gGtI, gGeI, gLtS, gLeS, gGtS, gGeS, gAbsI, gIntI, gInC, gNotInC, gIsN, gIsNotN, gListL, gListT, gTupleL, gEqI, gNeI, gEqS, gNeS, List.getElem?_cons_succ, List.getElem?_cons_zero, List.set_cons_succ, List.set_cons_zero, List.map_cons, List.map_nil, List.cons_append, List.nil_append, wipeE, ↓reduceIte, Bool.not_true, Bool.not_false, Bool.false_eq_true, List.replicate_succ, List.replicate_zero, Nat.reduceSub, List.length_map]
    by_cases h0 : 0 ≤ n <;> simp [h0]
  show cAnd _ (cA gAll (aC (cLC [3] (iA (cV 2)) (gN 3) tY (cCh gLe gLt (cC (.int 0)) (cV 3) (cA gLen (aC (cV 0) aN)))) aN)) [some (dSs ws), some (dCs cs), some (dIs t), none] = _
  simp only [cA, aC, aN, cV, cC, c1, c2, cMs, cTup, cLst, cAnd, cOr, cIf, cT, cB, tNotB, tAndB, tOrB, tY, iA, iF, gN, gT, gsC, gsN, aS, pN, pS, cSl, cCh, gNot, walked, bo, br, bs, noR_ok, truB, truI, truS, truL, asBB, asI, gLenL, gLenT, gLenS, gLenN, gAddI, gSubI, gNegI, gLtI, gLeI, gGtI, gGeI, gLtS, gLeS, gGtS, gGeS, gAbsI, gIntI, gInC, gNotInC, gIsN, gIsNotN, gListL, gListT, gTupleL, gEqI, gNeI, gEqS, gNeS, List.getElem?_cons_succ, List.getElem?_cons_zero, List.set_cons_succ, List.set_cons_zero, List.map_cons, List.map_nil, List.cons_append, List.nil_append, wipeE, ↓reduceIte, Bool.not_true, Bool.not_false, Bool.false_eq_true, List.replicate_succ, List.replicate_zero, Nat.reduceSub, e1, gAll_bls, List.length_map]
  by_cases h0 : t.length = cs.length
  · simp [h0]
  · have : ¬ ((t.length : Int) = cs.length) := by omega
    simp [h0, this]
theorem dIs_nat (t : List Nat) : dIs (t.map fun (n : Nat) => (n : Int)) = dNs t := by
  rw [dIs, List.map_map]
  rfl
theorem cmpOk_nats (t : List Nat) : cmpOk (dNs t) = true := cmpOk_ints _ t
theorem eqv_nats (a b : List Nat) : eqv (dNs a) (dNs b) = decide (a = b) := by
  rw [← dIs_nat, ← dIs_nat]
  show eqvAll _ _ = _
  rw [eqv_ints]
  have inj : ∀ a b : List Nat, a.map (fun (n : Nat) => (n : Int)) = b.map (fun (n : Nat) => (n : Int)) ↔ a = b := fun a b => by
    refine ⟨fun h => ?_, fun h => by rw [h]⟩
    exact List.map_inj_right (fun x y h => Int.ofNat_inj.mp h) |>.mp h
  rw [Bool.eq_iff_iff]
  simp only [decide_eq_true_eq]
  exact inj a b
theorem fill_all {ws : List (List Nat)} {cs t : List Nat} (ht : Fill ws cs t) : ((t.map fun (n : Nat) => (n : Int)).all fun (n : Int) => decide (0 ≤ n) && decide (n < (ws.length : Int))) = true := by
  simp only [List.all_eq_true, List.mem_map, Bool.and_eq_true, decide_eq_true_eq]
  rintro x ⟨n, hn, rfl⟩
  have := ht.2 n hn
  omega
theorem e_is_true_good {ws : List (List Nat)} {fr cs t : List Nat} (h : Good59 ws fr cs) (ht : Fill ws cs t) : fn_is_true [dSs ws, dS fr, dCs cs, dNs t] = .ok (.bl (decide (cnts ws fr cs t = t))) := by
  refine runB_rt rfl ?_
  refine (seqO_nx (sfEx_ok (d := .non) (by simp only [cA, aC, aN, cV, cC, c1, c2, cMs, cTup, cLst, cAnd, cOr, cIf, cT, cB, tNotB, tAndB, tOrB, tY, iA, iF, gN, gT, gsC, gsN, aS, pN, pS, cSl, cCh, gNot, walked, bo, br, bs, noR_ok, truB, truI, truS, truL, asBB, asI, gLenL, gLenT, gLenS, gLenN, gAddI, gSubI, gNegI, gLtI, gLeI, gGtI, gGeI, gLtS, gLeS, gGtS, gGeS, gAbsI, gIntI, gInC, gNotInC, gIsN, gIsNotN, gListL, gListT, gTupleL, gEqI, gNeI, gEqS, gNeS, List.getElem?_cons_succ, List.getElem?_cons_zero, List.set_cons_succ, List.set_cons_zero, List.map_cons, List.map_nil, List.cons_append, List.nil_append, wipeE, ↓reduceIte, Bool.not_true, Bool.not_false, Bool.false_eq_true, List.replicate_succ, List.replicate_zero, Nat.reduceSub, List.map_cons, List.cons_append]; exact e_check_frame h))).trans ?_
  refine sfRet_ok ?_
  have e1 := e_is_filling ws cs (t.map fun (n : Nat) => (n : Int))
  rw [dIs_nat, List.length_map, fill_all ht, ht.1] at e1
  simp only [cA, aC, aN, cV, cC, c1, c2, cMs, cTup, cLst, cAnd, cOr, cIf, cT, cB, tNotB, tAndB, tOrB, tY, iA, iF, gN, gT, gsC, gsN, aS, pN, pS, cSl, cCh, gNot, walked, bo, br, bs, noR_ok, truB, truI, truS, truL, asBB, asI, gLenL, gLenT, gLenS, gLenN, gAddI, gSubI, gNegI, gLtI, gLeI, gGtI, gGeI, gLtS, gLeS, gGtS, gGeS, gAbsI, gIntI, gInC, gNotInC, gIsN, gIsNotN, gListL, gListT, gTupleL, gEqI, gNeI, gEqS, gNeS, List.getElem?_cons_succ, List.getElem?_cons_zero, List.set_cons_succ, List.set_cons_zero, List.map_cons, List.map_nil, List.cons_append, List.nil_append, wipeE, ↓reduceIte, Bool.not_true, Bool.not_false, Bool.false_eq_true, List.replicate_succ, List.replicate_zero, Nat.reduceSub, List.map_cons, List.cons_append]
  rw [e1]
  simp only [cA, aC, aN, cV, cC, c1, c2, cMs, cTup, cLst, cAnd, cOr, cIf, cT, cB, tNotB, tAndB, tOrB, tY, iA, iF, gN, gT, gsC, gsN, aS, pN, pS, cSl, cCh, gNot, walked, bo, br, bs, noR_ok, truB, truI, truS, truL, asBB, asI, gLenL, gLenT, gLenS, gLenN, gAddI, gSubI, gNegI, gLtI, gLeI, gGtI, gGeI, gLtS, gLeS, gGtS, gGeS, gAbsI, gIntI, gInC, gNotInC, gIsN, gIsNotN, gListL, gListT, gTupleL, gEqI, gNeI, gEqS, gNeS, List.getElem?_cons_succ, List.getElem?_cons_zero, List.set_cons_succ, List.set_cons_zero, List.map_cons, List.map_nil, List.cons_append, List.nil_append, wipeE, ↓reduceIte, Bool.not_true, Bool.not_false, Bool.false_eq_true, List.replicate_succ, List.replicate_zero, Nat.reduceSub, e_counts_of h ht, decide_true, Bool.and_self]
  rw [gEq_of (cmpOk_nats _) (cmpOk_nats _), eqv_nats]
theorem e_is_true_bad {ws : List (List Nat)} {fr cs : List Nat} {t : List Int} (h : Good59 ws fr cs) (ht : (decide (t.length = cs.length) && t.all fun (n : Int) => decide (0 ≤ n) && decide (n < (ws.length : Int))) = false) : fn_is_true [dSs ws, dS fr, dCs cs, dIs t] = .ok (.bl false) := by
  refine runB_rt rfl ?_
  refine (seqO_nx (sfEx_ok (d := .non) (by simp only [cA, aC, aN, cV, cC, c1, c2, cMs, cTup, cLst, cAnd, cOr, cIf, cT, cB, tNotB, tAndB, tOrB, tY, iA, iF, gN, gT, gsC, gsN, aS, pN, pS, cSl, cCh, gNot, walked, bo, br, bs, noR_ok, truB, truI, truS, truL, asBB, asI, gLenL, gLenT, gLenS, gLenN, gAddI, gSubI, gNegI, gLtI, gLeI, gGtI, gGeI, gLtS, gLeS, gGtS, gGeS, gAbsI, gIntI, gInC, gNotInC, gIsN, gIsNotN, gListL, gListT, gTupleL, gEqI, gNeI, gEqS, gNeS, List.getElem?_cons_succ, List.getElem?_cons_zero, List.set_cons_succ, List.set_cons_zero, List.map_cons, List.map_nil, List.cons_append, List.nil_append, wipeE, ↓reduceIte, Bool.not_true, Bool.not_false, Bool.false_eq_true, List.replicate_succ, List.replicate_zero, Nat.reduceSub, List.map_cons, List.cons_append]; exact e_check_frame h))).trans ?_
  refine sfRet_ok ?_
  have e1 := e_is_filling ws cs t
  rw [ht] at e1
  simp only [cA, aC, aN, cV, cC, c1, c2, cMs, cTup, cLst, cAnd, cOr, cIf, cT, cB, tNotB, tAndB, tOrB, tY, iA, iF, gN, gT, gsC, gsN, aS, pN, pS, cSl, cCh, gNot, walked, bo, br, bs, noR_ok, truB, truI, truS, truL, asBB, asI, gLenL, gLenT, gLenS, gLenN, gAddI, gSubI, gNegI, gLtI, gLeI, gGtI, gGeI, gLtS, gLeS, gGtS, gGeS, gAbsI, gIntI, gInC, gNotInC, gIsN, gIsNotN, gListL, gListT, gTupleL, gEqI, gNeI, gEqS, gNeS, List.getElem?_cons_succ, List.getElem?_cons_zero, List.set_cons_succ, List.set_cons_zero, List.map_cons, List.map_nil, List.cons_append, List.nil_append, wipeE, ↓reduceIte, Bool.not_true, Bool.not_false, Bool.false_eq_true, List.replicate_succ, List.replicate_zero, Nat.reduceSub, List.map_cons, List.cons_append, e1]
/-! ### all fillings -/
def fill (n : Nat) : Nat → List (List Nat)
  | 0 => [[]]
  | k + 1 => (fill n k).flatMap fun t => (List.range n).map fun i => t ++ [i]
theorem fill_len (n : Nat) : ∀ k, (fill n k).length = n ^ k
  | 0 => rfl
  | k + 1 => by
    have : ∀ l : List (List Nat), (l.flatMap fun t => (List.range n).map fun i => t ++ [i]).length = l.length * n := fun l => by
      induction l with
      | nil => simp
      | cons x l ih => rw [List.flatMap_cons, List.length_append, ih, List.length_map, List.length_range, List.length_cons, Nat.add_mul]; omega
    rw [fill, this, fill_len n k, Nat.pow_succ]
theorem fill_ok (n : Nat) : ∀ k, ∀ t ∈ fill n k, t.length = k ∧ ∀ i ∈ t, i < n
  | 0, t, h => by
    simp only [fill, List.mem_singleton] at h
    subst h
    exact ⟨rfl, fun i z => by cases z⟩
  | k + 1, t, h => by
    simp only [fill, List.mem_flatMap, List.mem_map, List.mem_range] at h
    obtain ⟨u, hu, i, hi, rfl⟩ := h
    obtain ⟨h1, h2⟩ := fill_ok n k u hu
    refine ⟨by simp [h1], fun j hj => ?_⟩
    rcases List.mem_append.mp hj with z | z
    · exact h2 j z
    · rw [List.mem_singleton.mp z]
      exact hi
theorem pow_le {n k : Nat} (hn : n ≤ 16) (hk : k ≤ 3) : n ^ k ≤ 4096 :=
  Nat.le_trans (Nat.pow_le_pow_left hn k) (Nat.le_trans (Nat.pow_le_pow_right (by decide) hk) (by decide))
theorem e_fillings_of {ws : List (List Nat)} {fr cs : List Nat} (h : Good59 ws fr cs) : fn_fillings_of [dSs ws, dCs cs] = .ok (.lst ((fill ws.length cs.length).map dNs)) := by
  have hb : big = 16777216 := rfl
  refine runB_rt rfl ?_
  refine (seqO_nx (sfNew_ok (d := .lst ([[]].map dNs)) rfl (by simp))).trans ?_
  refine seqO_ex (sfFor_inv cs (fun c => .str [c]) (fun done ρ _ => ∃ a, ρ = [some (dSs ws), some (dCs cs), some (.lst ((fill ws.length done.length).map dNs)), a, none, none]) ?_ ⟨none, rfl⟩ ?_) ?_
  · simp only [cA, aC, aN, cV, cC, c1, c2, cMs, cTup, cLst, cAnd, cOr, cIf, cT, cB, tNotB, tAndB, tOrB, tY, iA, iF, gN, gT, gsC, gsN, aS, pN, pS, cSl, cCh, gNot, walked, bo, br, bs, noR_ok, truB, truI, truS, truL, asBB, asI, gLenL, gLenT, gLenS, gLenN, gAddI, gSubI, gNegI, gLtI, gLeI, gGtI, gGeI, gLtS, gLeS, gGtS, gGeS, gAbsI, gIntI, gInC, gNotInC, gIsN, gIsNotN, gListL, gListT, gTupleL, gEqI, gNeI, gEqS, gNeS, List.getElem?_cons_succ, List.getElem?_cons_zero, List.set_cons_succ, List.set_cons_zero, List.map_cons, List.map_nil, List.cons_append, List.nil_append, wipeE, ↓reduceIte, Bool.not_true, Bool.not_false, Bool.false_eq_true, List.replicate_succ, List.replicate_zero, Nat.reduceSub, List.map_cons, List.cons_append]
  · rintro d1 c d2 e ρ own ⟨a, rfl⟩
    have l0 : d1.length + 1 ≤ 3 := by
      have := congrArg List.length e
      have := h.c2
      simp only [List.length_append, List.length_cons] at *
      omega
    refine ⟨_, _, _, rfl, .inl (sfNew_ok (d := .lst ((fill ws.length (d1.length + 1)).map dNs)) ?_ (by simp)), ⟨_, by rw [List.length_append]; rfl⟩⟩
    unfold cLC2
    have hi : iA (cV 2) [some (dSs ws), some (dCs cs), some (.lst ((fill ws.length d1.length).map dNs)), some (.str [c]), none, none] = .ok ((fill ws.length d1.length).map dNs) := rfl
    show (R.bind (iA (cV 2) [some (dSs ws), some (dCs cs), some (.lst ((fill ws.length d1.length).map dNs)), some (.str [c]), none, none]) _) = _
    rw [hi, bo]
    have hw : ws.length ≤ 16 := h.w2
    rw [lcB_map (h := fun t => ((List.range ws.length).map fun i => t ++ [i]).map dNs) ?_]
    · rw [bo]
      have e2 : (List.flatMap (fun t => ((List.range ws.length).map fun i => t ++ [i]).map dNs) (fill ws.length d1.length)) = (fill ws.length (d1.length + 1)).map dNs := by
        rw [fill, List.map_flatMap]
      rw [e2, if_pos]
      rw [List.length_map, fill_len]
      have := pow_le h.w2 l0
      omega
    · intro t ht
      obtain ⟨t1, t2⟩ := fill_ok _ _ t ht
      have e3 : (.int ((ws.map D.str).length : Nat) : D) = .int (ws.length : Int) := by rw [List.length_map]
      unfold lcTurn2
      simp only [cA, aC, aN, cV, cC, c1, c2, cMs, cTup, cLst, cAnd, cOr, cIf, cT, cB, tNotB, tAndB, tOrB, tY, iA, iF, gN, gT, gsC, gsN, aS, pN, pS, cSl, cCh, gNot, walked, bo, br, bs, noR_ok, truB, truI, truS, truL, asBB, asI, gLenL, gLenT, gLenS, gLenN, gAddI, gSubI, gNegI, gLtI, gLeI, gGtI, gGeI, gLtS, gLeS, gGtS, gGeS, gAbsI, gIntI, gInC, gNotInC, gIsN, gIsNotN, gListL, gListT, gTupleL, gEqI, gNeI, gEqS, gNeS, List.getElem?_cons_succ, List.getElem?_cons_zero, List.set_cons_succ, List.set_cons_zero, List.map_cons, List.map_nil, List.cons_append, List.nil_append, wipeE, ↓reduceIte, Bool.not_true, Bool.not_false, Bool.false_eq_true, List.replicate_succ, List.replicate_zero, Nat.reduceSub, e3, range1_nat ws.length (by omega)]
      rw [lcL_map (h := fun (i : Nat) => dNs (t ++ [i]))]
      · rw [noR_ok, List.map_map]
        rfl
      · intro i hi
        refine lcTurn_ok rfl rfl ?_
        simp only [cA, aC, aN, cV, cC, c1, c2, cMs, cTup, cLst, cAnd, cOr, cIf, cT, cB, tNotB, tAndB, tOrB, tY, iA, iF, gN, gT, gsC, gsN, aS, pN, pS, cSl, cCh, gNot, walked, bo, br, bs, noR_ok, truB, truI, truS, truL, asBB, asI, gLenL, gLenT, gLenS, gLenN, gAddI, gSubI, gNegI, gLtI, gLeI, gGtI, gGeI, gLtS, gLeS, gGtS, gGeS, gAbsI, gIntI, gInC, gNotInC, gIsN, gIsNotN, gListL, gListT, gTupleL, gEqI, gNeI, gEqS, gNeS, List.getElem?_cons_succ, List.getElem?_cons_zero, List.set_cons_succ, List.set_cons_zero, List.map_cons, List.map_nil, List.cons_append, List.nil_append, wipeE, ↓reduceIte, Bool.not_true, Bool.not_false, Bool.false_eq_true, List.replicate_succ, List.replicate_zero, Nat.reduceSub, items]
        rw [if_pos (by simp only [List.length_append, List.length_map, List.length_cons, List.length_nil]; omega)]
        simp
  · rintro ρ' own' ⟨a, rfl⟩
    exact sfRet_ok rfl
def goods (ws : List (List Nat)) (fr cs : List Nat) : List (List Nat) := (fill ws.length cs.length).filter fun t => decide (cnts ws fr cs t = t)
theorem fill_Fill {ws : List (List Nat)} {cs t : List Nat} (h : t ∈ fill ws.length cs.length) : Fill ws cs t := fill_ok _ _ t h
theorem e_true_fillings {ws : List (List Nat)} {fr cs : List Nat} (h : Good59 ws fr cs) : fn_true_fillings [dSs ws, dS fr, dCs cs] = .ok (.lst ((goods ws fr cs).map dNs)) := by
  refine runB_rt rfl ?_
  refine (seqO_nx (sfEx_ok (d := .non) (by simp only [cA, aC, aN, cV, cC, c1, c2, cMs, cTup, cLst, cAnd, cOr, cIf, cT, cB, tNotB, tAndB, tOrB, tY, iA, iF, gN, gT, gsC, gsN, aS, pN, pS, cSl, cCh, gNot, walked, bo, br, bs, noR_ok, truB, truI, truS, truL, asBB, asI, gLenL, gLenT, gLenS, gLenN, gAddI, gSubI, gNegI, gLtI, gLeI, gGtI, gGeI, gLtS, gLeS, gGtS, gGeS, gAbsI, gIntI, gInC, gNotInC, gIsN, gIsNotN, gListL, gListT, gTupleL, gEqI, gNeI, gEqS, gNeS, List.getElem?_cons_succ, List.getElem?_cons_zero, List.set_cons_succ, List.set_cons_zero, List.map_cons, List.map_nil, List.cons_append, List.nil_append, wipeE, ↓reduceIte, Bool.not_true, Bool.not_false, Bool.false_eq_true, List.replicate_succ, List.replicate_zero, Nat.reduceSub, List.map_cons, List.cons_append]; exact e_check_frame h))).trans ?_
  refine sfRet_ok ?_
  refine cLC_filter (fill ws.length cs.length) dNs dNs (fun t => decide (cnts ws fr cs t = t)) ?_ fun t ht => ?_
  · simp only [cA, aC, aN, cV, cC, c1, c2, cMs, cTup, cLst, cAnd, cOr, cIf, cT, cB, tNotB, tAndB, tOrB, tY, iA, iF, gN, gT, gsC, gsN, aS, pN, pS, cSl, cCh, gNot, walked, bo, br, bs, noR_ok, truB, truI, truS, truL, asBB, asI, gLenL, gLenT, gLenS, gLenN, gAddI, gSubI, gNegI, gLtI, gLeI, gGtI, gGeI, gLtS, gLeS, gGtS, gGeS, gAbsI, gIntI, gInC, gNotInC, gIsN, gIsNotN, gListL, gListT, gTupleL, gEqI, gNeI, gEqS, gNeS, List.getElem?_cons_succ, List.getElem?_cons_zero, List.set_cons_succ, List.set_cons_zero, List.map_cons, List.map_nil, List.cons_append, List.nil_append, wipeE, ↓reduceIte, Bool.not_true, Bool.not_false, Bool.false_eq_true, List.replicate_succ, List.replicate_zero, Nat.reduceSub, List.map_cons, List.cons_append, e_fillings_of h]
  · refine lcTurn_if rfl ?_ rfl
    simp only [cA, aC, aN, cV, cC, c1, c2, cMs, cTup, cLst, cAnd, cOr, cIf, cT, cB, tNotB, tAndB, tOrB, tY, iA, iF, gN, gT, gsC, gsN, aS, pN, pS, cSl, cCh, gNot, walked, bo, br, bs, noR_ok, truB, truI, truS, truL, asBB, asI, gLenL, gLenT, gLenS, gLenN, gAddI, gSubI, gNegI, gLtI, gLeI, gGtI, gGeI, gLtS, gLeS, gGtS, gGeS, gAbsI, gIntI, gInC, gNotInC, gIsN, gIsNotN, gListL, gListT, gTupleL, gEqI, gNeI, gEqS, gNeS, List.getElem?_cons_succ, List.getElem?_cons_zero, List.set_cons_succ, List.set_cons_zero, List.map_cons, List.map_nil, List.cons_append, List.nil_append, wipeE, ↓reduceIte, Bool.not_true, Bool.not_false, Bool.false_eq_true, List.replicate_succ, List.replicate_zero, Nat.reduceSub, List.map_cons, List.cons_append, e_counts_of h (fill_Fill ht)]
    rw [gEq_of (cmpOk_nats _) (cmpOk_nats _), eqv_nats]
    simp only [cA, aC, aN, cV, cC, c1, c2, cMs, cTup, cLst, cAnd, cOr, cIf, cT, cB, tNotB, tAndB, tOrB, tY, iA, iF, gN, gT, gsC, gsN, aS, pN, pS, cSl, cCh, gNot, walked, bo, br, bs, noR_ok, truB, truI, truS, truL, asBB, asI, gLenL, gLenT, gLenS, gLenN, gAddI, gSubI, gNegI, gLtI, gLeI, gGtI, gGeI, gLtS, gLeS, gGtS, gGeS, gAbsI, gIntI, gInC, gNotInC, gIsN, gIsNotN, gListL, gListT, gTupleL, gEqI, gNeI, gEqS, gNeS, List.getElem?_cons_succ, List.getElem?_cons_zero, List.set_cons_succ, List.set_cons_zero, List.map_cons, List.map_nil, List.cons_append, List.nil_append, wipeE, ↓reduceIte, Bool.not_true, Bool.not_false, Bool.false_eq_true, List.replicate_succ, List.replicate_zero, Nat.reduceSub]
def dist (a b : Nat) : Int := if (a : Int) - b < 0 then -((a : Int) - b) else (a : Int) - b
def far (ws : List (List Nat)) (fr cs t : List Nat) : Int := ((t.zip (cnts ws fr cs t)).map fun p => dist p.1 p.2).sum
def bestD : Option (Int × List Nat) → D
  | none => .non
  | some p => .tup [.int p.1, dNs p.2]
def upd1 (b : Option (Int × List Nat)) (p : Int × List Nat) : Option (Int × List Nat) := match b with
  | none => some p
  | some q => if p.1 < q.1 then some p else some q
def near (ws : List (List Nat)) (fr cs : List Nat) : Option (Int × List Nat) := (fill ws.length cs.length).foldl (fun b t => upd1 b (far ws fr cs t, t)) none
theorem e_nearest {ws : List (List Nat)} {fr cs : List Nat} (h : Good59 ws fr cs) : fn_nearest [dSs ws, dS fr, dCs cs] = .ok (bestD (near ws fr cs)) := by
  refine runB_rt rfl ?_
  refine rts_ex (d := .non) (by simp only [cA, aC, aN, cV, cC, c1, c2, cMs, cTup, cLst, cAnd, cOr, cIf, cT, cB, tNotB, tAndB, tOrB, tY, iA, iF, gN, gT, gsC, gsN, aS, pN, pS, cSl, cCh, gNot, walked, bo, br, bs, noR_ok, truB, truI, truS, truL, asBB, asI, gLenL, gLenT, gLenS, gLenN, gAddI, gSubI, gNegI, gLtI, gLeI, gGtI, gGeI, gLtS, gLeS, gGtS, gGeS, gAbsI, gIntI, gInC, gNotInC, gIsN, gIsNotN, gListL, gListT, gTupleL, gEqI, gNeI, gEqS, gNeS, List.getElem?_cons_succ, List.getElem?_cons_zero, List.set_cons_succ, List.set_cons_zero, List.map_cons, List.map_nil, List.cons_append, List.nil_append, wipeE, ↓reduceIte, Bool.not_true, Bool.not_false, Bool.false_eq_true, List.replicate_succ, List.replicate_zero, Nat.reduceSub]; exact e_check_frame h) ?_
  refine rts_set (d := .non) rfl ?_
  refine rt_seq (go_for (fill ws.length cs.length) dNs (fun done ρ _ => ∃ a b c, ρ = [some (dSs ws), some (dS fr), some (dCs cs), some (bestD (done.foldl (fun b t => upd1 b (far ws fr cs t, t)) none)), a, b, c, none, none]) ?_ ⟨none, none, none, rfl⟩ ?_ fun _ _ h => h) ?_
  · simp only [cA, aC, aN, cV, cC, c1, c2, cMs, cTup, cLst, cAnd, cOr, cIf, cT, cB, tNotB, tAndB, tOrB, tY, iA, iF, gN, gT, gsC, gsN, aS, pN, pS, cSl, cCh, gNot, walked, bo, br, bs, noR_ok, truB, truI, truS, truL, asBB, asI, gLenL, gLenT, gLenS, gLenN, gAddI, gSubI, gNegI, gLtI, gLeI, gGtI, gGeI, gLtS, gLeS, gGtS, gGeS, gAbsI, gIntI, gInC, gNotInC, gIsN, gIsNotN, gListL, gListT, gTupleL, gEqI, gNeI, gEqS, gNeS, List.getElem?_cons_succ, List.getElem?_cons_zero, List.set_cons_succ, List.set_cons_zero, List.map_cons, List.map_nil, List.cons_append, List.nil_append, wipeE, ↓reduceIte, Bool.not_true, Bool.not_false, Bool.false_eq_true, List.replicate_succ, List.replicate_zero, Nat.reduceSub, e_fillings_of h]
  · rintro d1 t d2 e ρ own ⟨a, b, c, rfl⟩
    have ht : t ∈ fill ws.length cs.length := by rw [e]; simp
    refine ⟨_, rfl, ?_⟩
    rw [List.foldl_append]
    generalize d1.foldl (fun b t => upd1 b (far ws fr cs t, t)) none = bb
    refine Go.c (gos_set (d := dNs (cnts ws fr cs t)) (by simp only [cA, aC, aN, cV, cC, c1, c2, cMs, cTup, cLst, cAnd, cOr, cIf, cT, cB, tNotB, tAndB, tOrB, tY, iA, iF, gN, gT, gsC, gsN, aS, pN, pS, cSl, cCh, gNot, walked, bo, br, bs, noR_ok, truB, truI, truS, truL, asBB, asI, gLenL, gLenT, gLenS, gLenN, gAddI, gSubI, gNegI, gLtI, gLeI, gGtI, gGeI, gLtS, gLeS, gGtS, gGeS, gAbsI, gIntI, gInC, gNotInC, gIsN, gIsNotN, gListL, gListT, gTupleL, gEqI, gNeI, gEqS, gNeS, List.getElem?_cons_succ, List.getElem?_cons_zero, List.set_cons_succ, List.set_cons_zero, List.map_cons, List.map_nil, List.cons_append, List.nil_append, wipeE, ↓reduceIte, Bool.not_true, Bool.not_false, Bool.false_eq_true, List.replicate_succ, List.replicate_zero, Nat.reduceSub]; exact e_counts_of h (fill_Fill ht)) ?_)
    refine gos_set (d := .int (far ws fr cs t)) ?_ ?_
    · have e2 : cLC [7, 8] (iF zip2 (aC (cV 4) (aC (cV 5) aN))) (gT 2 (gsC (gN 7) (gsC (gN 8) gsN))) tY (cA gAbs (aC (c2 gSub (cV 7) (cV 8)) aN)) [some (dSs ws), some (dS fr), some (dCs cs), some (bestD bb), some (dNs t), some (dNs (cnts ws fr cs t)), c, none, none] = .ok (.lst ((t.zip (cnts ws fr cs t)).map fun p => .int (dist p.1 p.2))) := by
        refine cLC_map (t.zip (cnts ws fr cs t)) (fun p => .tup [.int (p.1 : Int), .int (p.2 : Int)]) _ ?_ fun p hp => ?_
        · simp only [cA, aC, aN, cV, cC, c1, c2, cMs, cTup, cLst, cAnd, cOr, cIf, cT, cB, tNotB, tAndB, tOrB, tY, iA, iF, gN, gT, gsC, gsN, aS, pN, pS, cSl, cCh, gNot, walked, bo, br, bs, noR_ok, truB, truI, truS, truL, asBB, asI, gLenL, gLenT, gLenS, gLenN, gAddI, gSubI, gNegI, gLtI, gLeI, gGtI, gGeI, gLtS, gLeS, gGtS, gGeS, gAbsI, gIntI, gInC, gNotInC, gIsN, gIsNotN, gListL, gListT, gTupleL, gEqI, gNeI, gEqS, gNeS, List.getElem?_cons_succ, List.getElem?_cons_zero, List.set_cons_succ, List.set_cons_zero, List.map_cons, List.map_nil, List.cons_append, List.nil_append, wipeE, ↓reduceIte, Bool.not_true, Bool.not_false, Bool.false_eq_true, List.replicate_succ, List.replicate_zero, Nat.reduceSub]
          exact zip2_map _ _ t _
        · refine lcTurn_ok (by simp only [cA, aC, aN, cV, cC, c1, c2, cMs, cTup, cLst, cAnd, cOr, cIf, cT, cB, tNotB, tAndB, tOrB, tY, iA, iF, gN, gT, gsC, gsN, aS, pN, pS, cSl, cCh, gNot, walked, bo, br, bs, noR_ok, truB, truI, truS, truL, asBB, asI, gLenL, gLenT, gLenS, gLenN, gAddI, gSubI, gNegI, gLtI, gLeI, gGtI, gGeI, gLtS, gLeS, gGtS, gGeS, gAbsI, gIntI, gInC, gNotInC, gIsN, gIsNotN, gListL, gListT, gTupleL, gEqI, gNeI, gEqS, gNeS, List.getElem?_cons_succ, List.getElem?_cons_zero, List.set_cons_succ, List.set_cons_zero, List.map_cons, List.map_nil, List.cons_append, List.nil_append, wipeE, ↓reduceIte, Bool.not_true, Bool.not_false, Bool.false_eq_true, List.replicate_succ, List.replicate_zero, Nat.reduceSub, List.length_cons, List.length_nil]; rfl) rfl ?_
          simp only [cA, aC, aN, cV, cC, c1, c2, cMs, cTup, cLst, cAnd, cOr, cIf, cT, cB, tNotB, tAndB, tOrB, tY, iA, iF, gN, gT, gsC, gsN, aS, pN, pS, cSl, cCh, gNot, walked, bo, br, bs, noR_ok, truB, truI, truS, truL, asBB, asI, gLenL, gLenT, gLenS, gLenN, gAddI, gSubI, gNegI, gLtI, gLeI, gGtI, gGeI, gLtS, gLeS, gGtS, gGeS, gAbsI, gIntI, gInC, gNotInC, gIsN, gIsNotN, gListL, gListT, gTupleL, gEqI, gNeI, gEqS, gNeS, List.getElem?_cons_succ, List.getElem?_cons_zero, List.set_cons_succ, List.set_cons_zero, List.map_cons, List.map_nil, List.cons_append, List.nil_append, wipeE, ↓reduceIte, Bool.not_true, Bool.not_false, Bool.false_eq_true, List.replicate_succ, List.replicate_zero, Nat.reduceSub]
          rfl
      simp only [cA, aC, aN, cV, cC, c1, c2, cMs, cTup, cLst, cAnd, cOr, cIf, cT, cB, tNotB, tAndB, tOrB, tY, iA, iF, gN, gT, gsC, gsN, aS, pN, pS, cSl, cCh, gNot, walked, bo, br, bs, noR_ok, truB, truI, truS, truL, asBB, asI, gLenL, gLenT, gLenS, gLenN, gAddI, gSubI, gNegI, gLtI, gLeI, gGtI, gGeI, gLtS, gLeS, gGtS, gGeS, gAbsI, gIntI, gInC, gNotInC, gIsN, gIsNotN, gListL, gListT, gTupleL, gEqI, gNeI, gEqS, gNeS, List.getElem?_cons_succ, List.getElem?_cons_zero, List.set_cons_succ, List.set_cons_zero, List.map_cons, List.map_nil, List.cons_append, List.nil_append, wipeE, ↓reduceIte, Bool.not_true, Bool.not_false, Bool.false_eq_true, List.replicate_succ, List.replicate_zero, Nat.reduceSub] at e2 ⊢
      rw [e2]
      simp only [cA, aC, aN, cV, cC, c1, c2, cMs, cTup, cLst, cAnd, cOr, cIf, cT, cB, tNotB, tAndB, tOrB, tY, iA, iF, gN, gT, gsC, gsN, aS, pN, pS, cSl, cCh, gNot, walked, bo, br, bs, noR_ok, truB, truI, truS, truL, asBB, asI, gLenL, gLenT, gLenS, gLenN, gAddI, gSubI, gNegI, gLtI, gLeI, gGtI, gGeI, gLtS, gLeS, gGtS, gGeS, gAbsI, gIntI, gInC, gNotInC, gIsN, gIsNotN, gListL, gListT, gTupleL, gEqI, gNeI, gEqS, gNeS, List.getElem?_cons_succ, List.getElem?_cons_zero, List.set_cons_succ, List.set_cons_zero, List.map_cons, List.map_nil, List.cons_append, List.nil_append, wipeE, ↓reduceIte, Bool.not_true, Bool.not_false, Bool.false_eq_true, List.replicate_succ, List.replicate_zero, Nat.reduceSub, gSum_ints]
      rfl
    · have g : ∀ q : Int × List Nat, gIx (.tup [.int q.1, dNs q.2]) (.int 0) = .ok (.int q.1) := fun q => gIx_tup (k := 0) rfl
      refine go_if (k := match bb with | none => true | some q => decide (far ws fr cs t < q.1)) ?_ (fun hk => ?_) (fun hk => ?_)
      · cases bb with
        | none => simp only [cA, aC, aN, cV, cC, c1, c2, cMs, cTup, cLst, cAnd, cOr, cIf, cT, cB, tNotB, tAndB, tOrB, tY, iA, iF, gN, gT, gsC, gsN, aS, pN, pS, cSl, cCh, gNot, walked, bo, br, bs, noR_ok, truB, truI, truS, truL, asBB, asI, gLenL, gLenT, gLenS, gLenN, gAddI, gSubI, gNegI, gLtI, gLeI, gGtI, gGeI, gLtS, gLeS, gGtS, gGeS, gAbsI, gIntI, gInC, gNotInC, gIsN, gIsNotN, gListL, gListT, gTupleL, gEqI, gNeI, gEqS, gNeS, List.getElem?_cons_succ, List.getElem?_cons_zero, List.set_cons_succ, List.set_cons_zero, List.map_cons, List.map_nil, List.cons_append, List.nil_append, wipeE, ↓reduceIte, Bool.not_true, Bool.not_false, Bool.false_eq_true, List.replicate_succ, List.replicate_zero, Nat.reduceSub, bestD, isNon]
        | some q => simp only [cA, aC, aN, cV, cC, c1, c2, cMs, cTup, cLst, cAnd, cOr, cIf, cT, cB, tNotB, tAndB, tOrB, tY, iA, iF, gN, gT, gsC, gsN, aS, pN, pS, cSl, cCh, gNot, walked, bo, br, bs, noR_ok, truB, truI, truS, truL, asBB, asI, gLenL, gLenT, gLenS, gLenN, gAddI, gSubI, gNegI, gLtI, gLeI, gGtI, gGeI, gLtS, gLeS, gGtS, gGeS, gAbsI, gIntI, gInC, gNotInC, gIsN, gIsNotN, gListL, gListT, gTupleL, gEqI, gNeI, gEqS, gNeS, List.getElem?_cons_succ, List.getElem?_cons_zero, List.set_cons_succ, List.set_cons_zero, List.map_cons, List.map_nil, List.cons_append, List.nil_append, wipeE, ↓reduceIte, Bool.not_true, Bool.not_false, Bool.false_eq_true, List.replicate_succ, List.replicate_zero, Nat.reduceSub, bestD, isNon, g]
      · have e3 : [t].foldl (fun b t => upd1 b (far ws fr cs t, t)) bb = some (far ws fr cs t, t) := by
          cases bb with
          | none => rfl
          | some q => exact if_pos (of_decide_eq_true hk)
        rw [e3]
        refine go_set (d := bestD (some (far ws fr cs t, t))) ?_ ⟨_, _, _, rfl⟩
        simp only [cA, aC, aN, cV, cC, c1, c2, cMs, cTup, cLst, cAnd, cOr, cIf, cT, cB, tNotB, tAndB, tOrB, tY, iA, iF, gN, gT, gsC, gsN, aS, pN, pS, cSl, cCh, gNot, walked, bo, br, bs, noR_ok, truB, truI, truS, truL, asBB, asI, gLenL, gLenT, gLenS, gLenN, gAddI, gSubI, gNegI, gLtI, gLeI, gGtI, gGeI, gLtS, gLeS, gGtS, gGeS, gAbsI, gIntI, gInC, gNotInC, gIsN, gIsNotN, gListL, gListT, gTupleL, gEqI, gNeI, gEqS, gNeS, List.getElem?_cons_succ, List.getElem?_cons_zero, List.set_cons_succ, List.set_cons_zero, List.map_cons, List.map_nil, List.cons_append, List.nil_append, wipeE, ↓reduceIte, Bool.not_true, Bool.not_false, Bool.false_eq_true, List.replicate_succ, List.replicate_zero, Nat.reduceSub]
        rfl
      · have e3 : [t].foldl (fun b t => upd1 b (far ws fr cs t, t)) bb = bb := by
          cases bb with
          | none => cases hk
          | some q => exact if_neg (of_decide_eq_false hk)
        rw [e3]
        exact go_pass ⟨_, _, _, rfl⟩
  · rintro ρ own ⟨a, b, c, rfl⟩
    exact sfRet_ok rfl
/-! ### the law's own text and counts -/
theorem glue_cons (fr : List Nat) : ∀ l : List (List Nat), glue [32] (fr :: l) = fr ++ l.flatMap fun p => 32 :: p
  | [] => by simp [glue]
  | x :: l => by
    rw [glue, glue_cons x l]
    simp
theorem txt_flat (ws : List (List Nat)) : ∀ (l : List (Nat × Nat)) (fr : List Nat), txt ws fr l = fr ++ l.flatMap fun p => 32 :: (wd ws p.1 ++ [32] ++ [p.2])
  | [], fr => by simp [txt]
  | p :: l, fr => by
    show txt ws (fr ++ [32] ++ wd ws p.1 ++ [32] ++ [p.2]) l = _
    rw [txt_flat ws l]
    simp
def piece (ws : List (List Nat)) (p : Nat × Nat) : List Nat := wd ws p.1 ++ [32] ++ [p.2]
theorem pieces_eq (ws : List (List Nat)) (cs t : List Nat) (hl : t.length = cs.length) : (List.range cs.length).map (fun k => piece ws (t.getD k 0, cs.getD k 0)) = (t.zip cs).map (piece ws) := by
  refine List.ext_getElem (by simp [hl]) fun k h1 h2 => ?_
  have hk : k < cs.length := by simpa using h1
  simp [List.getD_eq_getElem?_getD, List.getElem?_eq_getElem hk, List.getElem?_eq_getElem (show k < t.length by omega)]
theorem e__law_text {ws : List (List Nat)} {fr cs t : List Nat} (h : Good59 ws fr cs) (ht : Fill ws cs t) : fn__law_text [dSs ws, dS fr, dCs cs, dNs t] = .ok (.str (txt ws fr (t.zip cs))) := by
  have hb : big = 16777216 := rfl
  have hc := h.c2
  have hf := h.f1
  refine runB_rt rfl (sfRet_ok ?_)
  have e1 : cLC [4] (iF range1 (aC (cA gLen (aC (cV 2) aN)) aN)) (gN 4) tY (c2 gAdd (c2 gAdd (c2 gIx (cV 0) (c2 gIx (cV 3) (cV 4))) (cC (.str [32]))) (c2 gIx (cV 2) (cV 4))) [some (dSs ws), some (dS fr), some (dCs cs), some (dNs t), none] = .ok (.lst ((List.range cs.length).map fun k => .str (piece ws (t.getD k 0, cs.getD k 0)))) := by
    refine cLC_map (List.range cs.length) (fun (k : Nat) => .int (k : Int)) _ ?_ fun k hk => ?_
    · simp only [cA, aC, aN, cV, cC, c1, c2, cMs, cTup, cLst, cAnd, cOr, cIf, cT, cB, tNotB, tAndB, tOrB, tY, iA, iF, gN, gT, gsC, gsN, aS, pN, pS, cSl, cCh, gNot, walked, bo, br, bs, noR_ok, truB, truI, truS, truL, asBB, asI, gLenL, gLenT, gLenS, gLenN, gAddI, gSubI, gNegI, gLtI, gLeI, gGtI, gGeI, gLtS, gLeS, gGtS, gGeS, gAbsI, gIntI, gInC, gNotInC, gIsN, gIsNotN, gListL, gListT, gTupleL, gEqI, gNeI, gEqS, gNeS, List.getElem?_cons_succ, List.getElem?_cons_zero, List.set_cons_succ, List.set_cons_zero, List.map_cons, List.map_nil, List.cons_append, List.nil_append, wipeE, ↓reduceIte, Bool.not_true, Bool.not_false, Bool.false_eq_true, List.replicate_succ, List.replicate_zero, Nat.reduceSub, List.length_map]
      exact range1_nat _ (by omega)
    · have hk := List.mem_range.mp hk
      have hkt : k < t.length := by rw [ht.1]; exact hk
      have q1 : t[k]? = some (t.getD k 0) := by rw [List.getD_eq_getElem?_getD, List.getElem?_eq_getElem hkt]; rfl
      have q2 : cs[k]? = some (cs.getD k 0) := by rw [List.getD_eq_getElem?_getD, List.getElem?_eq_getElem hk]; rfl
      have hn : t.getD k 0 < ws.length := ht.2 _ (List.mem_of_getElem? q1)
      have l8 := wd_le h hn
      have g1 : gIx (dNs t) (.int (k : Int)) = .ok (.int (t.getD k 0 : Int)) := ix_map (fun (n : Nat) => D.int (n : Int)) q1
      have g2 : gIx (dSs ws) (.int (t.getD k 0 : Int)) = .ok (.str (wd ws (t.getD k 0))) := ix_map D.str (wd_at hn)
      have g3 : gIx (dCs cs) (.int (k : Int)) = .ok (.str [cs.getD k 0]) := ix_map (fun c => D.str [c]) q2
      have g4 : gAdd (.str (wd ws (t.getD k 0))) (.str [32]) = .ok (.str (wd ws (t.getD k 0) ++ [32])) := gAddS (by simp only [List.length_cons, List.length_nil]; omega)
      have g5 : gAdd (.str (wd ws (t.getD k 0) ++ [32])) (.str [cs.getD k 0]) = .ok (.str (wd ws (t.getD k 0) ++ [32] ++ [cs.getD k 0])) := gAddS (by simp only [List.length_append, List.length_cons, List.length_nil]; omega)
      refine lcTurn_ok rfl rfl ?_
      simp only [cA, aC, aN, cV, cC, c1, c2, cMs, cTup, cLst, cAnd, cOr, cIf, cT, cB, tNotB, tAndB, tOrB, tY, iA, iF, gN, gT, gsC, gsN, aS, pN, pS, cSl, cCh, gNot, walked, bo, br, bs, noR_ok, truB, truI, truS, truL, asBB, asI, gLenL, gLenT, gLenS, gLenN, gAddI, gSubI, gNegI, gLtI, gLeI, gGtI, gGeI, gLtS, gLeS, gGtS, gGeS, gAbsI, gIntI, gInC, gNotInC, gIsN, gIsNotN, gListL, gListT, gTupleL, gEqI, gNeI, gEqS, gNeS, List.getElem?_cons_succ, List.getElem?_cons_zero, List.set_cons_succ, List.set_cons_zero, List.map_cons, List.map_nil, List.cons_append, List.nil_append, wipeE, ↓reduceIte, Bool.not_true, Bool.not_false, Bool.false_eq_true, List.replicate_succ, List.replicate_zero, Nat.reduceSub, g1, g2, g3, g4]
      exact g5
  have hz : (t.zip cs).length = cs.length := by rw [List.length_zip, ht.1]; omega
  have e2 : ((List.range cs.length).map fun k => D.str (piece ws (t.getD k 0, cs.getD k 0))) = ((t.zip cs).map (piece ws)).map D.str := by
    rw [← pieces_eq ws cs t ht.1, List.map_map]
    rfl
  have e3 : glue [32] (fr :: (t.zip cs).map (piece ws)) = txt ws fr (t.zip cs) := by
    rw [glue_cons, txt_flat, List.flatMap_map]
    rfl
  have hl := txt_len h (t.zip cs) fr fun p hp => ht.2 p.1 (List.of_mem_zip (a := p.1) (b := p.2) hp).1
  have sl : ∀ l : List (Nat × Nat), (∀ p ∈ l, p.1 < ws.length) → sumLen (l.map (piece ws)) ≤ 10 * l.length := fun l => by
    induction l with
    | nil => intro _; exact Nat.le_refl _
    | cons p l ih =>
      intro hp
      have := ih fun q hq => hp q (List.mem_cons_of_mem _ hq)
      have w8 := wd_le h (hp p (by simp))
      simp only [List.map_cons, sumLen, piece, List.length_append, List.length_cons, List.length_nil]
      omega
  have hs := sl (t.zip cs) fun p hp => ht.2 p.1 (List.of_mem_zip (a := p.1) (b := p.2) hp).1
  have e4 : gJoin [32] (.lst (dS fr :: ((t.zip cs).map (piece ws)).map D.str)) = .ok (.str (txt ws fr (t.zip cs))) := by
    have so : strsOf (dS fr :: ((t.zip cs).map (piece ws)).map D.str) = some (fr :: (t.zip cs).map (piece ws)) := by
      rw [strsOf, strsOf_map (fun x => x), List.map_id']
      rfl
    simp only [gJoin, so, e3]
    rw [if_pos]
    simp only [sumLen, List.length_cons, List.length_map, List.length_nil]
    omega
  have g6 : gAdd (.lst [dS fr]) (.lst (((t.zip cs).map (piece ws)).map D.str)) = .ok (.lst (dS fr :: ((t.zip cs).map (piece ws)).map D.str)) := gAddLs (by simp only [List.length_map, List.length_cons, List.length_nil]; omega)
  have b1 : ([dS fr] : List D).length ≤ big := by show 1 ≤ 16777216; decide
  show cMs gJoin (cC (.str [32])) (c2 gAdd (cLst (aC (cV 1) aN)) (cLC [4] (iF range1 (aC (cA gLen (aC (cV 2) aN)) aN)) (gN 4) tY (c2 gAdd (c2 gAdd (c2 gIx (cV 0) (c2 gIx (cV 3) (cV 4))) (cC (.str [32]))) (c2 gIx (cV 2) (cV 4))))) [some (dSs ws), some (dS fr), some (dCs cs), some (dNs t), none] = _
  simp only [cMs, cC, c2, bo, e1, e2]
  simp only [cA, aC, aN, cV, cC, c1, c2, cMs, cTup, cLst, cAnd, cOr, cIf, cT, cB, tNotB, tAndB, tOrB, tY, iA, iF, gN, gT, gsC, gsN, aS, pN, pS, cSl, cCh, gNot, walked, bo, br, bs, noR_ok, truB, truI, truS, truL, asBB, asI, gLenL, gLenT, gLenS, gLenN, gAddI, gSubI, gNegI, gLtI, gLeI, gGtI, gGeI, gLtS, gLeS, gGtS, gGeS, gAbsI, gIntI, gInC, gNotInC, gIsN, gIsNotN, gListL, gListT, gTupleL, gEqI, gNeI, gEqS, gNeS, List.getElem?_cons_succ, List.getElem?_cons_zero, List.set_cons_succ, List.set_cons_zero, List.map_cons, List.map_nil, List.cons_append, List.nil_append, wipeE, ↓reduceIte, Bool.not_true, Bool.not_false, Bool.false_eq_true, List.replicate_succ, List.replicate_zero, Nat.reduceSub, b1, g6, e4]
theorem e__law_counts {ws : List (List Nat)} {fr cs t : List Nat} (h : Good59 ws fr cs) (ht : Fill ws cs t) : fn__law_counts [dSs ws, dS fr, dCs cs, dNs t] = .ok (dNs (cnts ws fr cs t)) := by
  refine runB_rt rfl ?_
  refine rts_set (d := .str (txt ws fr (t.zip cs))) (by simp only [cA, aC, aN, cV, cC, c1, c2, cMs, cTup, cLst, cAnd, cOr, cIf, cT, cB, tNotB, tAndB, tOrB, tY, iA, iF, gN, gT, gsC, gsN, aS, pN, pS, cSl, cCh, gNot, walked, bo, br, bs, noR_ok, truB, truI, truS, truL, asBB, asI, gLenL, gLenT, gLenS, gLenN, gAddI, gSubI, gNegI, gLtI, gLeI, gGtI, gGeI, gLtS, gLeS, gGtS, gGeS, gAbsI, gIntI, gInC, gNotInC, gIsN, gIsNotN, gListL, gListT, gTupleL, gEqI, gNeI, gEqS, gNeS, List.getElem?_cons_succ, List.getElem?_cons_zero, List.set_cons_succ, List.set_cons_zero, List.map_cons, List.map_nil, List.cons_append, List.nil_append, wipeE, ↓reduceIte, Bool.not_true, Bool.not_false, Bool.false_eq_true, List.replicate_succ, List.replicate_zero, Nat.reduceSub]; exact e__law_text h ht) ?_
  refine sfRet_ok ?_
  rw [cnts, ← dNs_map]
  refine cLC_map cs (fun c => .str [c]) _ (by simp only [cA, aC, aN, cV, cC, c1, c2, cMs, cTup, cLst, cAnd, cOr, cIf, cT, cB, tNotB, tAndB, tOrB, tY, iA, iF, gN, gT, gsC, gsN, aS, pN, pS, cSl, cCh, gNot, walked, bo, br, bs, noR_ok, truB, truI, truS, truL, asBB, asI, gLenL, gLenT, gLenS, gLenN, gAddI, gSubI, gNegI, gLtI, gLeI, gGtI, gGeI, gLtS, gLeS, gGtS, gGeS, gAbsI, gIntI, gInC, gNotInC, gIsN, gIsNotN, gListL, gListT, gTupleL, gEqI, gNeI, gEqS, gNeS, List.getElem?_cons_succ, List.getElem?_cons_zero, List.set_cons_succ, List.set_cons_zero, List.map_cons, List.map_nil, List.cons_append, List.nil_append, wipeE, ↓reduceIte, Bool.not_true, Bool.not_false, Bool.false_eq_true, List.replicate_succ, List.replicate_zero, Nat.reduceSub]) fun c hc => ?_
  refine lcTurn_ok rfl rfl ?_
  have e1 : ∀ a b c3 d, cLC [6] (iA (cV 4)) (gN 6) (cB (c2 gEq (cV 6) (cV 5))) (cV 6) [a, b, c3, d, some (.str (txt ws fr (t.zip cs))), some (.str [c]), none] = .ok (.lst (((txt ws fr (t.zip cs)).filter fun x => decide (x = c)).map fun x => .str [x])) := fun a b c3 d => by
    refine cLC_filter _ (fun x => .str [x]) _ (fun x => decide (x = c)) rfl fun x hx => ?_
    refine lcTurn_if rfl ?_ rfl
    simp only [cA, aC, aN, cV, cC, c1, c2, cMs, cTup, cLst, cAnd, cOr, cIf, cT, cB, tNotB, tAndB, tOrB, tY, iA, iF, gN, gT, gsC, gsN, aS, pN, pS, cSl, cCh, gNot, walked, bo, br, bs, noR_ok, truB, truI, truS, truL, asBB, asI, gLenL, gLenT, gLenS, gLenN, gAddI, gSubI, gNegI, gLtI, gLeI, gGtI, gGeI, gLtS, gLeS, gGtS, gGeS, gAbsI, gIntI, gInC, gNotInC, gIsN, gIsNotN, gListL, gListT, gTupleL, gEqI, gNeI, gEqS, gNeS, List.getElem?_cons_succ, List.getElem?_cons_zero, List.set_cons_succ, List.set_cons_zero, List.map_cons, List.map_nil, List.cons_append, List.nil_append, wipeE, ↓reduceIte, Bool.not_true, Bool.not_false, Bool.false_eq_true, List.replicate_succ, List.replicate_zero, Nat.reduceSub]
    simp
  show R.bind (R.bind (cLC [6] (iA (cV 4)) (gN 6) (cB (c2 gEq (cV 6) (cV 5))) (cV 6) [some (dSs ws), some (dS fr), some (dCs cs), some (dNs t), some (.str (txt ws fr (t.zip cs))), some (.str [c]), none]) _) _ = _
  rw [e1]
  simp only [cA, aC, aN, cV, cC, c1, c2, cMs, cTup, cLst, cAnd, cOr, cIf, cT, cB, tNotB, tAndB, tOrB, tY, iA, iF, gN, gT, gsC, gsN, aS, pN, pS, cSl, cCh, gNot, walked, bo, br, bs, noR_ok, truB, truI, truS, truL, asBB, asI, gLenL, gLenT, gLenS, gLenN, gAddI, gSubI, gNegI, gLtI, gLeI, gGtI, gGeI, gLtS, gLeS, gGtS, gGeS, gAbsI, gIntI, gInC, gNotInC, gIsN, gIsNotN, gListL, gListT, gTupleL, gEqI, gNeI, gEqS, gNeS, List.getElem?_cons_succ, List.getElem?_cons_zero, List.set_cons_succ, List.set_cons_zero, List.map_cons, List.map_nil, List.cons_append, List.nil_append, wipeE, ↓reduceIte, Bool.not_true, Bool.not_false, Bool.false_eq_true, List.replicate_succ, List.replicate_zero, Nat.reduceSub, List.length_map]
  rfl
end K59

namespace K59
open PySem PySem.Spec Ev
theorem gIx_getD {l : List D} {k : Nat} (h : k < l.length) : gIx (.lst l) (.int (k : Int)) = .ok (l.getD k .non) := gIx_lst (by rw [List.getD_eq_getElem?_getD, List.getElem?_eq_getElem h]; rfl)
theorem gIx_getS {l : List Nat} {k : Nat} (h : k < l.length) : gIx (.str l) (.int (k : Int)) = .ok (.str [l.getD k 0]) := gIx_str (by rw [List.getD_eq_getElem?_getD, List.getElem?_eq_getElem h]; rfl)
theorem glue_ones : ∀ l : List Nat, glue [] (l.map fun x => [x]) = l
  | [] => rfl
  | [x] => rfl
  | x :: y :: l => by
    have ih := glue_ones (y :: l)
    simp only [List.map_cons] at ih ⊢
    rw [glue, ih]
    rfl
theorem sumLen_ones : ∀ l : List Nat, sumLen (l.map fun x => [x]) = l.length
  | [] => rfl
  | x :: l => by
    rw [List.map_cons, sumLen, sumLen_ones l, List.length_cons, List.length_cons, List.length_nil]
    omega
theorem join_ones (l : List Nat) (h : l.length ≤ big) : gJoin [] (.lst (l.map fun x => .str [x])) = .ok (.str l) := by
  have so : strsOf (l.map fun x => D.str [x]) = some (l.map fun x => [x]) := strsOf_map (fun x => [x]) l
  simp only [gJoin, so, glue_ones]
  rw [if_pos]
  rw [sumLen_ones, List.length_nil, Nat.mul_zero]
  exact h
def WOk (w : List Nat) : Prop := 1 ≤ w.length ∧ w.length ≤ 6 ∧ ∀ c ∈ w, c ∈ LET
/-- 'abc..'[mix(..)] in a comprehension -/
theorem e_word (ds : List Int) (s0 s2 s3 : Option D) (t size : Nat) (hs : size ≤ 6) : ∃ w : List Nat, w.length = size ∧ (∀ c ∈ w, c ∈ LET) ∧ cMs gJoin (cC (.str [])) (cLC [18] (iF range1 (aC (cV 5) aN)) (gN 18) tY (c2 gIx (cC (.str [97, 98, 99, 120, 121, 122])) (cA fn__law_mix (aC (cV 1) (aC (c2 gAdd (c2 gAdd (cC (.int 11)) (c2 gMul (cC (.int 8)) (cV 4))) (cV 18)) (aC (c2 gIx (cLst (aC (cC (.int 3)) (aC (cC (.int 6)) (aC (cC (.int 6)) aN)))) (cA fn__law_mix (aC (cV 1) (aC (cC (.int 2)) (aC (cC (.int 3)) aN))))) aN)))))) [s0, some (dIs ds), s2, s3, some (.int (t : Int)), some (.int (size : Int)), none, none, none, none, none, none, none, none, none, none, none, none, none, none, none, none, none, none, none] = .ok (.str w) := by
  have hb : big = 16777216 := rfl
  obtain ⟨m, m1, m2, m3⟩ : ∃ m : Nat, 0 < m ∧ m ≤ 6 ∧ gIx (.lst [.int 3, .int 6, .int 6]) (.int (mixN ds 2 3 : Int)) = .ok (.int (m : Int)) := by
    have h3 := mixN_lt ds 2 3 (by decide)
    rw [gIx_getD (l := [.int 3, .int 6, .int 6]) h3]
    match mixN ds 2 3, h3 with
    | 0, _ => exact ⟨3, by decide, by decide, rfl⟩
    | 1, _ => exact ⟨6, by decide, by decide, rfl⟩
    | 2, _ => exact ⟨6, by decide, by decide, rfl⟩
  have e1 : fn__law_mix [dIs ds, .int 2, .int 3] = .ok (.int (mixN ds 2 3 : Int)) := e__law_mix ds 2 3 (by decide)
  refine ⟨(List.range size).map fun (j : Nat) => [97, 98, 99, 120, 121, 122].getD (mixN ds (11 + 8 * (t : Int) + (j : Int)).toNat m) 0, by simp, ?_, ?_⟩
  · intro c hc
    obtain ⟨j, _, rfl⟩ := List.mem_map.mp hc
    have hm := mixN_lt ds (11 + 8 * (t : Int) + (j : Int)).toNat m m1
    have h6 : mixN ds (11 + 8 * (t : Int) + (j : Int)).toNat m < 6 := by omega
    match mixN ds (11 + 8 * (t : Int) + (j : Int)).toNat m, h6 with
    | 0, _ => decide
    | 1, _ => decide
    | 2, _ => decide
    | 3, _ => decide
    | 4, _ => decide
    | 5, _ => decide
  · have e2 : cLC [18] (iF range1 (aC (cV 5) aN)) (gN 18) tY (c2 gIx (cC (.str [97, 98, 99, 120, 121, 122])) (cA fn__law_mix (aC (cV 1) (aC (c2 gAdd (c2 gAdd (cC (.int 11)) (c2 gMul (cC (.int 8)) (cV 4))) (cV 18)) (aC (c2 gIx (cLst (aC (cC (.int 3)) (aC (cC (.int 6)) (aC (cC (.int 6)) aN)))) (cA fn__law_mix (aC (cV 1) (aC (cC (.int 2)) (aC (cC (.int 3)) aN))))) aN))))) [s0, some (dIs ds), s2, s3, some (.int (t : Int)), some (.int (size : Int)), none, none, none, none, none, none, none, none, none, none, none, none, none, none, none, none, none, none, none] = .ok (.lst ((List.range size).map fun (j : Nat) => .str [[97, 98, 99, 120, 121, 122].getD (mixN ds (11 + 8 * (t : Int) + (j : Int)).toNat m) 0])) := by
      refine cLC_map (List.range size) (fun (k : Nat) => .int (k : Int)) _ ?_ fun j hj => ?_
      · simp only [cA, aC, aN, cV, cC, c1, c2, cMs, cTup, cLst, cAnd, cOr, cIf, cT, cB, tNotB, tAndB, tOrB, tY, iA, iF, gN, gT, gsC, gsN, aS, pN, pS, cSl, cCh, gNot, walked, bo, br, bs, noR_ok, truB, truI, truS, truL, asBB, asI, gLenL, gLenT, gLenS, gLenN, gAddI, gSubI, gNegI, gLtI, gLeI, gGtI, gGeI, gLtS, gLeS, gGtS, gGeS, gAbsI, gIntI, gInC, gNotInC, gIsN, gIsNotN, gListL, gListT, gTupleL, gEqI, gNeI, gEqS, gNeS, List.getElem?_cons_succ, List.getElem?_cons_zero, List.set_cons_succ, List.set_cons_zero, List.map_cons, List.map_nil, List.cons_append, List.nil_append, wipeE, ↓reduceIte, Bool.not_true, Bool.not_false, Bool.false_eq_true]
        exact range1_nat _ (by omega)
      · refine lcTurn_ok rfl rfl ?_
        have b3 : ([.int 3, .int 6, .int 6] : List D).length ≤ big := by show 3 ≤ 16777216; decide
        have hm := mixN_lt ds (11 + 8 * (t : Int) + (j : Int)).toNat m m1
        have g : gIx (.str [97, 98, 99, 120, 121, 122]) (.int (mixN ds (11 + 8 * (t : Int) + (j : Int)).toNat m : Int)) = .ok (.str [[97, 98, 99, 120, 121, 122].getD (mixN ds (11 + 8 * (t : Int) + (j : Int)).toNat m) 0]) := gIx_getS (by simp only [List.length_cons, List.length_nil]; omega)
        have em := e_mixI ds (11 + 8 * (t : Int) + (j : Int)) (m : Int) (by omega) (by omega)
        rw [Int.toNat_natCast] at em
        simp only [cA, aC, aN, cV, cC, c1, c2, cMs, cTup, cLst, cAnd, cOr, cIf, cT, cB, tNotB, tAndB, tOrB, tY, iA, iF, gN, gT, gsC, gsN, aS, pN, pS, cSl, cCh, gNot, walked, bo, br, bs, noR_ok, truB, truI, truS, truL, asBB, asI, gLenL, gLenT, gLenS, gLenN, gAddI, gSubI, gNegI, gLtI, gLeI, gGtI, gGeI, gLtS, gLeS, gGtS, gGeS, gAbsI, gIntI, gInC, gNotInC, gIsN, gIsNotN, gListL, gListT, gTupleL, gEqI, gNeI, gEqS, gNeS, List.getElem?_cons_succ, List.getElem?_cons_zero, List.set_cons_succ, List.set_cons_zero, List.map_cons, List.map_nil, List.cons_append, List.nil_append, wipeE, ↓reduceIte, Bool.not_true, Bool.not_false, Bool.false_eq_true, gMulLft (show -18446744073709551616 < (8 : Int) ∧ (8 : Int) < 18446744073709551616 by decide), b3, e1, m3, em, g]
    have e3 := join_ones ((List.range size).map fun (j : Nat) => [97, 98, 99, 120, 121, 122].getD (mixN ds (11 + 8 * (t : Int) + (j : Int)).toNat m) 0) (by simp only [List.length_map, List.length_range]; omega)
    rw [List.map_map] at e3
    simp only [cMs, cC, bo, e2]
    exact e3
theorem dSs_app (a : List (List Nat)) (x : List Nat) : dSs (a ++ [x]) = .lst (a.map D.str ++ [.str x]) := by simp [dSs]
theorem s3 (ns ds : List Int) (cs : List Nat) (hc1 : 1 ≤ cs.length) (hc2 : cs.length ≤ 3) : Go (b_law_s3 [some (.scr ns), some (dIs ds), some (dCs cs), some (dSs []), none, none, none, none, none, none, none, none, none, none, none, none, none, none, none, none, none, none, none, none, none] [3])
    (fun ρ _ => ∃ ws a b, 1 ≤ ws.length ∧ ws.length ≤ 10 ∧ (cs.length = 3 → ws.length ≤ 7) ∧ (∀ w ∈ ws, WOk w) ∧ ρ = [some (.scr ns), some (dIs ds), some (dCs cs), some (dSs ws), a, b, none, none, none, none, none, none, none, none, none, none, none, none, none, none, none, none, none, none, none]) := by
  have hb : big = 16777216 := rfl
  obtain ⟨m, m1, m2, m4, m3⟩ : ∃ m : Nat, 0 < m ∧ m ≤ 10 ∧ (cs.length = 3 → m ≤ 7) ∧ gIx (.lst [.int 10, .int 10, .int 7]) (.int ((cs.length : Int) - 1)) = .ok (.int (m : Int)) := by
    have e : ((cs.length : Int) - 1) = ((cs.length - 1 : Nat) : Int) := by omega
    rw [e, gIx_getD (show cs.length - 1 < 3 by omega)]
    generalize hq : cs.length - 1 = q
    have hq3 : q < 3 := by omega
    match q, hq3, hq with
    | 0, _, h => exact ⟨10, by decide, by decide, by omega, rfl⟩
    | 1, _, h => exact ⟨10, by decide, by decide, by omega, rfl⟩
    | 2, _, h => exact ⟨7, by decide, by decide, by omega, rfl⟩
  have hm := mixN_lt ds 1 m m1
  have em : fn__law_mix [dIs ds, .int 1, .int (m : Int)] = .ok (.int (mixN ds 1 m : Int)) := e__law_mix ds 1 m m1
  have b3 : ([.int 10, .int 10, .int 7] : List D).length ≤ big := by show 3 ≤ 16777216; decide
  have ei : (1 : Int) + (mixN ds 1 m : Int) = ((1 + mixN ds 1 m : Nat) : Int) := by omega
  refine go_for (List.range (1 + mixN ds 1 m)) (fun (k : Nat) => .int (k : Int)) (fun done ρ own => 3 ∈ own ∧ ∃ ws a b, ws.length = done.length ∧ (∀ w ∈ ws, WOk w) ∧ ρ = [some (.scr ns), some (dIs ds), some (dCs cs), some (dSs ws), a, b, none, none, none, none, none, none, none, none, none, none, none, none, none, none, none, none, none, none, none]) ?_ ⟨by simp [sansO], [], none, none, rfl, (fun _ z => by cases z), rfl⟩ ?_ ?_
  · simp only [cA, aC, aN, cV, cC, c1, c2, cMs, cTup, cLst, cAnd, cOr, cIf, cT, cB, tNotB, tAndB, tOrB, tY, iA, iF, gN, gT, gsC, gsN, aS, pN, pS, cSl, cCh, gNot, walked, bo, br, bs, noR_ok, truB, truI, truS, truL, asBB, asI, gLenL, gLenT, gLenS, gLenN, gAddI, gSubI, gNegI, gLtI, gLeI, gGtI, gGeI, gLtS, gLeS, gGtS, gGeS, gAbsI, gIntI, gInC, gNotInC, gIsN, gIsNotN, gListL, gListT, gTupleL, gEqI, gNeI, gEqS, gNeS, List.getElem?_cons_succ, List.getElem?_cons_zero, List.set_cons_succ, List.set_cons_zero, List.map_cons, List.map_nil, List.cons_append, List.nil_append, wipeE, ↓reduceIte, Bool.not_true, Bool.not_false, Bool.false_eq_true, b3, List.length_map, m3, em, ei]
    exact range1_nat _ (by omega)
  · rintro d1 t d2 e ρ own ⟨ho, ws, a, b, hl, hw, rfl⟩
    have hd1 : d1.length ≤ 10 := by
      have := congrArg List.length e
      simp only [List.length_range, List.length_append, List.length_cons] at this
      omega
    have e6 := e_mixI ds (10 + 8 * (t : Int)) 6 (by omega) (by decide)
    have h6 := mixN_lt ds (10 + 8 * (t : Int)).toNat (Int.toNat 6) (by decide)
    have h6 : mixN ds (10 + 8 * (t : Int)).toNat (Int.toNat 6) < 6 := h6
    generalize mixN ds (10 + 8 * (t : Int)).toNat (Int.toNat 6) = r at e6 h6
    have ei2 : (1 : Int) + (r : Int) = ((1 + r : Nat) : Int) := by omega
    refine ⟨_, rfl, Go.c ?_⟩
    refine gos_set (d := .int ((1 + r : Nat) : Int)) ?_ ?_
    · simp only [cA, aC, aN, cV, cC, c1, c2, cMs, cTup, cLst, cAnd, cOr, cIf, cT, cB, tNotB, tAndB, tOrB, tY, iA, iF, gN, gT, gsC, gsN, aS, pN, pS, cSl, cCh, gNot, walked, bo, br, bs, noR_ok, truB, truI, truS, truL, asBB, asI, gLenL, gLenT, gLenS, gLenN, gAddI, gSubI, gNegI, gLtI, gLeI, gGtI, gGeI, gLtS, gLeS, gGtS, gGeS, gAbsI, gIntI, gInC, gNotInC, gIsN, gIsNotN, gListL, gListT, gTupleL, gEqI, gNeI, gEqS, gNeS, List.getElem?_cons_succ, List.getElem?_cons_zero, List.set_cons_succ, List.set_cons_zero, List.map_cons, List.map_nil, List.cons_append, List.nil_append, wipeE, ↓reduceIte, Bool.not_true, Bool.not_false, Bool.false_eq_true, gMulLft (show -18446744073709551616 < (8 : Int) ∧ (8 : Int) < 18446744073709551616 by decide), e6, ei2]
    · obtain ⟨w, w1, w2, w3⟩ := e_word ds (some (.scr ns)) (some (dCs cs)) (some (dSs ws)) t (1 + r) (by omega)
      have ho2 : 3 ∈ dropO (keepO (sansO own [4]) ([] ++ ([1] ++ (([] ++ ([] ++ [4])) ++ ([] ++ [])))) (D.int ((1 + r : Nat) : Int))) 5 := in_dropO (in_keepA (in_sansO ho (by decide)) rfl) (by decide)
      refine go_app (xs := ws.map D.str) (d := .str w) rfl w3 (in_keepA ho2 rfl) (by rw [List.length_map]; omega) ⟨in_keepA ho2 rfl, ws ++ [w], some (.int (t : Int)), some (.int ((1 + r : Nat) : Int)), by simp [hl], ?_, ?_⟩
      · intro v hv
        rcases List.mem_append.mp hv with z | z
        · exact hw v z
        · rw [List.mem_singleton.mp z]
          exact ⟨by omega, by omega, w2⟩
      · rw [dSs_app]
        rfl
  · rintro ρ own ⟨_, ws, a, b, hl, hw, rfl⟩
    rw [List.length_range] at hl
    exact ⟨ws, a, b, by omega, by omega, fun h => by have := m4 h; omega, hw, rfl⟩
theorem s4 (ns ds : List Int) (cs : List Nat) (ws : List (List Nat)) (a b : Option D) (own : List Nat) : Go (b_law_s4 [some (.scr ns), some (dIs ds), some (dCs cs), some (dSs ws), a, b, none, none, none, none, none, none, none, none, none, none, none, none, none, none, none, none, none, none, none] own)
    (fun ρ _ => ∃ fr : List Nat, fr.length ≤ 12 ∧ (∀ c ∈ fr, c ∈ LET ++ [32]) ∧ ρ = [some (.scr ns), some (dIs ds), some (dCs cs), some (dSs ws), a, b, some (dS fr), none, none, none, none, none, none, none, none, none, none, none, none, none, none, none, none, none, none]) := by
  have hb : big = 16777216 := rfl
  have h13 := mixN_lt ds 3 13 (by decide)
  have e13 : fn__law_mix [dIs ds, .int 3, .int 13] = .ok (.int (mixN ds 3 13 : Int)) := e__law_mix ds 3 13 (by decide)
  generalize mixN ds 3 13 = n at h13 e13
  refine go_set (d := .str ((List.range n).map fun (j : Nat) => [97, 98, 99, 120, 32].getD (mixN ds (100 + (j : Int)).toNat 5) 0)) ?_ ⟨_, ?_, ?_, rfl⟩
  · have e2 : cLC [4] (iF range1 (aC (cA fn__law_mix (aC (cV 1) (aC (cC (.int 3)) (aC (cC (.int 13)) aN)))) aN)) (gN 4) tY (c2 gIx (cC (.str [97, 98, 99, 120, 32])) (cA fn__law_mix (aC (cV 1) (aC (c2 gAdd (cC (.int 100)) (cV 4)) (aC (cC (.int 5)) aN))))) [some (.scr ns), some (dIs ds), some (dCs cs), some (dSs ws), a, b, none, none, none, none, none, none, none, none, none, none, none, none, none, none, none, none, none, none, none] = .ok (.lst ((List.range n).map fun (j : Nat) => .str [[97, 98, 99, 120, 32].getD (mixN ds (100 + (j : Int)).toNat 5) 0])) := by
      refine cLC_map (List.range n) (fun (k : Nat) => .int (k : Int)) _ ?_ fun j hj => ?_
      · simp only [cA, aC, aN, cV, cC, c1, c2, cMs, cTup, cLst, cAnd, cOr, cIf, cT, cB, tNotB, tAndB, tOrB, tY, iA, iF, gN, gT, gsC, gsN, aS, pN, pS, cSl, cCh, gNot, walked, bo, br, bs, noR_ok, truB, truI, truS, truL, asBB, asI, gLenL, gLenT, gLenS, gLenN, gAddI, gSubI, gNegI, gLtI, gLeI, gGtI, gGeI, gLtS, gLeS, gGtS, gGeS, gAbsI, gIntI, gInC, gNotInC, gIsN, gIsNotN, gListL, gListT, gTupleL, gEqI, gNeI, gEqS, gNeS, List.getElem?_cons_succ, List.getElem?_cons_zero, List.set_cons_succ, List.set_cons_zero, List.map_cons, List.map_nil, List.cons_append, List.nil_append, wipeE, ↓reduceIte, Bool.not_true, Bool.not_false, Bool.false_eq_true, e13]
        exact range1_nat _ (by omega)
      · refine lcTurn_ok rfl rfl ?_
        have hm := mixN_lt ds (100 + (j : Int)).toNat 5 (by decide)
        have g : gIx (.str [97, 98, 99, 120, 32]) (.int (mixN ds (100 + (j : Int)).toNat 5 : Int)) = .ok (.str [[97, 98, 99, 120, 32].getD (mixN ds (100 + (j : Int)).toNat 5) 0]) := gIx_getS hm
        have em : fn__law_mix [dIs ds, .int (100 + (j : Int)), .int 5] = .ok (.int (mixN ds (100 + (j : Int)).toNat 5 : Int)) := e_mixI ds (100 + (j : Int)) 5 (by omega) (by decide)
        simp only [cA, aC, aN, cV, cC, c1, c2, cMs, cTup, cLst, cAnd, cOr, cIf, cT, cB, tNotB, tAndB, tOrB, tY, iA, iF, gN, gT, gsC, gsN, aS, pN, pS, cSl, cCh, gNot, walked, bo, br, bs, noR_ok, truB, truI, truS, truL, asBB, asI, gLenL, gLenT, gLenS, gLenN, gAddI, gSubI, gNegI, gLtI, gLeI, gGtI, gGeI, gLtS, gLeS, gGtS, gGeS, gAbsI, gIntI, gInC, gNotInC, gIsN, gIsNotN, gListL, gListT, gTupleL, gEqI, gNeI, gEqS, gNeS, List.getElem?_cons_succ, List.getElem?_cons_zero, List.set_cons_succ, List.set_cons_zero, List.map_cons, List.map_nil, List.cons_append, List.nil_append, wipeE, ↓reduceIte, Bool.not_true, Bool.not_false, Bool.false_eq_true, em, g]
    have e3 := join_ones ((List.range n).map fun (j : Nat) => [97, 98, 99, 120, 32].getD (mixN ds (100 + (j : Int)).toNat 5) 0) (by simp only [List.length_map, List.length_range]; omega)
    rw [List.map_map] at e3
    show cMs gJoin (cC (.str [])) (cLC [4] _ (gN 4) tY _) _ = _
    simp only [cMs, cC, bo, e2]
    exact e3
  · simp only [List.length_map, List.length_range]
    omega
  · intro c hc
    obtain ⟨j, _, rfl⟩ := List.mem_map.mp hc
    have hm := mixN_lt ds (100 + (j : Int)).toNat 5 (by decide)
    match mixN ds (100 + (j : Int)).toNat 5, hm with
    | 0, _ => decide
    | 1, _ => decide
    | 2, _ => decide
    | 3, _ => decide
    | 4, _ => decide
theorem s7 (ns ds : List Int) (cs : List Nat) (ws : List (List Nat)) (fr : List Nat) (a b x7 : Option D) (own : List Nat) (hw : ws.length ≤ 16) (hc : cs.length ≤ 3) : Go (b_law_s7 [some (.scr ns), some (dIs ds), some (dCs cs), some (dSs ws), a, b, some (dS fr), x7, some (.lst ([[]].map dNs)), none, none, none, none, none, none, none, none, none, none, none, none, none, none, none, none] own)
    (fun ρ _ => ∃ c d e, ρ = [some (.scr ns), some (dIs ds), some (dCs cs), some (dSs ws), a, b, some (dS fr), x7, some (.lst ((fill ws.length cs.length).map dNs)), c, d, e, none, none, none, none, none, none, none, none, none, none, none, none, none]) := by
  have hb : big = 16777216 := rfl
  refine go_for cs (fun c => .str [c]) (fun done ρ _ => ∃ c d e, ρ = [some (.scr ns), some (dIs ds), some (dCs cs), some (dSs ws), a, b, some (dS fr), x7, some (.lst ((fill ws.length done.length).map dNs)), c, d, e, none, none, none, none, none, none, none, none, none, none, none, none, none]) ?_ ⟨none, none, none, rfl⟩ ?_ fun _ _ h => h
  · simp only [cA, aC, aN, cV, cC, c1, c2, cMs, cTup, cLst, cAnd, cOr, cIf, cT, cB, tNotB, tAndB, tOrB, tY, iA, iF, gN, gT, gsC, gsN, aS, pN, pS, cSl, cCh, gNot, walked, bo, br, bs, noR_ok, truB, truI, truS, truL, asBB, asI, gLenL, gLenT, gLenS, gLenN, gAddI, gSubI, gNegI, gLtI, gLeI, gGtI, gGeI, gLtS, gLeS, gGtS, gGeS, gAbsI, gIntI, gInC, gNotInC, gIsN, gIsNotN, gListL, gListT, gTupleL, gEqI, gNeI, gEqS, gNeS, List.getElem?_cons_succ, List.getElem?_cons_zero, List.set_cons_succ, List.set_cons_zero, List.map_cons, List.map_nil, List.cons_append, List.nil_append, wipeE, ↓reduceIte, Bool.not_true, Bool.not_false, Bool.false_eq_true]
  · rintro d1 x d2 e ρ own ⟨c, d, e', rfl⟩
    have l0 : d1.length + 1 ≤ 3 := by
      have := congrArg List.length e
      simp only [List.length_append, List.length_cons] at this
      omega
    refine ⟨_, rfl, Go.c ?_⟩
    refine gos_new (d := .lst (([] : List (List Nat)).map dNs)) rfl (by simp) ?_
    refine go_seq (go_for (fill ws.length d1.length) dNs (fun done ρ _ => ∃ e, ρ = [some (.scr ns), some (dIs ds), some (dCs cs), some (dSs ws), a, b, some (dS fr), x7, some (.lst ((fill ws.length d1.length).map dNs)), some (.str [x]), some (.lst ((done.flatMap fun t => (List.range ws.length).map fun i => t ++ [i]).map dNs)), e, none, none, none, none, none, none, none, none, none, none, none, none, none]) ?_ ⟨e', rfl⟩ ?_ fun _ _ h => h) ?_
    · simp only [cA, aC, aN, cV, cC, c1, c2, cMs, cTup, cLst, cAnd, cOr, cIf, cT, cB, tNotB, tAndB, tOrB, tY, iA, iF, gN, gT, gsC, gsN, aS, pN, pS, cSl, cCh, gNot, walked, bo, br, bs, noR_ok, truB, truI, truS, truL, asBB, asI, gLenL, gLenT, gLenS, gLenN, gAddI, gSubI, gNegI, gLtI, gLeI, gGtI, gGeI, gLtS, gLeS, gGtS, gGeS, gAbsI, gIntI, gInC, gNotInC, gIsN, gIsNotN, gListL, gListT, gTupleL, gEqI, gNeI, gEqS, gNeS, List.getElem?_cons_succ, List.getElem?_cons_zero, List.set_cons_succ, List.set_cons_zero, List.map_cons, List.map_nil, List.cons_append, List.nil_append, wipeE, ↓reduceIte, Bool.not_true, Bool.not_false, Bool.false_eq_true]
    · rintro d3 t d4 e2 ρ own ⟨e', rfl⟩
      refine ⟨_, rfl, Go.c (go_set (d := .lst (((d3 ++ [t]).flatMap fun t => (List.range ws.length).map fun i => t ++ [i]).map dNs)) ?_ ⟨_, rfl⟩)⟩
      have ht : t ∈ fill ws.length d1.length := by rw [e2]; simp
      have htl := (fill_ok _ _ t ht).1
      have e3 : cLC [19] (iF range1 (aC (cA gLen (aC (cV 3) aN)) aN)) (gN 19) tY (c2 gAdd (cV 11) (cLst (aC (cV 19) aN))) [some (.scr ns), some (dIs ds), some (dCs cs), some (dSs ws), a, b, some (dS fr), x7, some (.lst ((fill ws.length d1.length).map dNs)), some (.str [x]), some (.lst ((d3.flatMap fun t => (List.range ws.length).map fun i => t ++ [i]).map dNs)), some (dNs t), none, none, none, none, none, none, none, none, none, none, none, none, none] = .ok (.lst ((List.range ws.length).map fun i => dNs (t ++ [i]))) := by
        refine cLC_map (List.range ws.length) (fun (k : Nat) => .int (k : Int)) _ ?_ fun i hi => ?_
        · simp only [cA, aC, aN, cV, cC, c1, c2, cMs, cTup, cLst, cAnd, cOr, cIf, cT, cB, tNotB, tAndB, tOrB, tY, iA, iF, gN, gT, gsC, gsN, aS, pN, pS, cSl, cCh, gNot, walked, bo, br, bs, noR_ok, truB, truI, truS, truL, asBB, asI, gLenL, gLenT, gLenS, gLenN, gAddI, gSubI, gNegI, gLtI, gLeI, gGtI, gGeI, gLtS, gLeS, gGtS, gGeS, gAbsI, gIntI, gInC, gNotInC, gIsN, gIsNotN, gListL, gListT, gTupleL, gEqI, gNeI, gEqS, gNeS, List.getElem?_cons_succ, List.getElem?_cons_zero, List.set_cons_succ, List.set_cons_zero, List.map_cons, List.map_nil, List.cons_append, List.nil_append, wipeE, ↓reduceIte, Bool.not_true, Bool.not_false, Bool.false_eq_true, List.length_map]
          exact range1_nat _ (by omega)
        · refine lcTurn_ok rfl rfl ?_
          have b1 : ([.int (i : Int)] : List D).length ≤ big := by show 1 ≤ 16777216; decide
          have g : gAdd (dNs t) (.lst [.int (i : Int)]) = .ok (.lst (t.map (fun (n : Nat) => D.int (n : Int)) ++ [.int (i : Int)])) := gAddLs (by simp only [List.length_map, List.length_cons, List.length_nil]; omega)
          simp only [cA, aC, aN, cV, cC, c1, c2, cMs, cTup, cLst, cAnd, cOr, cIf, cT, cB, tNotB, tAndB, tOrB, tY, iA, iF, gN, gT, gsC, gsN, aS, pN, pS, cSl, cCh, gNot, walked, bo, br, bs, noR_ok, truB, truI, truS, truL, asBB, asI, gLenL, gLenT, gLenS, gLenN, gAddI, gSubI, gNegI, gLtI, gLeI, gGtI, gGeI, gLtS, gLeS, gGtS, gGeS, gAbsI, gIntI, gInC, gNotInC, gIsN, gIsNotN, gListL, gListT, gTupleL, gEqI, gNeI, gEqS, gNeS, List.getElem?_cons_succ, List.getElem?_cons_zero, List.set_cons_succ, List.set_cons_zero, List.map_cons, List.map_nil, List.cons_append, List.nil_append, wipeE, ↓reduceIte, Bool.not_true, Bool.not_false, Bool.false_eq_true, b1, g]
          rw [dNs, List.map_append]
          rfl
      have lenF : ∀ l : List (List Nat), (l.flatMap fun t => (List.range ws.length).map fun i => t ++ [i]).length = l.length * ws.length := fun l => by
        induction l with
        | nil => simp
        | cons x l ih => rw [List.flatMap_cons, List.length_append, ih, List.length_map, List.length_range, List.length_cons, Nat.add_mul]; omega
      have l3 : (d3 ++ [t]).length ≤ ws.length ^ d1.length := by
        have := congrArg List.length e2
        rw [fill_len] at this
        simp only [List.length_append, List.length_cons, List.length_nil] at this ⊢
        omega
      have l4 : (d3 ++ [t]).length * ws.length ≤ 4096 := Nat.le_trans (Nat.mul_le_mul_right _ l3) (by rw [← Nat.pow_succ]; exact pow_le hw l0)
      have g : gAdd (.lst ((d3.flatMap fun t => (List.range ws.length).map fun i => t ++ [i]).map dNs)) (.lst ((List.range ws.length).map fun i => dNs (t ++ [i]))) = .ok (.lst (((d3 ++ [t]).flatMap fun t => (List.range ws.length).map fun i => t ++ [i]).map dNs)) := by
        rw [gAddLs]
        · rw [List.flatMap_append, List.map_append]
          simp [Function.comp_def]
        · rw [List.length_map, List.length_map, lenF, List.length_range]
          simp only [List.length_append, List.length_cons, List.length_nil, Nat.add_mul] at l4
          omega
      show c2 gAdd (cV 10) _ [some (.scr ns), some (dIs ds), some (dCs cs), some (dSs ws), a, b, some (dS fr), x7, some (.lst ((fill ws.length d1.length).map dNs)), some (.str [x]), some (.lst ((d3.flatMap fun t => (List.range ws.length).map fun i => t ++ [i]).map dNs)), some (dNs t), none, none, none, none, none, none, none, none, none, none, none, none, none] = _
      simp only [c2, e3]
      simp only [cA, aC, aN, cV, cC, c1, c2, cMs, cTup, cLst, cAnd, cOr, cIf, cT, cB, tNotB, tAndB, tOrB, tY, iA, iF, gN, gT, gsC, gsN, aS, pN, pS, cSl, cCh, gNot, walked, bo, br, bs, noR_ok, truB, truI, truS, truL, asBB, asI, gLenL, gLenT, gLenS, gLenN, gAddI, gSubI, gNegI, gLtI, gLeI, gGtI, gGeI, gLtS, gLeS, gGtS, gGeS, gAbsI, gIntI, gInC, gNotInC, gIsN, gIsNotN, gListL, gListT, gTupleL, gEqI, gNeI, gEqS, gNeS, List.getElem?_cons_succ, List.getElem?_cons_zero, List.set_cons_succ, List.set_cons_zero, List.map_cons, List.map_nil, List.cons_append, List.nil_append, wipeE, ↓reduceIte, Bool.not_true, Bool.not_false, Bool.false_eq_true, g]
    · rintro ρ own ⟨e', rfl⟩
      exact go_set (d := .lst ((fill ws.length (d1.length + 1)).map dNs)) rfl ⟨_, _, _, by rw [List.length_append]; rfl⟩
/-- a row -/
def row (ws : List (List Nat)) (fr cs t : List Nat) : D := .tup [.int (far ws fr cs t), dNs t]
theorem pairs_eq (t u : List Nat) (hl : u.length = t.length) : (List.range t.length).map (fun k => (t.getD k 0, u.getD k 0)) = t.zip u := by
  refine List.ext_getElem (by simp [hl]) fun k h1 h2 => ?_
  have hk : k < t.length := by simpa using h1
  simp [List.getD_eq_getElem?_getD, List.getElem?_eq_getElem hk, List.getElem?_eq_getElem (show k < u.length by omega)]
theorem cnts_len (ws : List (List Nat)) (fr cs t : List Nat) : (cnts ws fr cs t).length = cs.length := by simp [cnts]
theorem cut_all {l : List D} (h : l.length ≤ 400) : cut l none (some 400) = l := by
  have e1 : HT.sIx l.length 0 none = 0 := rfl
  have e2 : HT.sIx l.length l.length (some 400) = min 400 l.length := HT.sIx_nat l.length l.length 400
  unfold cut
  rw [e1, e2, List.drop_zero, Nat.sub_zero, List.take_of_length_le (by omega)]
theorem s8 {ws : List (List Nat)} {fr cs : List Nat} (h : Good59 ws fr cs) (ns ds : List Int) (a b x7 c d e : Option D) (own : List Nat) (hl : ws.length ^ cs.length ≤ 400) : Go (b_law_s8 [some (.scr ns), some (dIs ds), some (dCs cs), some (dSs ws), a, b, some (dS fr), x7, some (.lst ((fill ws.length cs.length).map dNs)), c, d, e, none, none, none, none, none, none, none, none, none, none, none, none, none] own)
    (fun ρ _ => ρ = [some (.scr ns), some (dIs ds), some (dCs cs), some (dSs ws), a, b, some (dS fr), x7, some (.lst ((fill ws.length cs.length).map dNs)), c, d, e, some (.lst ((fill ws.length cs.length).map (row ws fr cs))), none, none, none, none, none, none, none, none, none, none, none, none]) := by
  refine go_new (d := .lst ((fill ws.length cs.length).map (row ws fr cs))) ?_ (by simp) rfl
  refine cLC_map (fill ws.length cs.length) dNs _ ?_ fun t ht => ?_
  · simp only [cA, aC, aN, cV, cC, c1, c2, cMs, cTup, cLst, cAnd, cOr, cIf, cT, cB, tNotB, tAndB, tOrB, tY, iA, iF, gN, gT, gsC, gsN, aS, pN, pS, cSl, cCh, gNot, walked, bo, br, bs, noR_ok, truB, truI, truS, truL, asBB, asI, gLenL, gLenT, gLenS, gLenN, gAddI, gSubI, gNegI, gLtI, gLeI, gGtI, gGeI, gLtS, gLeS, gGtS, gGeS, gAbsI, gIntI, gInC, gNotInC, gIsN, gIsNotN, gListL, gListT, gTupleL, gEqI, gNeI, gEqS, gNeS, List.getElem?_cons_succ, List.getElem?_cons_zero, List.set_cons_succ, List.set_cons_zero, List.map_cons, List.map_nil, List.cons_append, List.nil_append, wipeE, ↓reduceIte, Bool.not_true, Bool.not_false, Bool.false_eq_true, gSl]
    rw [cut_all (by rw [List.length_map, fill_len]; exact hl)]
  · have hF := fill_Fill ht
    have e1 : cLC [20] (iF range1 (aC (cA gLen (aC (cV 11) aN)) aN)) (gN 20) tY (cTup (aC (c2 gIx (cV 11) (cV 20)) (aC (c2 gIx (cA fn__law_counts (aC (cV 3) (aC (cV 6) (aC (cV 2) (aC (cV 11) aN))))) (cV 20)) aN))) [some (.scr ns), some (dIs ds), some (dCs cs), some (dSs ws), a, b, some (dS fr), x7, some (.lst ((fill ws.length cs.length).map dNs)), c, d, some (dNs t), none, none, none, none, none, none, none, none, none, none, none, none, none] = .ok (.lst ((t.zip (cnts ws fr cs t)).map fun p => .tup [.int (p.1 : Int), .int (p.2 : Int)])) := by
      rw [← pairs_eq t (cnts ws fr cs t) (by rw [cnts_len, hF.1]), List.map_map]
      refine cLC_map (List.range t.length) (fun (k : Nat) => .int (k : Int)) _ ?_ fun k hk => ?_
      · simp only [cA, aC, aN, cV, cC, c1, c2, cMs, cTup, cLst, cAnd, cOr, cIf, cT, cB, tNotB, tAndB, tOrB, tY, iA, iF, gN, gT, gsC, gsN, aS, pN, pS, cSl, cCh, gNot, walked, bo, br, bs, noR_ok, truB, truI, truS, truL, asBB, asI, gLenL, gLenT, gLenS, gLenN, gAddI, gSubI, gNegI, gLtI, gLeI, gGtI, gGeI, gLtS, gLeS, gGtS, gGeS, gAbsI, gIntI, gInC, gNotInC, gIsN, gIsNotN, gListL, gListT, gTupleL, gEqI, gNeI, gEqS, gNeS, List.getElem?_cons_succ, List.getElem?_cons_zero, List.set_cons_succ, List.set_cons_zero, List.map_cons, List.map_nil, List.cons_append, List.nil_append, wipeE, ↓reduceIte, Bool.not_true, Bool.not_false, Bool.false_eq_true, List.length_map]
        exact range1_nat _ (by have := h.c2; have := hF.1; show _ ≤ 16777216; omega)
      · have hk := List.mem_range.mp hk
        have hk2 : k < (cnts ws fr cs t).length := by rw [cnts_len, ← hF.1]; exact hk
        have q1 : t[k]? = some (t.getD k 0) := by rw [List.getD_eq_getElem?_getD, List.getElem?_eq_getElem hk]; rfl
        have q2 : (cnts ws fr cs t)[k]? = some ((cnts ws fr cs t).getD k 0) := by rw [List.getD_eq_getElem?_getD, List.getElem?_eq_getElem hk2]; rfl
        have g1 : gIx (dNs t) (.int (k : Int)) = .ok (.int (t.getD k 0 : Int)) := ix_map (fun (n : Nat) => D.int (n : Int)) q1
        have g2 : gIx (dNs (cnts ws fr cs t)) (.int (k : Int)) = .ok (.int ((cnts ws fr cs t).getD k 0 : Int)) := ix_map (fun (n : Nat) => D.int (n : Int)) q2
        refine lcTurn_ok rfl rfl ?_
        simp only [cA, aC, aN, cV, cC, c1, c2, cMs, cTup, cLst, cAnd, cOr, cIf, cT, cB, tNotB, tAndB, tOrB, tY, iA, iF, gN, gT, gsC, gsN, aS, pN, pS, cSl, cCh, gNot, walked, bo, br, bs, noR_ok, truB, truI, truS, truL, asBB, asI, gLenL, gLenT, gLenS, gLenN, gAddI, gSubI, gNegI, gLtI, gLeI, gGtI, gGeI, gLtS, gLeS, gGtS, gGeS, gAbsI, gIntI, gInC, gNotInC, gIsN, gIsNotN, gListL, gListT, gTupleL, gEqI, gNeI, gEqS, gNeS, List.getElem?_cons_succ, List.getElem?_cons_zero, List.set_cons_succ, List.set_cons_zero, List.map_cons, List.map_nil, List.cons_append, List.nil_append, wipeE, ↓reduceIte, Bool.not_true, Bool.not_false, Bool.false_eq_true, g1, e__law_counts h hF, g2]
        exact if_pos (by show 2 ≤ 16777216; decide)
    have e2 : cLC [21, 22] (iA (cLC [20] (iF range1 (aC (cA gLen (aC (cV 11) aN)) aN)) (gN 20) tY (cTup (aC (c2 gIx (cV 11) (cV 20)) (aC (c2 gIx (cA fn__law_counts (aC (cV 3) (aC (cV 6) (aC (cV 2) (aC (cV 11) aN))))) (cV 20)) aN))))) (gT 2 (gsC (gN 21) (gsC (gN 22) gsN))) tY (cA gAbs (aC (c2 gSub (cV 21) (cV 22)) aN)) [some (.scr ns), some (dIs ds), some (dCs cs), some (dSs ws), a, b, some (dS fr), x7, some (.lst ((fill ws.length cs.length).map dNs)), c, d, some (dNs t), none, none, none, none, none, none, none, none, none, none, none, none, none] = .ok (.lst ((t.zip (cnts ws fr cs t)).map fun p => .int (dist p.1 p.2))) := by
      refine cLC_map (t.zip (cnts ws fr cs t)) (fun p => .tup [.int (p.1 : Int), .int (p.2 : Int)]) _ ?_ fun p hp => ?_
      · simp only [iA, e1, bo, walked]
      · refine lcTurn_ok (by simp only [cA, aC, aN, cV, cC, c1, c2, cMs, cTup, cLst, cAnd, cOr, cIf, cT, cB, tNotB, tAndB, tOrB, tY, iA, iF, gN, gT, gsC, gsN, aS, pN, pS, cSl, cCh, gNot, walked, bo, br, bs, noR_ok, truB, truI, truS, truL, asBB, asI, gLenL, gLenT, gLenS, gLenN, gAddI, gSubI, gNegI, gLtI, gLeI, gGtI, gGeI, gLtS, gLeS, gGtS, gGeS, gAbsI, gIntI, gInC, gNotInC, gIsN, gIsNotN, gListL, gListT, gTupleL, gEqI, gNeI, gEqS, gNeS, List.getElem?_cons_succ, List.getElem?_cons_zero, List.set_cons_succ, List.set_cons_zero, List.map_cons, List.map_nil, List.cons_append, List.nil_append, wipeE, ↓reduceIte, Bool.not_true, Bool.not_false, Bool.false_eq_true, List.length_cons, List.length_nil]; rfl) rfl ?_
        simp only [cA, aC, aN, cV, cC, c1, c2, cMs, cTup, cLst, cAnd, cOr, cIf, cT, cB, tNotB, tAndB, tOrB, tY, iA, iF, gN, gT, gsC, gsN, aS, pN, pS, cSl, cCh, gNot, walked, bo, br, bs, noR_ok, truB, truI, truS, truL, asBB, asI, gLenL, gLenT, gLenS, gLenN, gAddI, gSubI, gNegI, gLtI, gLeI, gGtI, gGeI, gLtS, gLeS, gGtS, gGeS, gAbsI, gIntI, gInC, gNotInC, gIsN, gIsNotN, gListL, gListT, gTupleL, gEqI, gNeI, gEqS, gNeS, List.getElem?_cons_succ, List.getElem?_cons_zero, List.set_cons_succ, List.set_cons_zero, List.map_cons, List.map_nil, List.cons_append, List.nil_append, wipeE, ↓reduceIte, Bool.not_true, Bool.not_false, Bool.false_eq_true]
        rfl
    refine lcTurn_ok rfl rfl ?_
    show cTup (aC (cA gSum (aC (cLC [21, 22] _ _ tY _) aN)) (aC (cV 11) aN)) [some (.scr ns), some (dIs ds), some (dCs cs), some (dSs ws), a, b, some (dS fr), x7, some (.lst ((fill ws.length cs.length).map dNs)), c, d, some (dNs t), none, none, none, none, none, none, none, none, none, none, none, none, none] = _
    simp only [cTup, cA, aC, aN, e2]
    simp only [cA, aC, aN, cV, cC, c1, c2, cMs, cTup, cLst, cAnd, cOr, cIf, cT, cB, tNotB, tAndB, tOrB, tY, iA, iF, gN, gT, gsC, gsN, aS, pN, pS, cSl, cCh, gNot, walked, bo, br, bs, noR_ok, truB, truI, truS, truL, asBB, asI, gLenL, gLenT, gLenS, gLenN, gAddI, gSubI, gNegI, gLtI, gLeI, gGtI, gGeI, gLtS, gLeS, gGtS, gGeS, gAbsI, gIntI, gInC, gNotInC, gIsN, gIsNotN, gListL, gListT, gTupleL, gEqI, gNeI, gEqS, gNeS, List.getElem?_cons_succ, List.getElem?_cons_zero, List.set_cons_succ, List.set_cons_zero, List.map_cons, List.map_nil, List.cons_append, List.nil_append, wipeE, ↓reduceIte, Bool.not_true, Bool.not_false, Bool.false_eq_true, gSum_ints]
    exact if_pos (by show 2 ≤ 16777216; decide)
end K59

namespace K59
open PySem PySem.Spec Ev
/-! ### fillings in order -/
abbrev cst (l : List Nat) : List Int := l.map fun (n : Nat) => (n : Int)
theorem lex_app : ∀ (a b x y : List Int), a.length = b.length → a < b → a ++ x < b ++ y
  | [], [], x, y, _, h => by cases h
  | [], _ :: _, x, y, hl, h => by simp at hl
  | _ :: _, [], x, y, hl, h => by simp at hl
  | a :: as, b :: bs, x, y, hl, h => by
    cases h with
    | rel h => exact .rel h
    | cons h => exact .cons (lex_app as bs x y (by simpa using hl) h)
theorem lex_pre : ∀ (a x y : List Int), x < y → a ++ x < a ++ y
  | [], x, y, h => h
  | a :: as, x, y, h => .cons (lex_pre as x y h)
theorem fill_pair (n : Nat) : ∀ k, (fill n k).Pairwise fun a b => cst a < cst b
  | 0 => List.pairwise_singleton _ _
  | k + 1 => by
    rw [fill, List.pairwise_flatMap]
    refine ⟨fun t ht => ?_, ?_⟩
    · rw [List.pairwise_map]
      refine List.Pairwise.imp (fun {i j} h => ?_) List.pairwise_lt_range
      rw [cst, cst, List.map_append, List.map_append]
      exact lex_pre _ _ _ (.rel (Int.ofNat_lt.mpr h))
    · have key : ∀ l : List (List Nat), (∀ t ∈ l, t.length = k) → l.Pairwise (fun a b => cst a < cst b) → l.Pairwise fun a b => ∀ x ∈ (List.range n).map (fun i => a ++ [i]), ∀ y ∈ (List.range n).map (fun i => b ++ [i]), cst x < cst y := fun l hl hp => by
        refine List.Pairwise.imp_of_mem (fun {a b} ha hb h => ?_) hp
        intro x hx y hy
        obtain ⟨i, _, rfl⟩ := List.mem_map.mp hx
        obtain ⟨j, _, rfl⟩ := List.mem_map.mp hy
        rw [cst, cst, List.map_append, List.map_append]
        exact lex_app _ _ _ _ (by simp [hl a ha, hl b hb]) h
      exact key _ (fun t ht => (fill_ok n k t ht).1) (fill_pair n k)
theorem alike_ints : ∀ (a b : List Int), PySem.W.alikeAll (toPyAll (a.map D.int)) (toPyAll (b.map D.int)) = true
  | [], _ => by simp [toPyAll, PySem.W.alikeAll]
  | _ :: _, [] => by simp [toPyAll, PySem.W.alikeAll]
  | x :: a, y :: b => by simp [toPyAll, toPy, PySem.W.alikeAll, PySem.W.alike, alike_ints a b]
theorem toPy_ints (a : List Int) : toPyAll (a.map D.int) = a.map PyData.int := by
  rw [toPyAll_map, List.map_map]
  rfl
theorem row_cst (ws : List (List Nat)) (fr cs t : List Nat) : row ws fr cs t = .tup [.int (far ws fr cs t), dIs (cst t)] := by
  rw [row, dIs_nat]
theorem ltD_row (ws : List (List Nat)) (fr cs t u : List Nat) : ltD (row ws fr cs t) (row ws fr cs u) = decide (far ws fr cs t < far ws fr cs u ∨ (far ws fr cs t = far ws fr cs u ∧ cst t < cst u)) := by
  rw [row_cst, row_cst, ltD]
  simp only [toPy, toPyAll, toPy_ints]
  rw [PySem.W.dataLt_pair (by simp [PySem.W.alike]) (by
    have al := alike_ints (cst t) (cst u)
    rw [toPy_ints, toPy_ints] at al
    simp only [PySem.W.alike]
    exact al), PySem.W.dataLt_int]
  have e : PySem.W.dataLt (.list ((cst t).map .int)) (.list ((cst u).map .int)) = decide (cst t < cst u) := PySem.W.dataLt_ints _ _
  rw [e]
  have e2 : ∀ a b : List Int, PyData.eqv (.list (a.map .int)) (.list (b.map .int)) = decide (a = b) := fun a b => by
    have h1 := eqv_py (dIs a) (dIs b) (by simpa [flat] using flat_ints (fun x => x) a) (by simpa [flat] using flat_ints (fun x => x) b)
    rw [show eqv (dIs a) (dIs b) = eqvAll (a.map D.int) (b.map D.int) from by simp [eqv], eqv_ints] at h1
    simpa [toPy, toPy_ints] using h1
  rw [e2]
  simp only [PyData.eqv]
  by_cases h1 : far ws fr cs t = far ws fr cs u
  · by_cases h2 : cst t = cst u
    · simp [h1, h2, List.lt_irrefl]
    · simp [h1, h2]
  · simp [h1]
theorem min_near (ws : List (List Nat)) (fr cs : List Nat) : ∀ (l : List (List Nat)) (t : List Nat), (∀ u ∈ l, cst t < cst u) → l.Pairwise (fun a b => cst a < cst b) → minE (row ws fr cs t) (l.map (row ws fr cs)) = bestD (l.foldl (fun b t => upd1 b (far ws fr cs t, t)) (some (far ws fr cs t, t)))
  | [], t, _, _ => rfl
  | u :: l, t, h, hp => by
    have hlt := h u (by simp)
    have hn : ¬ cst u < cst t := fun z => List.lt_irrefl _ (List.lt_trans hlt z)
    have e : ltD (row ws fr cs u) (row ws fr cs t) = decide (far ws fr cs u < far ws fr cs t) := by
      rw [ltD_row]
      simp [hn]
    rw [List.pairwise_cons] at hp
    unfold minE
    rw [List.map_cons, List.foldl_cons, List.foldl_cons, e]
    by_cases hf : far ws fr cs u < far ws fr cs t
    · rw [decide_eq_true hf, if_pos rfl, show upd1 (some (far ws fr cs t, t)) (far ws fr cs u, u) = some (far ws fr cs u, u) from if_pos hf]
      exact min_near ws fr cs l u hp.1 hp.2
    · rw [decide_eq_false hf, if_neg Bool.false_ne_true, show upd1 (some (far ws fr cs t, t)) (far ws fr cs u, u) = some (far ws fr cs t, t) from if_neg hf]
      exact min_near ws fr cs l t (fun v hv => h v (List.mem_cons_of_mem _ hv)) hp.2
theorem rows_alike (ws : List (List Nat)) (fr cs : List Nat) (l : List (List Nat)) : alikeC (l.map (row ws fr cs)) := by
  refine ⟨flat_map _ _ fun t _ => ?_, Nat.le_trans (dep_map _ 2 _ fun t _ => ?_) (by decide), fun x hx y hy => ?_, fun x hx => ?_⟩
  · simp only [row, flat, flatAll, flat_ints, Bool.and_self]
  · have := dep_map (fun (n : Nat) => D.int (n : Int)) 0 t fun _ _ => Nat.le_refl _
    simp only [row, dep, depAll]
    omega
  · obtain ⟨t, _, rfl⟩ := List.mem_map.mp hx
    obtain ⟨u, _, rfl⟩ := List.mem_map.mp hy
    rw [row_cst, row_cst]
    simp only [toPy, toPyAll, PySem.W.alike, PySem.W.alikeAll, alike_ints, Bool.and_self, Bool.and_true]
  · obtain ⟨t, _, rfl⟩ := List.mem_map.mp hx
    rfl
theorem e_min {ws : List (List Nat)} {fr cs : List Nat} (hn : 1 ≤ ws.length) : gMin [.lst ((fill ws.length cs.length).map (row ws fr cs))] = .ok (bestD (near ws fr cs)) ∧ ∃ q, near ws fr cs = some q ∧ q.2 ∈ fill ws.length cs.length ∧ q.1 = far ws fr cs q.2 := by
  have hp := fill_pair ws.length cs.length
  have hl := fill_len ws.length cs.length
  have hal := rows_alike ws fr cs (fill ws.length cs.length)
  unfold near
  have some_of : ∀ (l : List (List Nat)) (q : Int × List Nat), ∃ q', l.foldl (fun b t => upd1 b (far ws fr cs t, t)) (some q) = some q' ∧ (q' = q ∨ (q'.2 ∈ l ∧ q'.1 = far ws fr cs q'.2)) := fun l => by
    induction l with
    | nil => exact fun q => ⟨q, rfl, .inl rfl⟩
    | cons t l ih =>
      intro q
      rw [List.foldl_cons]
      by_cases hq : far ws fr cs t < q.1
      · rw [show upd1 (some q) (far ws fr cs t, t) = some (far ws fr cs t, t) from if_pos hq]
        obtain ⟨q', e, h⟩ := ih (far ws fr cs t, t)
        refine ⟨q', e, .inr ?_⟩
        rcases h with h | h
        · rw [h]; exact ⟨by simp, rfl⟩
        · exact ⟨List.mem_cons_of_mem _ h.1, h.2⟩
      · rw [show upd1 (some q) (far ws fr cs t, t) = some q from if_neg hq]
        obtain ⟨q', e, h⟩ := ih q
        exact ⟨q', e, h.elim .inl fun h => .inr ⟨List.mem_cons_of_mem _ h.1, h.2⟩⟩
  cases hf : fill ws.length cs.length with
  | nil =>
    rw [hf] at hl
    have : 0 < ws.length ^ cs.length := Nat.pow_pos (by omega)
    simp only [List.length_nil] at hl
    omega
  | cons t l =>
    rw [hf] at hp hal
    rw [List.pairwise_cons] at hp
    refine ⟨?_, ?_⟩
    · rw [List.map_cons] at hal ⊢
      rw [gMin_lst hal, min_near ws fr cs l t hp.1 hp.2]
      rfl
    · rw [List.foldl_cons]
      obtain ⟨q', e, h⟩ := some_of l (far ws fr cs t, t)
      refine ⟨q', e, ?_⟩
      rcases h with h | h
      · rw [h]; exact ⟨by simp, rfl⟩
      · exact ⟨List.mem_cons_of_mem _ h.1, h.2⟩
/-! ### far = 0 -/
theorem dist_nn (a b : Nat) : 0 ≤ dist a b := by
  unfold dist
  split <;> omega
theorem dist_zero (a b : Nat) : dist a b = 0 ↔ a = b := by
  unfold dist
  split <;> omega
theorem far_zero (ws : List (List Nat)) (fr cs t : List Nat) (ht : t.length = cs.length) : decide (far ws fr cs t = 0) = decide (cnts ws fr cs t = t) := by
  have key : ∀ (t u : List Nat), t.length = u.length → 0 ≤ ((t.zip u).map fun p => dist p.1 p.2).sum ∧ (((t.zip u).map fun p => dist p.1 p.2).sum = 0 ↔ u = t) := by
    intro t
    induction t with
    | nil =>
      intro u hu
      have : u = [] := List.eq_nil_of_length_eq_zero (by simpa using hu.symm)
      subst this
      simp
    | cons x t ih =>
      intro u hu
      cases u with
      | nil => simp at hu
      | cons y u =>
        obtain ⟨h1, h2⟩ := ih u (by simpa using hu)
        have d1 := dist_nn x y
        have d2 := dist_zero x y
        simp only [List.zip_cons_cons, List.map_cons, List.sum_cons, List.cons.injEq]
        refine ⟨by omega, ?_⟩
        constructor
        · intro h
          have e1 : dist x y = 0 := by omega
          exact ⟨(d2.mp e1).symm, h2.mp (by omega)⟩
        · rintro ⟨e1, e2⟩
          have := d2.mpr e1.symm
          have := h2.mpr e2
          omega
  rw [Bool.eq_iff_iff]
  simp only [decide_eq_true_eq]
  exact (key t (cnts ws fr cs t) (by rw [cnts_len, ht])).2
end K59

namespace K59
open PySem PySem.Spec Ev
/-! ### repr -/
theorem smallAll_map {α : Type} (f : α → D) (l : List α) (h : ∀ x ∈ l, small (f x) = true) : smallAll (l.map f) = true := by
  induction l with
  | nil => rfl
  | cons x l ih => simpa [smallAll, h x (by simp)] using ih fun y hy => h y (List.mem_cons_of_mem _ hy)
theorem wgtAll_map {α : Type} (f : α → D) (n : Nat) (l : List α) (h : ∀ x ∈ l, wgt (f x) ≤ n) : wgtAll (l.map f) ≤ l.length * (n + 1) := by
  induction l with
  | nil => exact Nat.zero_le _
  | cons x l ih =>
    have h1 := h x (by simp)
    have h2 := ih fun y hy => h y (List.mem_cons_of_mem _ hy)
    simp only [List.map_cons, wgtAll, List.length_cons, Nat.add_mul]
    omega
theorem gRepr_ok {d : D} (h1 : flat d = true) (h2 : small d = true) (h3 : dep d ≤ 60) (h4 : wgt d ≤ 1048576) : gRepr [d] = .ok (.rep d) := if_pos ⟨h1, h2, h3, h4⟩
theorem repr_str (s : List Nat) (h : s.length ≤ 1048576) : gRepr [.str s] = .ok (.rep (.str s)) := gRepr_ok rfl rfl (by simp [dep]) (by simpa [wgt] using h)
theorem repr_bl (b : Bool) : gRepr [.bl b] = .ok (.rep (.bl b)) := gRepr_ok rfl rfl (by simp [dep]) (by simp [wgt])
theorem nats_small {t : List Nat} {n : Nat} (hn : n ≤ 1000) (h : ∀ x ∈ t, x < n) : small (dNs t) = true := by
  simp only [small]
  exact smallAll_map _ _ fun x hx => by
    have := h x hx
    simp only [small, decide_eq_true_eq]
    omega
theorem nats_flat (t : List Nat) : flat (dNs t) = true := by simpa [flat] using flat_ints (fun (n : Nat) => (n : Int)) t
theorem nats_wgt (t : List Nat) : wgt (dNs t) ≤ t.length * 42 := by
  simp only [wgt]
  exact wgtAll_map _ 41 t fun x _ => by simp [wgt]
theorem nats_dep (t : List Nat) : dep (dNs t) ≤ 1 := by
  have := dep_map (fun (n : Nat) => D.int (n : Int)) 0 t fun _ _ => Nat.le_refl _
  simp only [dep]
  omega
theorem repr_kept {ws : List (List Nat)} {fr cs : List Nat} (h : Good59 ws fr cs) : gRepr [.tup [dSs ws, dCs cs]] = .ok (.rep (.tup [dSs ws, dCs cs])) := by
  have w1 := wgtAll_map D.str 8 ws fun w hw => by have := (h.ww w hw).2.1; simpa [wgt] using this
  have w2 := wgtAll_map (fun c => D.str [c]) 1 cs fun c _ => by simp [wgt]
  have d1 := dep_map D.str 0 ws fun _ _ => Nat.le_refl _
  have d2 := dep_map (fun c => D.str [c]) 0 cs fun _ _ => Nat.le_refl _
  have b1 := h.w2
  have b2 := h.c2
  refine gRepr_ok ?_ ?_ ?_ ?_
  · simp [flat, flatAll, flat_strs (fun x => x) ws, flat_strs (fun x => [x]) cs]
  · simp only [small, smallAll, Bool.and_true, Bool.and_eq_true]
    exact ⟨smallAll_map _ _ fun _ _ => rfl, smallAll_map _ _ fun _ _ => rfl⟩
  · simp only [dep, depAll]
    omega
  · simp only [wgt, wgtAll]
    omega
theorem repr_fills {l : List (List Nat)} {n k : Nat} (hn : n ≤ 1000) (hk : k ≤ 3) (hl : l.length ≤ 4096) (h : ∀ t ∈ l, t.length = k ∧ ∀ x ∈ t, x < n) : gRepr [.lst (l.map dNs)] = .ok (.rep (.lst (l.map dNs))) := by
  have w1 := wgtAll_map dNs 126 l fun t ht => by
    have := nats_wgt t
    have := (h t ht).1
    omega
  have d1 := dep_map dNs 1 l fun t _ => nats_dep t
  refine gRepr_ok ?_ ?_ ?_ ?_
  · simp only [flat]
    exact flat_map _ _ fun t _ => nats_flat t
  · simp only [small]
    exact smallAll_map _ _ fun t ht => nats_small hn (h t ht).2
  · simp only [dep]
    omega
  · simp only [wgt]
    omega
theorem sum_bound (l : List (Nat × Nat)) (B : Nat) (h : ∀ p ∈ l, p.1 + p.2 ≤ B) : 0 ≤ (l.map fun p => dist p.1 p.2).sum ∧ (l.map fun p => dist p.1 p.2).sum ≤ (l.length * B : Nat) := by
  induction l with
  | nil => simp
  | cons p l ih =>
    obtain ⟨h1, h2⟩ := ih fun q hq => h q (List.mem_cons_of_mem _ hq)
    have hp := h p (by simp)
    have d1 := dist_nn p.1 p.2
    have d2 : dist p.1 p.2 ≤ (B : Nat) := by
      unfold dist
      split <;> omega
    simp only [List.map_cons, List.sum_cons, List.length_cons, Nat.add_mul]
    omega
theorem cntN_le (c : Nat) (s : List Nat) : cntN c s ≤ s.length := List.length_filter_le _ _
theorem far_small {ws : List (List Nat)} {fr cs t : List Nat} (h : Good59 ws fr cs) (ht : Fill ws cs t) : 0 ≤ far ws fr cs t ∧ far ws fr cs t ≤ 1000 := by
  have hl := txt_len h (t.zip cs) fr fun p hp => ht.2 p.1 (List.of_mem_zip (a := p.1) (b := p.2) hp).1
  have hz : (t.zip cs).length ≤ 3 := by have := h.c2; rw [List.length_zip]; omega
  have hz2 : (t.zip (cnts ws fr cs t)).length ≤ 3 := by have := h.c2; have := ht.1; rw [List.length_zip]; omega
  have b1 := h.f1
  have b2 := h.w2
  obtain ⟨h1, h2⟩ := sum_bound (t.zip (cnts ws fr cs t)) 120 fun p hp => by
    obtain ⟨m1, m2⟩ := List.of_mem_zip (a := p.1) (b := p.2) hp
    have q1 := ht.2 _ m1
    obtain ⟨c, _, e⟩ := List.mem_map.mp m2
    have := cntN_le c (txt ws fr (t.zip cs))
    omega
  refine ⟨h1, Int.le_trans h2 ?_⟩
  have : (t.zip (cnts ws fr cs t)).length * 120 ≤ 3 * 120 := Nat.mul_le_mul_right _ hz2
  omega
theorem best_flat (q : Int × List Nat) : flat (bestD (some q)) = true := by
  simp only [bestD, flat, flatAll, Bool.and_true, Bool.true_and]
  exact nats_flat q.2
theorem best_dep (q : Int × List Nat) : dep (bestD (some q)) ≤ 2 := by
  have := nats_dep q.2
  simp only [bestD, dep, depAll] at *
  omega
theorem repr_best {ws : List (List Nat)} {fr cs : List Nat} (h : Good59 ws fr cs) {q : Int × List Nat} (hq : q.2 ∈ fill ws.length cs.length) (hf : q.1 = far ws fr cs q.2) : gRepr [bestD (some q)] = .ok (.rep (bestD (some q))) := by
  have hF := fill_Fill hq
  obtain ⟨f1, f2⟩ := far_small h hF
  have w := nats_wgt q.2
  have hl := hF.1
  have hc := h.c2
  have hw := h.w2
  refine gRepr_ok (best_flat q) ?_ (Nat.le_trans (best_dep q) (by decide)) ?_
  · simp only [bestD, smallAll, Bool.and_true, Bool.and_eq_true, small, decide_eq_true_eq]
    refine ⟨by rw [hf]; omega, ?_⟩
    have := nats_small (t := q.2) (n := ws.length) (by omega) hF.2
    simpa only [small] using this
  · simp only [bestD, wgt, wgtAll] at w ⊢
    omega
/-! ### new lists -/
theorem clash_fills {l : List (List Nat)} {ws : List (List Nat)} (hw : ws ≠ []) : clash (.lst (l.map dNs)) (dSs ws) = true := by
  cases ws with
  | nil => exact absurd rfl hw
  | cons w ws =>
    cases l with
    | nil => rfl
    | cons t l => rfl
theorem clash_fillsC {l : List (List Nat)} {cs : List Nat} (hw : cs ≠ []) : clash (.lst (l.map dNs)) (dCs cs) = true := by
  cases cs with
  | nil => exact absurd rfl hw
  | cons w ws =>
    cases l with
    | nil => rfl
    | cons t l => rfl
theorem clash_nats {t : List Nat} {ws : List (List Nat)} (hw : ws ≠ []) : clash (dNs t) (dSs ws) = true := by
  cases ws with
  | nil => exact absurd rfl hw
  | cons w ws =>
    cases t with
    | nil => rfl
    | cons t l => rfl
theorem clash_natsC {t : List Nat} {ws : List Nat} (hw : ws ≠ []) : clash (dNs t) (dCs ws) = true := by
  cases ws with
  | nil => exact absurd rfl hw
  | cons w ws =>
    cases t with
    | nil => rfl
    | cons t l => rfl
theorem nodes_strs {α : Type} (f : α → List Nat) (l : List α) : nodesAll (l.map fun x => .str (f x)) = [] := by
  induction l with
  | nil => rfl
  | cons x l ih => simpa [nodesAll, nodes] using ih
theorem nodes_ints {α : Type} (f : α → Int) (l : List α) : nodesAll (l.map fun x => .int (f x)) = [] := by
  induction l with
  | nil => rfl
  | cons x l ih => simpa [nodesAll, nodes] using ih
theorem nodes_dSs (ws : List (List Nat)) : nodes (dSs ws) = [dSs ws] := by
  have := nodes_strs (fun x => x) ws
  simp only [nodes]
  rw [show nodesAll (ws.map D.str) = [] from this]
theorem nodes_dCs (cs : List Nat) : nodes (dCs cs) = [dCs cs] := by
  have := nodes_strs (fun x => [x]) cs
  simp only [nodes]
  rw [this]
theorem fresh1_fills {l : List (List Nat)} (h : ∀ t ∈ l, t ≠ []) : fresh1 (.lst (l.map dNs)) = true := by
  have e : ∀ l : List (List Nat), nodesAll (l.map dNs) = l.map dNs := fun l => by
    induction l with
    | nil => rfl
    | cons t l ih =>
      have := nodes_ints (fun (n : Nat) => (n : Int)) t
      simp only [List.map_cons, nodesAll, nodes, ih, this]
      rfl
  simp only [fresh1, e, List.all_map, List.all_eq_true, Function.comp_apply]
  intro t ht
  cases l with
  | nil => cases ht
  | cons t0 l =>
    cases t with
    | nil => exact absurd rfl (h [] ht)
    | cons x t => rfl
end K59

namespace K59
open PySem PySem.Spec Ev
theorem goods_mem {ws : List (List Nat)} {fr cs t : List Nat} (h : t ∈ goods ws fr cs) : Fill ws cs t ∧ cnts ws fr cs t = t := by
  have := List.mem_filter.mp h
  exact ⟨fill_Fill this.1, by simpa using this.2⟩
theorem goods_len (ws : List (List Nat)) (fr cs : List Nat) : (goods ws fr cs).length ≤ ws.length ^ cs.length := by
  rw [← fill_len]
  exact List.length_filter_le _ _
theorem cntN_app (c : Nat) (a b : List Nat) : cntN c (a ++ b) = cntN c a + cntN c b := by
  unfold cntN
  rw [List.filter_append, List.length_append]
theorem cntN_pos {c : Nat} {s : List Nat} (h : c ∈ s) : 1 ≤ cntN c s := by
  unfold cntN
  exact List.length_pos_of_mem (List.mem_filter.mpr ⟨h, by simp⟩)
theorem more {ws : List (List Nat)} {fr : List Nat} {l : List (Nat × Nat)} {p : Nat × Nat} (h : p ∈ l) : cntN p.2 fr + 1 ≤ cntN p.2 (txt ws fr l) := by
  rw [txt_flat, cntN_app]
  have : 1 ≤ cntN p.2 (l.flatMap fun p => 32 :: (wd ws p.1 ++ [32] ++ [p.2])) := cntN_pos (List.mem_flatMap.mpr ⟨p, h, by simp⟩)
  omega
theorem cnts_z {ws : List (List Nat)} {fr cs t : List Nat} (h : 122 ∉ cs) : cnts ws (fr ++ [122]) cs t = cnts ws fr cs t := by
  refine List.map_congr_left fun c hc => ?_
  have hne : c ≠ 122 := fun z => h (z ▸ hc)
  rw [txt_flat, txt_flat, cntN_app, cntN_app, cntN_app]
  have : cntN c [122] = 0 := by
    simp [cntN, Ne.symm hne]
  omega
theorem goods_z {ws : List (List Nat)} {fr cs : List Nat} (h : 122 ∉ cs) : goods ws (fr ++ [122]) cs = goods ws fr cs := by
  unfold goods
  simp only [cnts_z h]
theorem s13 {ws : List (List Nat)} {fr cs : List Nat} (G : Good59 ws fr cs) (x0 x1 x3 x4 x5 x7 x8 x9 x10 x11 x12 x13 x15 : Option D) (own : List Nat) (ho : 15 ∈ own) : Go (b_law_s13 [x0, x1, some (dCs cs), x3, x4, x5, some (dS fr), x7, x8, x9, x10, x11, x12, x13, some (.lst ((goods ws fr cs).map dNs)), x15, none, none, none, none, none, none, none, none, none] own)
    (fun ρ own => 15 ∈ own ∧ ∃ e, ρ = [x0, x1, some (dCs cs), x3, x4, x5, some (dS fr), x7, x8, x9, x10, e, x12, x13, some (.lst ((goods ws fr cs).map dNs)), x15, none, none, none, none, none, none, none, none, none]) := by
  refine go_for (goods ws fr cs) dNs (fun done ρ own => 15 ∈ own ∧ ∃ e, ρ = [x0, x1, some (dCs cs), x3, x4, x5, some (dS fr), x7, x8, x9, x10, e, x12, x13, some (.lst ((goods ws fr cs).map dNs)), x15, none, none, none, none, none, none, none, none, none]) ?_ ⟨in_sansO ho (by decide), x11, rfl⟩ ?_ fun _ _ h => h
  · simp only [cA, aC, aN, cV, cC, c1, c2, cMs, cTup, cLst, cAnd, cOr, cIf, cT, cB, tNotB, tAndB, tOrB, tY, iA, iF, gN, gT, gsC, gsN, aS, pN, pS, cSl, cCh, gNot, walked, bo, br, bs, noR_ok, truB, truI, truS, truL, asBB, asI, gLenL, gLenT, gLenS, gLenN, gAddI, gSubI, gNegI, gLtI, gLeI, gGtI, gGeI, gLtS, gLeS, gGtS, gGeS, gAbsI, gIntI, gInC, gNotInC, gIsN, gIsNotN, gListL, gListT, gTupleL, gEqI, gNeI, gEqS, gNeS, List.getElem?_cons_succ, List.getElem?_cons_zero, List.set_cons_succ, List.set_cons_zero, List.map_cons, List.map_nil, List.cons_append, List.nil_append, wipeE, ↓reduceIte, Bool.not_true, Bool.not_false, Bool.false_eq_true]
  · rintro d1 t d2 e ρ own ⟨ho, e', rfl⟩
    have ht : t ∈ goods ws fr cs := by rw [e]; simp
    obtain ⟨hF, hc⟩ := goods_mem ht
    refine ⟨_, rfl, Go.c (go_ifF ?_ ⟨in_sansO ho (by decide), _, rfl⟩)⟩
    have e1 : cLC [20] (iF range1 (aC (cA gLen (aC (cV 2) aN)) aN)) (gN 20) (cB (c2 gLe (c2 gIx (cV 11) (cV 20)) (cA gLen (aC (cLC [24] (iA (cV 6)) (gN 24) (cB (c2 gEq (cV 24) (c2 gIx (cV 2) (cV 20)))) (cV 24)) aN)))) (cV 20) [x0, x1, some (dCs cs), x3, x4, x5, some (dS fr), x7, x8, x9, x10, some (dNs t), x12, x13, some (.lst ((goods ws fr cs).map dNs)), x15, none, none, none, none, none, none, none, none, none] = .ok (.lst (((List.range cs.length).filter fun _ => false).map fun (k : Nat) => .int (k : Int))) := by
      refine cLC_filter (List.range cs.length) (fun (k : Nat) => .int (k : Int)) _ (fun _ => false) ?_ fun k hk => ?_
      · simp only [cA, aC, aN, cV, cC, c1, c2, cMs, cTup, cLst, cAnd, cOr, cIf, cT, cB, tNotB, tAndB, tOrB, tY, iA, iF, gN, gT, gsC, gsN, aS, pN, pS, cSl, cCh, gNot, walked, bo, br, bs, noR_ok, truB, truI, truS, truL, asBB, asI, gLenL, gLenT, gLenS, gLenN, gAddI, gSubI, gNegI, gLtI, gLeI, gGtI, gGeI, gLtS, gLeS, gGtS, gGeS, gAbsI, gIntI, gInC, gNotInC, gIsN, gIsNotN, gListL, gListT, gTupleL, gEqI, gNeI, gEqS, gNeS, List.getElem?_cons_succ, List.getElem?_cons_zero, List.set_cons_succ, List.set_cons_zero, List.map_cons, List.map_nil, List.cons_append, List.nil_append, wipeE, ↓reduceIte, Bool.not_true, Bool.not_false, Bool.false_eq_true, List.length_map]
        exact range1_nat _ (by have := G.c2; show _ ≤ 16777216; omega)
      · have hk := List.mem_range.mp hk
        have hkt : k < t.length := by rw [hF.1]; exact hk
        have q1 : t[k]? = some t[k] := List.getElem?_eq_getElem hkt
        have q2 : cs[k]? = some cs[k] := List.getElem?_eq_getElem hk
        have g1 : gIx (dNs t) (.int (k : Int)) = .ok (.int (t[k] : Int)) := ix_map (fun (n : Nat) => D.int (n : Int)) q1
        have g2 : gIx (dCs cs) (.int (k : Int)) = .ok (.str [cs[k]]) := ix_map (fun c => D.str [c]) q2
        have e2 : cLC [24] (iA (cV 6)) (gN 24) (cB (c2 gEq (cV 24) (c2 gIx (cV 2) (cV 20)))) (cV 24) [x0, x1, some (dCs cs), x3, x4, x5, some (dS fr), x7, x8, x9, x10, some (dNs t), x12, x13, some (.lst ((goods ws fr cs).map dNs)), x15, none, none, none, none, some (.int (k : Int)), none, none, none, none] = .ok (.lst ((fr.filter fun x => decide (x = cs[k])).map fun x => .str [x])) := by
          refine cLC_filter fr (fun x => .str [x]) _ (fun x => decide (x = cs[k])) rfl fun x hx => ?_
          refine lcTurn_if rfl ?_ rfl
          simp only [cA, aC, aN, cV, cC, c1, c2, cMs, cTup, cLst, cAnd, cOr, cIf, cT, cB, tNotB, tAndB, tOrB, tY, iA, iF, gN, gT, gsC, gsN, aS, pN, pS, cSl, cCh, gNot, walked, bo, br, bs, noR_ok, truB, truI, truS, truL, asBB, asI, gLenL, gLenT, gLenS, gLenN, gAddI, gSubI, gNegI, gLtI, gLeI, gGtI, gGeI, gLtS, gLeS, gGtS, gGeS, gAbsI, gIntI, gInC, gNotInC, gIsN, gIsNotN, gListL, gListT, gTupleL, gEqI, gNeI, gEqS, gNeS, List.getElem?_cons_succ, List.getElem?_cons_zero, List.set_cons_succ, List.set_cons_zero, List.map_cons, List.map_nil, List.cons_append, List.nil_append, wipeE, ↓reduceIte, Bool.not_true, Bool.not_false, Bool.false_eq_true, g2]
          simp
        have hm : (t[k], cs[k]) ∈ t.zip cs := by
          have : (t.zip cs)[k]'(by rw [List.length_zip]; omega) = (t[k], cs[k]) := List.getElem_zip
          rw [← this]
          exact List.getElem_mem _
        have hmore := more (ws := ws) (fr := fr) hm
        have hck : cntN cs[k] (txt ws fr (t.zip cs)) = t[k] := by
          have : (cnts ws fr cs t)[k]? = some t[k] := by rw [hc]; exact q1
          simp only [cnts, List.getElem?_map, q2, Option.map_some, Option.some.injEq] at this
          exact this
        have hneg : ¬ ((t[k] : Int) ≤ ((fr.filter fun x => decide (x = cs[k])).length : Nat)) := by
          have : cntN cs[k] fr + 1 ≤ t[k] := by rw [← hck]; exact hmore
          unfold cntN at this
          omega
        refine lcTurn_if rfl ?_ rfl
        show cB (c2 gLe (c2 gIx (cV 11) (cV 20)) (cA gLen (aC (cLC [24] (iA (cV 6)) (gN 24) (cB (c2 gEq (cV 24) (c2 gIx (cV 2) (cV 20)))) (cV 24)) aN))) [x0, x1, some (dCs cs), x3, x4, x5, some (dS fr), x7, x8, x9, x10, some (dNs t), x12, x13, some (.lst ((goods ws fr cs).map dNs)), x15, none, none, none, none, some (.int (k : Int)), none, none, none, none] = _
        simp only [cB, c2, cA, aC, aN, e2]
        simp only [cA, aC, aN, cV, cC, c1, c2, cMs, cTup, cLst, cAnd, cOr, cIf, cT, cB, tNotB, tAndB, tOrB, tY, iA, iF, gN, gT, gsC, gsN, aS, pN, pS, cSl, cCh, gNot, walked, bo, br, bs, noR_ok, truB, truI, truS, truL, asBB, asI, gLenL, gLenT, gLenS, gLenN, gAddI, gSubI, gNegI, gLtI, gLeI, gGtI, gGeI, gLtS, gLeS, gGtS, gGeS, gAbsI, gIntI, gInC, gNotInC, gIsN, gIsNotN, gListL, gListT, gTupleL, gEqI, gNeI, gEqS, gNeS, List.getElem?_cons_succ, List.getElem?_cons_zero, List.set_cons_succ, List.set_cons_zero, List.map_cons, List.map_nil, List.cons_append, List.nil_append, wipeE, ↓reduceIte, Bool.not_true, Bool.not_false, Bool.false_eq_true, g1, List.length_map, hneg, decide_false]
    show cB (c2 gNe (cLC [20] _ _ _ _) (cLst aN)) [x0, x1, some (dCs cs), x3, x4, x5, some (dS fr), x7, x8, x9, x10, some (dNs t), x12, x13, some (.lst ((goods ws fr cs).map dNs)), x15, none, none, none, none, none, none, none, none, none] = _
    have ez : ((List.range cs.length).filter fun _ => false) = [] := by simp
    have gz : gNe (.lst []) (.lst []) = .ok (.bl false) := gNe_self rfl
    simp only [cB, c2, e1, ez]
    simp only [cA, aC, aN, cV, cC, c1, c2, cMs, cTup, cLst, cAnd, cOr, cIf, cT, cB, tNotB, tAndB, tOrB, tY, iA, iF, gN, gT, gsC, gsN, aS, pN, pS, cSl, cCh, gNot, walked, bo, br, bs, noR_ok, truB, truI, truS, truL, asBB, asI, gLenL, gLenT, gLenS, gLenN, gAddI, gSubI, gNegI, gLtI, gLeI, gGtI, gGeI, gLtS, gLeS, gGtS, gGeS, gAbsI, gIntI, gInC, gNotInC, gIsN, gIsNotN, gListL, gListT, gTupleL, gEqI, gNeI, gEqS, gNeS, List.getElem?_cons_succ, List.getElem?_cons_zero, List.set_cons_succ, List.set_cons_zero, List.map_cons, List.map_nil, List.cons_append, List.nil_append, wipeE, ↓reduceIte, Bool.not_true, Bool.not_false, Bool.false_eq_true, List.length_nil, Nat.zero_le, gz]
/-! ### the tries -/
def T0 (ws : List (List Nat)) (fr cs : List Nat) : List (List Int) := ((goods ws fr cs).take 2).map cst ++ [[], List.replicate cs.length 0, List.replicate cs.length (ws.length : Int), List.replicate cs.length (-1), List.replicate (cs.length + 1) 0]
theorem mul_rep (i : Int) (k : Nat) (hk : k ≤ 4) : gMul (.lst [.int i]) (.int (k : Int)) = .ok (dIs (List.replicate k i)) := by
  have e : (List.replicate k ([.int i] : List D)).flatten = (List.replicate k i).map D.int := by
    rw [List.map_replicate]
    induction k with
    | zero => rfl
    | succ k ih => rw [List.replicate_succ, List.flatten_cons, ih (by omega), List.replicate_succ]; rfl
  simp only [gMul, Int.toNat_natCast, e]
  rw [if_pos]
  refine ⟨⟨by omega, by omega⟩, ?_⟩
  show 1 * k ≤ 16777216
  omega
theorem cut_two (l : List D) : cut l none (some 2) = l.take 2 := by
  have e1 : HT.sIx l.length 0 none = 0 := rfl
  have e2 : HT.sIx l.length l.length (some 2) = min 2 l.length := HT.sIx_nat l.length l.length 2
  unfold cut
  rw [e1, e2, List.drop_zero, Nat.sub_zero]
  by_cases h : 2 ≤ l.length
  · rw [Nat.min_eq_left h]
  · rw [Nat.min_eq_right (by omega), List.take_of_length_le (Nat.le_refl _), List.take_of_length_le (by omega)]
theorem s15 {ws : List (List Nat)} {fr cs : List Nat} (G : Good59 ws fr cs) (x0 x1 x4 x5 x7 x8 x9 x10 x11 x12 x13 x15 : Option D) (own : List Nat) (ho : 15 ∈ own) : Go (b_law_s15 [x0, x1, some (dCs cs), some (dSs ws), x4, x5, some (dS fr), x7, x8, x9, x10, x11, x12, x13, some (.lst ((goods ws fr cs).map dNs)), x15, none, none, none, none, none, none, none, none, none] own)
    (fun ρ own => 15 ∈ own ∧ 16 ∈ own ∧ ρ = [x0, x1, some (dCs cs), some (dSs ws), x4, x5, some (dS fr), x7, x8, x9, x10, x11, x12, x13, some (.lst ((goods ws fr cs).map dNs)), x15, some (.lst ((T0 ws fr cs).map dIs)), none, none, none, none, none, none, none, none]) := by
  have hc := G.c2
  refine go_new (d := .lst ((T0 ws fr cs).map dIs)) ?_ (by simp) ⟨List.mem_cons_of_mem _ (in_dropO (in_keepO ho (by decide)) (by decide)), List.mem_cons_self, rfl⟩
  have g1 := mul_rep 0 cs.length (by omega)
  have g2 := mul_rep (ws.length : Int) cs.length (by omega)
  have g3 := mul_rep (-1) cs.length (by omega)
  have g4 := mul_rep 0 (cs.length + 1) (by omega)
  have b1 : ∀ x : D, ([x] : List D).length ≤ big := fun x => by show 1 ≤ 16777216; decide
  have b0 : ([] : List D).length ≤ big := Nat.zero_le _
  have b5 : ∀ x y z u v : D, ([x, y, z, u, v] : List D).length ≤ big := fun x y z u v => by show 5 ≤ 16777216; decide
  have ei : ((cs.length : Int) + 1) = ((cs.length + 1 : Nat) : Int) := by omega
  have gt : ((goods ws fr cs).map dNs).take 2 = (((goods ws fr cs).take 2).map cst).map dIs := by
    rw [List.map_map, ← List.map_take]
    refine List.map_congr_left fun t _ => ?_
    exact (dIs_nat t).symm
  have ga : gAddL (.lst ((((goods ws fr cs).take 2).map cst).map dIs)) (.lst [.lst [], dIs (List.replicate cs.length 0), dIs (List.replicate cs.length (ws.length : Int)), dIs (List.replicate cs.length (-1)), dIs (List.replicate (cs.length + 1) 0)]) = .ok (.lst ((T0 ws fr cs).map dIs)) := by
    rw [gAddLL]
    · rw [T0, List.map_append]
      rfl
    · simp only [List.length_map, List.length_take, List.length_cons, List.length_nil]
      show _ ≤ 16777216
      omega
  simp only [cA, aC, aN, cV, cC, c1, c2, cMs, cTup, cLst, cAnd, cOr, cIf, cT, cB, tNotB, tAndB, tOrB, tY, iA, iF, gN, gT, gsC, gsN, aS, pN, pS, cSl, cCh, gNot, walked, bo, br, bs, noR_ok, truB, truI, truS, truL, asBB, asI, gLenL, gLenT, gLenS, gLenN, gAddI, gSubI, gNegI, gLtI, gLeI, gGtI, gGeI, gLtS, gLeS, gGtS, gGeS, gAbsI, gIntI, gInC, gNotInC, gIsN, gIsNotN, gListL, gListT, gTupleL, gEqI, gNeI, gEqS, gNeS, List.getElem?_cons_succ, List.getElem?_cons_zero, List.set_cons_succ, List.set_cons_zero, List.map_cons, List.map_nil, List.cons_append, List.nil_append, wipeE, ↓reduceIte, Bool.not_true, Bool.not_false, Bool.false_eq_true, gSl, cut_two, gt, b0, b1, b5, List.length_map, g1, g2, g3, ei, g4, ga]
end K59

namespace K59
open PySem PySem.Spec Ev
theorem gEq_ints (a b : List Int) : gEq (dIs a) (dIs b) = .ok (.bl (decide (a = b))) := by
  have h1 : cmpOk (dIs a) = true := cmpOk_ints (fun x => x) a
  have h2 : cmpOk (dIs b) = true := cmpOk_ints (fun x => x) b
  rw [gEq_of h1 h2]
  show R.ok (D.bl (eqvAll _ _)) = _
  rw [eqv_ints]
theorem txt_small {ws : List (List Nat)} {fr cs t : List Nat} (G : Good59 ws fr cs) (hF : Fill ws cs t) : (txt ws fr (t.zip cs)).length ≤ 1000 := by
  have hl := txt_len G (t.zip cs) fr fun p hp => hF.2 p.1 (List.of_mem_zip (a := p.1) (b := p.2) hp).1
  have hz : (t.zip cs).length ≤ 3 := by have := G.c2; rw [List.length_zip]; omega
  have := G.f1
  omega
theorem s16 {ws : List (List Nat)} {fr cs : List Nat} (G : Good59 ws fr cs) (ds : List Int) (x0 x4 x5 x7 x9 x10 x11 x12 x13 x14 x15 : Option D) (own : List Nat) (ho : 15 ∈ own) (ho2 : 16 ∈ own) (T : List (List Int)) (hT : T.length ≤ 7) : Go (b_law_s16 [x0, some (dIs ds), some (dCs cs), some (dSs ws), x4, x5, some (dS fr), x7, some (.lst ((fill ws.length cs.length).map dNs)), x9, x10, x11, x12, x13, x14, x15, some (.lst (T.map dIs)), none, none, none, none, none, none, none, none] own)
    (fun ρ own => 15 ∈ own ∧ ∃ (T' : List (List Int)) (a e : Option D), ρ = [x0, some (dIs ds), some (dCs cs), some (dSs ws), a, x5, some (dS fr), x7, some (.lst ((fill ws.length cs.length).map dNs)), x9, x10, e, x12, x13, x14, x15, some (.lst (T'.map dIs)), none, none, none, none, none, none, none, none]) := by
  refine go_for (List.range 5) (fun (k : Nat) => .int (k : Int)) (fun done ρ own => 15 ∈ own ∧ 16 ∈ own ∧ ∃ (T' : List (List Int)) (a e : Option D), T'.length ≤ 7 + done.length ∧ ρ = [x0, some (dIs ds), some (dCs cs), some (dSs ws), a, x5, some (dS fr), x7, some (.lst ((fill ws.length cs.length).map dNs)), x9, x10, e, x12, x13, x14, x15, some (.lst (T'.map dIs)), none, none, none, none, none, none, none, none]) ?_ ⟨in_sansO ho (by decide), in_sansO ho2 (by decide), T, x4, x11, hT, rfl⟩ ?_ fun ρ own ⟨h1, _, T', a, e, _, h⟩ => ⟨h1, T', a, e, h⟩
  · simp only [cA, aC, aN, cV, cC, c1, c2, cMs, cTup, cLst, cAnd, cOr, cIf, cT, cB, tNotB, tAndB, tOrB, tY, iA, iF, gN, gT, gsC, gsN, aS, pN, pS, cSl, cCh, gNot, walked, bo, br, bs, noR_ok, truB, truI, truS, truL, asBB, asI, gLenL, gLenT, gLenS, gLenN, gAddI, gSubI, gNegI, gLtI, gLeI, gGtI, gGeI, gLtS, gLeS, gGtS, gGeS, gAbsI, gIntI, gInC, gNotInC, gIsN, gIsNotN, gListL, gListT, gTupleL, gEqI, gNeI, gEqS, gNeS, List.getElem?_cons_succ, List.getElem?_cons_zero, List.set_cons_succ, List.set_cons_zero, List.map_cons, List.map_nil, List.cons_append, List.nil_append, wipeE, ↓reduceIte, Bool.not_true, Bool.not_false, Bool.false_eq_true]
    exact range1_nat 5 (by decide)
  · rintro d1 k d2 e ρ own ⟨ho, ho2, T', a, e', hT', rfl⟩
    have hd1 : d1.length ≤ 4 := by
      have := congrArg List.length e
      simp only [List.length_range, List.length_append, List.length_cons] at this
      omega
    have hpos : 0 < (fill ws.length cs.length).length := by
      rw [fill_len]
      exact Nat.pow_pos (by have := G.w1; omega)
    have em := e_mixI ds (120 + (k : Int)) ((fill ws.length cs.length).length : Int) (by omega) (by omega)
    rw [Int.toNat_natCast] at em
    have hr := mixN_lt ds (120 + (k : Int)).toNat (fill ws.length cs.length).length hpos
    generalize mixN ds (120 + (k : Int)).toNat (fill ws.length cs.length).length = r at em hr
    have hq : (fill ws.length cs.length)[r]? = some (fill ws.length cs.length)[r] := List.getElem?_eq_getElem hr
    have hm := List.getElem_mem hr
    generalize (fill ws.length cs.length)[r] = t at hq hm
    have hF := fill_Fill hm
    have gi : gIx (.lst ((fill ws.length cs.length).map dNs)) (.int (r : Int)) = .ok (dNs t) := ix_map dNs hq
    refine ⟨_, rfl, Go.c ?_⟩
    refine gos_set (d := dNs t) ?_ ?_
    · simp only [cA, aC, aN, cV, cC, c1, c2, cMs, cTup, cLst, cAnd, cOr, cIf, cT, cB, tNotB, tAndB, tOrB, tY, iA, iF, gN, gT, gsC, gsN, aS, pN, pS, cSl, cCh, gNot, walked, bo, br, bs, noR_ok, truB, truI, truS, truL, asBB, asI, gLenL, gLenT, gLenS, gLenN, gAddI, gSubI, gNegI, gLtI, gLeI, gGtI, gGeI, gLtS, gLeS, gGtS, gGeS, gAbsI, gIntI, gInC, gNotInC, gIsN, gIsNotN, gListL, gListT, gTupleL, gEqI, gNeI, gEqS, gNeS, List.getElem?_cons_succ, List.getElem?_cons_zero, List.set_cons_succ, List.set_cons_zero, List.map_cons, List.map_nil, List.cons_append, List.nil_append, wipeE, ↓reduceIte, Bool.not_true, Bool.not_false, Bool.false_eq_true, List.length_map, em, gi]
    have o15 : 15 ∈ dropO (keepO (sansO own [4]) ([8] ++ ([1] ++ (([] ++ [4]) ++ (([8] ++ []) ++ [])))) (dNs t)) 11 := in_dropO (in_keepO (in_sansO ho (by decide)) (by decide)) (by decide)
    have o16 : 16 ∈ dropO (keepO (sansO own [4]) ([8] ++ ([1] ++ (([] ++ [4]) ++ (([8] ++ []) ++ [])))) (dNs t)) 11 := in_dropO (in_keepO (in_sansO ho2 (by decide)) (by decide)) (by decide)
    refine gos_app (xs := T'.map dIs) (d := dNs t) rfl rfl (in_keepO o16 (by decide)) (by rw [List.length_map]; show _ ≤ 16777216; omega) ?_
    have q1 := e_told_text G hF
    have q2 := e__law_text G hF
    have q3 := repr_str (txt ws fr (t.zip cs)) (by have := txt_small G hF; omega)
    have q4 : gNe (.rep (.str (txt ws fr (t.zip cs)))) (.rep (.str (txt ws fr (t.zip cs)))) = .ok (.bl false) := gNeR rfl
    refine go_ifF ?_ ⟨in_keepO o15 (by decide), in_keepO o16 (by decide), T' ++ [cst t], some (.int (k : Int)), some (dNs t), by simp only [List.length_append, List.length_cons, List.length_nil]; omega, ?_⟩
    · simp only [cA, aC, aN, cV, cC, c1, c2, cMs, cTup, cLst, cAnd, cOr, cIf, cT, cB, tNotB, tAndB, tOrB, tY, iA, iF, gN, gT, gsC, gsN, aS, pN, pS, cSl, cCh, gNot, walked, bo, br, bs, noR_ok, truB, truI, truS, truL, asBB, asI, gLenL, gLenT, gLenS, gLenN, gAddI, gSubI, gNegI, gLtI, gLeI, gGtI, gGeI, gLtS, gLeS, gGtS, gGeS, gAbsI, gIntI, gInC, gNotInC, gIsN, gIsNotN, gListL, gListT, gTupleL, gEqI, gNeI, gEqS, gNeS, List.getElem?_cons_succ, List.getElem?_cons_zero, List.set_cons_succ, List.set_cons_zero, List.map_cons, List.map_nil, List.cons_append, List.nil_append, wipeE, ↓reduceIte, Bool.not_true, Bool.not_false, Bool.false_eq_true, q1, q2, q3, q4]
    · rw [List.map_append]
      show _ = [x0, some (dIs ds), some (dCs cs), some (dSs ws), some (.int (k : Int)), x5, some (dS fr), x7, some (.lst ((fill ws.length cs.length).map dNs)), x9, x10, some (dNs t), x12, x13, x14, x15, some (.lst (T'.map dIs ++ [dIs (cst t)])), none, none, none, none, none, none, none, none]
      rw [dIs_nat]
      rfl
theorem s17 {ws : List (List Nat)} {fr cs : List Nat} (G : Good59 ws fr cs) (x0 x1 x4 x5 x7 x8 x9 x10 x11 x12 x13 x14 x15 : Option D) (own : List Nat) (ho : 15 ∈ own) (T : List (List Int)) : Go (b_law_s17 [x0, x1, some (dCs cs), some (dSs ws), x4, x5, some (dS fr), x7, x8, x9, x10, x11, x12, x13, x14, x15, some (.lst (T.map dIs)), none, none, none, none, none, none, none, none] own)
    (fun ρ own => 15 ∈ own ∧ ∃ e r, ρ = [x0, x1, some (dCs cs), some (dSs ws), x4, x5, some (dS fr), x7, x8, x9, x10, e, x12, x13, x14, x15, some (.lst (T.map dIs)), r, none, none, none, none, none, none, none]) := by
  refine go_for T dIs (fun done ρ own => 15 ∈ own ∧ ∃ e r, ρ = [x0, x1, some (dCs cs), some (dSs ws), x4, x5, some (dS fr), x7, x8, x9, x10, e, x12, x13, x14, x15, some (.lst (T.map dIs)), r, none, none, none, none, none, none, none]) ?_ ⟨in_sansO ho (by decide), x11, none, rfl⟩ ?_ fun _ _ h => h
  · simp only [cA, aC, aN, cV, cC, c1, c2, cMs, cTup, cLst, cAnd, cOr, cIf, cT, cB, tNotB, tAndB, tOrB, tY, iA, iF, gN, gT, gsC, gsN, aS, pN, pS, cSl, cCh, gNot, walked, bo, br, bs, noR_ok, truB, truI, truS, truL, asBB, asI, gLenL, gLenT, gLenS, gLenN, gAddI, gSubI, gNegI, gLtI, gLeI, gGtI, gGeI, gLtS, gLeS, gGtS, gGeS, gAbsI, gIntI, gInC, gNotInC, gIsN, gIsNotN, gListL, gListT, gTupleL, gEqI, gNeI, gEqS, gNeS, List.getElem?_cons_succ, List.getElem?_cons_zero, List.set_cons_succ, List.set_cons_zero, List.map_cons, List.map_nil, List.cons_append, List.nil_append, wipeE, ↓reduceIte, Bool.not_true, Bool.not_false, Bool.false_eq_true]
  · rintro d1 t d2 e ρ own ⟨ho, e', r, rfl⟩
    refine ⟨_, rfl, Go.c ?_⟩
    have e1 : ∀ z, cLC [19] (iA (cV 11)) (gN 19) (tNotB (cB (cCh gLe gLt (cC (.int 0)) (cV 19) (cA gLen (aC (cV 3) aN))))) (cV 19) [x0, x1, some (dCs cs), some (dSs ws), x4, x5, some (dS fr), x7, x8, x9, x10, some (dIs t), x12, x13, x14, x15, some (.lst (T.map dIs)), z, none, none, none, none, none, none, none] = .ok (.lst ((t.filter fun (n : Int) => !(decide (0 ≤ n) && decide (n < (ws.length : Int)))).map D.int)) := fun z => by
      refine cLC_filter t D.int _ (fun (n : Int) => !(decide (0 ≤ n) && decide (n < (ws.length : Int)))) rfl fun n hn => ?_
      refine lcTurn_if rfl ?_ rfl
      simp only [cA, aC, aN, cV, cC, c1, c2, cMs, cTup, cLst, cAnd, cOr, cIf, cT, cB, tNotB, tAndB, tOrB, tY, iA, iF, gN, gT, gsC, gsN, aS, pN, pS, cSl, cCh, gNot, walked, bo, br, bs, noR_ok, truB, truI, truS, truL, asBB, asI, gLenL, gLenT, gLenS, gLenN, gAddI, gSubI, gNegI, gLtI, gLeI, gGtI, gGeI, gLtS, gLeS, gGtS, gGeS, gAbsI, gIntI, gInC, gNotInC, gIsN, gIsNotN, gListL, gListT, gTupleL, gEqI, gNeI, gEqS, gNeS, List.getElem?_cons_succ, List.getElem?_cons_zero, List.set_cons_succ, List.set_cons_zero, List.map_cons, List.map_nil, List.cons_append, List.nil_append, wipeE, ↓reduceIte, Bool.not_true, Bool.not_false, Bool.false_eq_true, List.length_map]
      by_cases h0 : 0 ≤ n <;> simp [h0, bo, asBB]
    have ge : gEq (.lst ((t.filter fun (n : Int) => !(decide (0 ≤ n) && decide (n < (ws.length : Int)))).map D.int)) (.lst []) = .ok (.bl (t.all fun (n : Int) => decide (0 ≤ n) && decide (n < (ws.length : Int)))) := by
      show gEq (dIs _) (dIs []) = _
      rw [gEq_ints]
      congr 2
      rw [Bool.eq_iff_iff]
      simp [List.filter_eq_nil_iff]
    have h1 : ∀ o, ∃ own', 15 ∈ own' ∧ sfSet 17 ((([11] ++ []) ++ ([2] ++ [])) ++ (([11] ++ sans [19] [19]) ++ [])) (cAnd (c2 gEq (cA gLen (aC (cV 11) aN)) (cA gLen (aC (cV 2) aN))) (c2 gEq (cLC [19] (iA (cV 11)) (gN 19) (tNotB (cB (cCh gLe gLt (cC (.int 0)) (cV 19) (cA gLen (aC (cV 3) aN))))) (cV 19)) (cLst aN))) [x0, x1, some (dCs cs), some (dSs ws), x4, x5, some (dS fr), x7, x8, x9, x10, some (dIs t), x12, x13, x14, x15, some (.lst (T.map dIs)), o, none, none, none, none, none, none, none] (sansO own [11]) = .ok (.nx [x0, x1, some (dCs cs), some (dSs ws), x4, x5, some (dS fr), x7, x8, x9, x10, some (dIs t), x12, x13, x14, x15, some (.lst (T.map dIs)), some (.bl (decide (t.length = cs.length) && t.all fun (n : Int) => decide (0 ≤ n) && decide (n < (ws.length : Int)))), none, none, none, none, none, none, none] own') := fun o => by
      refine ⟨_, ?_, sfSet_ok (d := .bl (decide (t.length = cs.length) && t.all fun (n : Int) => decide (0 ≤ n) && decide (n < (ws.length : Int)))) ?_⟩
      · exact in_dropO (in_keepA (in_sansO ho (by decide)) rfl) (by decide)
      · simp only [cA, aC, aN, cV, cC, c1, c2, cMs, cTup, cLst, cAnd, cOr, cIf, cT, cB, tNotB, tAndB, tOrB, tY, iA, iF, gN, gT, gsC, gsN, aS, pN, pS, cSl, cCh, gNot, walked, bo, br, bs, noR_ok, truB, truI, truS, truL, asBB, asI, gLenL, gLenT, gLenS, gLenN, gAddI, gSubI, gNegI, gLtI, gLeI, gGtI, gGeI, gLtS, gLeS, gGtS, gGeS, gAbsI, gIntI, gInC, gNotInC, gIsN, gIsNotN, gListL, gListT, gTupleL, gEqI, gNeI, gEqS, gNeS, List.getElem?_cons_succ, List.getElem?_cons_zero, List.set_cons_succ, List.set_cons_zero, List.map_cons, List.map_nil, List.cons_append, List.nil_append, wipeE, ↓reduceIte, Bool.not_true, Bool.not_false, Bool.false_eq_true, List.length_map]
        have b0 : ([] : List D).length ≤ big := Nat.zero_le _
        have ez := e1 o
        by_cases hl : t.length = cs.length
        · have : (t.length : Int) = cs.length := by omega
          simp only [this, hl, decide_true, Bool.true_and, ez, b0, ↓reduceIte, bo, ge]
        · have : ¬ ((t.length : Int) = cs.length) := by omega
          simp only [this, hl, decide_false, Bool.false_and, Bool.false_eq_true, ↓reduceIte]
    obtain ⟨own1, ho1, h1⟩ := h1 r
    refine go_seq (J := fun ρ own => 15 ∈ own ∧ ρ = [x0, x1, some (dCs cs), some (dSs ws), x4, x5, some (dS fr), x7, x8, x9, x10, some (dIs t), x12, x13, x14, x15, some (.lst (T.map dIs)), some (.bl (decide (t.length = cs.length) && t.all fun (n : Int) => decide (0 ≤ n) && decide (n < (ws.length : Int)))), none, none, none, none, none, none, none]) ⟨_, own1, h1, ho1, rfl⟩ ?_
    rintro ρ own2 ⟨ho2, rfl⟩
    cases hf : (decide (t.length = cs.length) && t.all fun (n : Int) => decide (0 ≤ n) && decide (n < (ws.length : Int))) with
    | false =>
      have q1 := e_is_true_bad (fr := fr) G hf
      have q2 := repr_bl false
      have q3 : gNe (.rep (.bl false)) (.rep (.bl false)) = .ok (.bl false) := gNeR rfl
      refine gos_set (d := .bl false) ?_ ?_
      · simp only [cA, aC, aN, cV, cC, c1, c2, cMs, cTup, cLst, cAnd, cOr, cIf, cT, cB, tNotB, tAndB, tOrB, tY, iA, iF, gN, gT, gsC, gsN, aS, pN, pS, cSl, cCh, gNot, walked, bo, br, bs, noR_ok, truB, truI, truS, truL, asBB, asI, gLenL, gLenT, gLenS, gLenN, gAddI, gSubI, gNegI, gLtI, gLeI, gGtI, gGeI, gLtS, gLeS, gGtS, gGeS, gAbsI, gIntI, gInC, gNotInC, gIsN, gIsNotN, gListL, gListT, gTupleL, gEqI, gNeI, gEqS, gNeS, List.getElem?_cons_succ, List.getElem?_cons_zero, List.set_cons_succ, List.set_cons_zero, List.map_cons, List.map_nil, List.cons_append, List.nil_append, wipeE, ↓reduceIte, Bool.not_true, Bool.not_false, Bool.false_eq_true]
      · refine go_ifF ?_ ⟨in_dropO (in_keepA ho2 rfl) (by decide), _, _, rfl⟩
        simp only [cA, aC, aN, cV, cC, c1, c2, cMs, cTup, cLst, cAnd, cOr, cIf, cT, cB, tNotB, tAndB, tOrB, tY, iA, iF, gN, gT, gsC, gsN, aS, pN, pS, cSl, cCh, gNot, walked, bo, br, bs, noR_ok, truB, truI, truS, truL, asBB, asI, gLenL, gLenT, gLenS, gLenN, gAddI, gSubI, gNegI, gLtI, gLeI, gGtI, gGeI, gLtS, gLeS, gGtS, gGeS, gAbsI, gIntI, gInC, gNotInC, gIsN, gIsNotN, gListL, gListT, gTupleL, gEqI, gNeI, gEqS, gNeS, List.getElem?_cons_succ, List.getElem?_cons_zero, List.set_cons_succ, List.set_cons_zero, List.map_cons, List.map_nil, List.cons_append, List.nil_append, wipeE, ↓reduceIte, Bool.not_true, Bool.not_false, Bool.false_eq_true, q1, q2, q3]
    | true =>
      simp only [Bool.and_eq_true, decide_eq_true_eq, List.all_eq_true] at hf
      have et : t = cst (t.map Int.toNat) := by
        rw [cst, List.map_map]
        refine (List.map_id' t).symm.trans (List.map_congr_left fun n hn => ?_)
        have := (hf.2 n hn).1
        simp only [Function.comp_apply]
        omega
      have hF : Fill ws cs (t.map Int.toNat) := by
        refine ⟨by rw [List.length_map]; exact hf.1, fun n hn => ?_⟩
        obtain ⟨m, hm, rfl⟩ := List.mem_map.mp hn
        have := hf.2 m hm
        omega
      generalize t.map Int.toNat = u at et hF
      subst et
      rw [dIs_nat]
      have q0 := e__law_counts G hF
      have q1 := e_is_true_good G hF
      have q2 := repr_bl (decide (cnts ws fr cs u = u))
      have q3 : gNe (.rep (.bl (decide (cnts ws fr cs u = u)))) (.rep (.bl (decide (cnts ws fr cs u = u)))) = .ok (.bl false) := gNeR rfl
      have q4 : gEq (dNs (cnts ws fr cs u)) (dNs u) = .ok (.bl (decide (cnts ws fr cs u = u))) := by
        rw [gEq_of (cmpOk_nats _) (cmpOk_nats _), eqv_nats]
      refine gos_set (d := .bl (decide (cnts ws fr cs u = u))) ?_ ?_
      · simp only [cA, aC, aN, cV, cC, c1, c2, cMs, cTup, cLst, cAnd, cOr, cIf, cT, cB, tNotB, tAndB, tOrB, tY, iA, iF, gN, gT, gsC, gsN, aS, pN, pS, cSl, cCh, gNot, walked, bo, br, bs, noR_ok, truB, truI, truS, truL, asBB, asI, gLenL, gLenT, gLenS, gLenN, gAddI, gSubI, gNegI, gLtI, gLeI, gGtI, gGeI, gLtS, gLeS, gGtS, gGeS, gAbsI, gIntI, gInC, gNotInC, gIsN, gIsNotN, gListL, gListT, gTupleL, gEqI, gNeI, gEqS, gNeS, List.getElem?_cons_succ, List.getElem?_cons_zero, List.set_cons_succ, List.set_cons_zero, List.map_cons, List.map_nil, List.cons_append, List.nil_append, wipeE, ↓reduceIte, Bool.not_true, Bool.not_false, Bool.false_eq_true, q0, q4]
      · refine go_ifF ?_ ⟨in_dropO (in_keepA ho2 rfl) (by decide), _, _, rfl⟩
        simp only [cA, aC, aN, cV, cC, c1, c2, cMs, cTup, cLst, cAnd, cOr, cIf, cT, cB, tNotB, tAndB, tOrB, tY, iA, iF, gN, gT, gsC, gsN, aS, pN, pS, cSl, cCh, gNot, walked, bo, br, bs, noR_ok, truB, truI, truS, truL, asBB, asI, gLenL, gLenT, gLenS, gLenN, gAddI, gSubI, gNegI, gLtI, gLeI, gGtI, gGeI, gLtS, gLeS, gGtS, gGeS, gAbsI, gIntI, gInC, gNotInC, gIsN, gIsNotN, gListL, gListT, gTupleL, gEqI, gNeI, gEqS, gNeS, List.getElem?_cons_succ, List.getElem?_cons_zero, List.set_cons_succ, List.set_cons_zero, List.map_cons, List.map_nil, List.cons_append, List.nil_append, wipeE, ↓reduceIte, Bool.not_true, Bool.not_false, Bool.false_eq_true, q1, q2, q3]
end K59

namespace K59
open PySem PySem.Spec Ev
theorem good_small : Good59 [[120], [120, 97], [97, 97]] [] [97] := ⟨by decide, by decide, by decide, by decide, by decide, by decide, by decide, by decide, by decide⟩
theorem law_plain (ns : List Int) (hn : ns.length ≤ 63) : fn_law [.scr ns] = .ok (.bl true) := by
  obtain ⟨ds, hd, e0⟩ := e__law_draws ns hn
  refine runB_rt rfl ?_
  show b_law_0 [some (.scr ns), none, none, none, none, none, none, none, none, none, none, none, none, none, none, none, none, none, none, none, none, none, none, none, none] [] = _
  refine rts_set (d := dIs ds) (by simp only [cA, aC, aN, cV, cC, c1, c2, cMs, cTup, cLst, cAnd, cOr, cIf, cT, cB, tNotB, tAndB, tOrB, tY, iA, iF, gN, gT, gsC, gsN, aS, pN, pS, cSl, cCh, gNot, walked, bo, br, bs, noR_ok, truB, truI, truS, truL, asBB, asI, gLenL, gLenT, gLenS, gLenN, gAddI, gSubI, gNegI, gLtI, gLeI, gGtI, gGeI, gLtS, gLeS, gGtS, gGeS, gAbsI, gIntI, gInC, gNotInC, gIsN, gIsNotN, gListL, gListT, gTupleL, gEqI, gNeI, gEqS, gNeS, List.getElem?_cons_succ, List.getElem?_cons_zero, List.set_cons_succ, List.set_cons_zero, List.map_cons, List.map_nil, List.cons_append, List.nil_append, wipeE, ↓reduceIte, Bool.not_true, Bool.not_false, Bool.false_eq_true]; exact e0) ?_
  obtain ⟨cs, k1, k2, k3, k4, k5, e1⟩ : ∃ cs : List Nat, 1 ≤ cs.length ∧ cs.length ≤ 3 ∧ (∀ c ∈ cs, c ∈ LET) ∧ cs.Pairwise (· < ·) ∧ 122 ∉ cs ∧ gIx (.lst [dCs [97], dCs [97, 98], dCs [98, 99], dCs [97, 98, 99]]) (.int (mixN ds 0 4 : Int)) = .ok (dCs cs) := by
    have h4 := mixN_lt ds 0 4 (by decide)
    rw [gIx_getD (l := [dCs [97], dCs [97, 98], dCs [98, 99], dCs [97, 98, 99]]) h4]
    match mixN ds 0 4, h4 with
    | 0, _ => exact ⟨[97], by decide, by decide, by decide, by decide, by decide, rfl⟩
    | 1, _ => exact ⟨[97, 98], by decide, by decide, by decide, by decide, by decide, rfl⟩
    | 2, _ => exact ⟨[98, 99], by decide, by decide, by decide, by decide, by decide, rfl⟩
    | 3, _ => exact ⟨[97, 98, 99], by decide, by decide, by decide, by decide, by decide, rfl⟩
  have em : fn__law_mix [dIs ds, .int 0, .int 4] = .ok (.int (mixN ds 0 4 : Int)) := e__law_mix ds 0 4 (by decide)
  refine rts_set (d := dCs cs) ?_ ?_
  · have b1 : ∀ x : D, ([x] : List D).length ≤ big := fun x => by show 1 ≤ 16777216; decide
    have b2 : ∀ x y : D, ([x, y] : List D).length ≤ big := fun x y => by show 2 ≤ 16777216; decide
    have b3 : ∀ x y z : D, ([x, y, z] : List D).length ≤ big := fun x y z => by show 3 ≤ 16777216; decide
    have b4 : ∀ x y z u : D, ([x, y, z, u] : List D).length ≤ big := fun x y z u => by show 4 ≤ 16777216; decide
    have e1' := e1
    simp only [dCs, List.map_cons, List.map_nil] at e1'
    simp only [cA, aC, aN, cV, cC, c1, c2, cMs, cTup, cLst, cAnd, cOr, cIf, cT, cB, tNotB, tAndB, tOrB, tY, iA, iF, gN, gT, gsC, gsN, aS, pN, pS, cSl, cCh, gNot, walked, bo, br, bs, noR_ok, truB, truI, truS, truL, asBB, asI, gLenL, gLenT, gLenS, gLenN, gAddI, gSubI, gNegI, gLtI, gLeI, gGtI, gGeI, gLtS, gLeS, gGtS, gGeS, gAbsI, gIntI, gInC, gNotInC, gIsN, gIsNotN, gListL, gListT, gTupleL, gEqI, gNeI, gEqS, gNeS, List.getElem?_cons_succ, List.getElem?_cons_zero, List.set_cons_succ, List.set_cons_zero, List.map_cons, List.map_nil, List.cons_append, List.nil_append, wipeE, ↓reduceIte, Bool.not_true, Bool.not_false, Bool.false_eq_true, b1, b2, b3, b4, em, e1']
  refine rts_new (d := dSs []) rfl (by simp) ?_
  refine rt_seq (s3 ns ds cs k1 k2) ?_
  rintro ρ own ⟨ws, a, b, w1, w2, w3, w4, rfl⟩
  refine rt_seq (s4 ns ds cs ws a b own) ?_
  rintro ρ own ⟨fr, f1, f2, rfl⟩
  have G : Good59 ws fr cs := ⟨w1, by omega, fun w hw => ⟨(w4 w hw).1, by have := (w4 w hw).2.1; omega, (w4 w hw).2.2⟩, by omega, f2, k1, k2, k3, k4⟩
  have G2 : Good59 ws (fr ++ [122]) cs := ⟨w1, by omega, G.ww, by rw [List.length_append]; show fr.length + 1 ≤ 60; omega, fun c hc => by
    rcases List.mem_append.mp hc with z | z
    · exact f2 c z
    · rw [List.mem_singleton.mp z]; decide, k1, k2, k3, k4⟩
  have wne : ws ≠ [] := fun z => by rw [z] at w1; cases w1
  have cne : cs ≠ [] := fun z => by rw [z] at k1; cases k1
  have hpow : ws.length ^ cs.length ≤ 400 := by
    have h123 : cs.length = 1 ∨ cs.length = 2 ∨ cs.length = 3 := by omega
    rcases h123 with h | h | h
    · rw [h]
      exact Nat.le_trans (Nat.pow_le_pow_left w2 1) (by decide)
    · rw [h]
      exact Nat.le_trans (Nat.pow_le_pow_left w2 2) (by decide)
    · rw [h]
      exact Nat.le_trans (Nat.pow_le_pow_left (w3 h) 3) (by decide)
  have rk := repr_kept G
  have b2 : ∀ x y : D, ([x, y] : List D).length ≤ big := fun x y => by show 2 ≤ 16777216; decide
  refine rts_set (d := .rep (.tup [dSs ws, dCs cs])) (by simp only [cA, aC, aN, cV, cC, c1, c2, cMs, cTup, cLst, cAnd, cOr, cIf, cT, cB, tNotB, tAndB, tOrB, tY, iA, iF, gN, gT, gsC, gsN, aS, pN, pS, cSl, cCh, gNot, walked, bo, br, bs, noR_ok, truB, truI, truS, truL, asBB, asI, gLenL, gLenT, gLenS, gLenN, gAddI, gSubI, gNegI, gLtI, gLeI, gGtI, gGeI, gLtS, gLeS, gGtS, gGeS, gAbsI, gIntI, gInC, gNotInC, gIsN, gIsNotN, gListL, gListT, gTupleL, gEqI, gNeI, gEqS, gNeS, List.getElem?_cons_succ, List.getElem?_cons_zero, List.set_cons_succ, List.set_cons_zero, List.map_cons, List.map_nil, List.cons_append, List.nil_append, wipeE, ↓reduceIte, Bool.not_true, Bool.not_false, Bool.false_eq_true, b2, rk]) ?_
  refine rts_new (d := .lst ([[]].map dNs)) rfl (by simp) ?_
  refine rt_seq (s7 ns ds cs ws fr a b _ _ (by omega) k2) ?_
  rintro ρ own ⟨c, d, e, rfl⟩
  refine rt_seq (s8 G ns ds a b _ c d e own hpow) ?_
  rintro ρ own rfl
  obtain ⟨emin, q, eq, q1, q2⟩ := e_min (ws := ws) (fr := fr) (cs := cs) w1
  have enear := e_nearest G
  rw [eq] at emin enear
  have etrue := e_true_fillings G
  have etrueZ := e_true_fillings G2
  rw [goods_z k5] at etrueZ
  refine rts_set (d := bestD (some q)) (by simp only [cA, aC, aN, cV, cC, c1, c2, cMs, cTup, cLst, cAnd, cOr, cIf, cT, cB, tNotB, tAndB, tOrB, tY, iA, iF, gN, gT, gsC, gsN, aS, pN, pS, cSl, cCh, gNot, walked, bo, br, bs, noR_ok, truB, truI, truS, truL, asBB, asI, gLenL, gLenT, gLenS, gLenN, gAddI, gSubI, gNegI, gLtI, gLeI, gGtI, gGeI, gLtS, gLeS, gGtS, gGeS, gAbsI, gIntI, gInC, gNotInC, gIsN, gIsNotN, gListL, gListT, gTupleL, gEqI, gNeI, gEqS, gNeS, List.getElem?_cons_succ, List.getElem?_cons_zero, List.set_cons_succ, List.set_cons_zero, List.map_cons, List.map_nil, List.cons_append, List.nil_append, wipeE, ↓reduceIte, Bool.not_true, Bool.not_false, Bool.false_eq_true, emin]) ?_
  refine rts_new (d := .lst ((goods ws fr cs).map dNs)) ?_ (by simp) ?_
  · refine cLC_filter (fill ws.length cs.length) (row ws fr cs) dNs (fun t => decide (cnts ws fr cs t = t)) (by simp only [cA, aC, aN, cV, cC, c1, c2, cMs, cTup, cLst, cAnd, cOr, cIf, cT, cB, tNotB, tAndB, tOrB, tY, iA, iF, gN, gT, gsC, gsN, aS, pN, pS, cSl, cCh, gNot, walked, bo, br, bs, noR_ok, truB, truI, truS, truL, asBB, asI, gLenL, gLenT, gLenS, gLenN, gAddI, gSubI, gNegI, gLtI, gLeI, gGtI, gGeI, gLtS, gLeS, gGtS, gGeS, gAbsI, gIntI, gInC, gNotInC, gIsN, gIsNotN, gListL, gListT, gTupleL, gEqI, gNeI, gEqS, gNeS, List.getElem?_cons_succ, List.getElem?_cons_zero, List.set_cons_succ, List.set_cons_zero, List.map_cons, List.map_nil, List.cons_append, List.nil_append, wipeE, ↓reduceIte, Bool.not_true, Bool.not_false, Bool.false_eq_true]) fun t ht => ?_
    refine lcTurn_if (by simp only [row, cA, aC, aN, cV, cC, c1, c2, cMs, cTup, cLst, cAnd, cOr, cIf, cT, cB, tNotB, tAndB, tOrB, tY, iA, iF, gN, gT, gsC, gsN, aS, pN, pS, cSl, cCh, gNot, walked, bo, br, bs, noR_ok, truB, truI, truS, truL, asBB, asI, gLenL, gLenT, gLenS, gLenN, gAddI, gSubI, gNegI, gLtI, gLeI, gGtI, gGeI, gLtS, gLeS, gGtS, gGeS, gAbsI, gIntI, gInC, gNotInC, gIsN, gIsNotN, gListL, gListT, gTupleL, gEqI, gNeI, gEqS, gNeS, List.getElem?_cons_succ, List.getElem?_cons_zero, List.set_cons_succ, List.set_cons_zero, List.map_cons, List.map_nil, List.cons_append, List.nil_append, wipeE, ↓reduceIte, Bool.not_true, Bool.not_false, Bool.false_eq_true, List.length_cons, List.length_nil]; rfl) ?_ rfl
    simp only [cA, aC, aN, cV, cC, c1, c2, cMs, cTup, cLst, cAnd, cOr, cIf, cT, cB, tNotB, tAndB, tOrB, tY, iA, iF, gN, gT, gsC, gsN, aS, pN, pS, cSl, cCh, gNot, walked, bo, br, bs, noR_ok, truB, truI, truS, truL, asBB, asI, gLenL, gLenT, gLenS, gLenN, gAddI, gSubI, gNegI, gLtI, gLeI, gGtI, gGeI, gLtS, gLeS, gGtS, gGeS, gAbsI, gIntI, gInC, gNotInC, gIsN, gIsNotN, gListL, gListT, gTupleL, gEqI, gNeI, gEqS, gNeS, List.getElem?_cons_succ, List.getElem?_cons_zero, List.set_cons_succ, List.set_cons_zero, List.map_cons, List.map_nil, List.cons_append, List.nil_append, wipeE, ↓reduceIte, Bool.not_true, Bool.not_false, Bool.false_eq_true]
    rw [far_zero ws fr cs t (fill_Fill ht).1]
  have hgl : (goods ws fr cs).length ≤ 400 := Nat.le_trans (goods_len ws fr cs) hpow
  have gm : ∀ t ∈ goods ws fr cs, t.length = cs.length ∧ ∀ x ∈ t, x < ws.length := fun t ht => (goods_mem ht).1
  have cGood : cmpOk (.lst ((goods ws fr cs).map dNs)) = true := cmpOk_lst dNs 1 _ (by decide) (fun t _ => nats_flat t) fun t _ => nats_dep t
  have fGood : flat (.lst ((goods ws fr cs).map dNs)) = true := by
    simp only [flat]
    exact flat_map _ _ fun t _ => nats_flat t
  refine rts_fresh (d := .lst ((goods ws fr cs).map dNs)) (by simp only [cA, aC, aN, cV, cC, c1, c2, cMs, cTup, cLst, cAnd, cOr, cIf, cT, cB, tNotB, tAndB, tOrB, tY, iA, iF, gN, gT, gsC, gsN, aS, pN, pS, cSl, cCh, gNot, walked, bo, br, bs, noR_ok, truB, truI, truS, truL, asBB, asI, gLenL, gLenT, gLenS, gLenN, gAddI, gSubI, gNegI, gLtI, gLeI, gGtI, gGeI, gLtS, gLeS, gGtS, gGeS, gAbsI, gIntI, gInC, gNotInC, gIsN, gIsNotN, gListL, gListT, gTupleL, gEqI, gNeI, gEqS, gNeS, List.getElem?_cons_succ, List.getElem?_cons_zero, List.set_cons_succ, List.set_cons_zero, List.map_cons, List.map_nil, List.cons_append, List.nil_append, wipeE, ↓reduceIte, Bool.not_true, Bool.not_false, Bool.false_eq_true, etrue]) (by simp) ?_ ?_ ?_
  · simp only [Ev.fresh, List.all_append, List.all_cons, List.all_nil, Bool.and_true, Bool.and_eq_true]
    refine ⟨?_, ?_, ?_⟩
    · show (nodes (dSs ws)).all _ = true
      rw [nodes_dSs]
      simp only [List.all_cons, List.all_nil, Bool.and_true]
      exact clash_fills wne
    · rfl
    · show (nodes (dCs cs)).all _ = true
      rw [nodes_dCs]
      simp only [List.all_cons, List.all_nil, Bool.and_true]
      exact clash_fillsC cne
  · exact fresh1_fills fun t ht z => by
      have := (gm t ht).1
      rw [z] at this
      simp at this
      omega
  have r1 := repr_fills (l := goods ws fr cs) (n := ws.length) (by omega) k2 (by omega) gm
  have r2 := repr_best G q1 q2
  have n1 : gNe (.rep (.lst ((goods ws fr cs).map dNs))) (.rep (.lst ((goods ws fr cs).map dNs))) = .ok (.bl false) := gNeR fGood
  have n2 : gNe (.rep (bestD (some q))) (.rep (bestD (some q))) = .ok (.bl false) := gNeR (best_flat q)
  refine rts_ifF (by simp only [cA, aC, aN, cV, cC, c1, c2, cMs, cTup, cLst, cAnd, cOr, cIf, cT, cB, tNotB, tAndB, tOrB, tY, iA, iF, gN, gT, gsC, gsN, aS, pN, pS, cSl, cCh, gNot, walked, bo, br, bs, noR_ok, truB, truI, truS, truL, asBB, asI, gLenL, gLenT, gLenS, gLenN, gAddI, gSubI, gNegI, gLtI, gLeI, gGtI, gGeI, gLtS, gLeS, gGtS, gGeS, gAbsI, gIntI, gInC, gNotInC, gIsN, gIsNotN, gListL, gListT, gTupleL, gEqI, gNeI, gEqS, gNeS, List.getElem?_cons_succ, List.getElem?_cons_zero, List.set_cons_succ, List.set_cons_zero, List.map_cons, List.map_nil, List.cons_append, List.nil_append, wipeE, ↓reduceIte, Bool.not_true, Bool.not_false, Bool.false_eq_true, r1, n1, enear, r2, n2]) ?_
  refine rt_seq (s13 G _ _ _ _ _ _ _ _ _ _ _ _ _ _ (by exact List.mem_cons_self)) ?_
  rintro ρ own ⟨ho, e2, rfl⟩
  have g1 : gAdd (.str fr) (.str [122]) = .ok (.str (fr ++ [122])) := gAddS (by show fr.length + 1 ≤ 16777216; omega)
  have n3 : gNe (.lst ((goods ws fr cs).map dNs)) (.lst ((goods ws fr cs).map dNs)) = .ok (.bl false) := gNe_self cGood
  refine rts_ifF (by simp only [cA, aC, aN, cV, cC, c1, c2, cMs, cTup, cLst, cAnd, cOr, cIf, cT, cB, tNotB, tAndB, tOrB, tY, iA, iF, gN, gT, gsC, gsN, aS, pN, pS, cSl, cCh, gNot, walked, bo, br, bs, noR_ok, truB, truI, truS, truL, asBB, asI, gLenL, gLenT, gLenS, gLenN, gAddI, gSubI, gNegI, gLtI, gLeI, gGtI, gGeI, gLtS, gLeS, gGtS, gGeS, gAbsI, gIntI, gInC, gNotInC, gIsN, gIsNotN, gListL, gListT, gTupleL, gEqI, gNeI, gEqS, gNeS, List.getElem?_cons_succ, List.getElem?_cons_zero, List.set_cons_succ, List.set_cons_zero, List.map_cons, List.map_nil, List.cons_append, List.nil_append, wipeE, ↓reduceIte, Bool.not_true, Bool.not_false, Bool.false_eq_true, g1, etrueZ, n3]) ?_
  refine rt_seq (s15 G _ _ _ _ _ _ _ _ _ _ _ _ own ho) ?_
  rintro ρ own ⟨ho, ho2, rfl⟩
  refine rt_seq (s16 G ds _ _ _ _ _ _ _ _ _ _ _ own ho ho2 (T0 ws fr cs) ?_) ?_
  · simp only [T0, List.length_append, List.length_map, List.length_take, List.length_cons, List.length_nil]
    omega
  rintro ρ own ⟨ho, T', x4, x11, rfl⟩
  refine rt_seq (s17 G _ _ _ _ _ _ _ _ _ _ _ _ _ own ho T') ?_
  rintro ρ own ⟨ho, y11, y17, rfl⟩
  have b0 : ([] : List D).length ≤ big := Nat.zero_le _
  refine rts_app (xs := (goods ws fr cs).map dNs) (d := .lst []) rfl (by simp only [cA, aC, aN, cV, cC, c1, c2, cMs, cTup, cLst, cAnd, cOr, cIf, cT, cB, tNotB, tAndB, tOrB, tY, iA, iF, gN, gT, gsC, gsN, aS, pN, pS, cSl, cCh, gNot, walked, bo, br, bs, noR_ok, truB, truI, truS, truL, asBB, asI, gLenL, gLenT, gLenS, gLenN, gAddI, gSubI, gNegI, gLtI, gLeI, gGtI, gGeI, gLtS, gLeS, gGtS, gGeS, gAbsI, gIntI, gInC, gNotInC, gIsN, gIsNotN, gListL, gListT, gTupleL, gEqI, gNeI, gEqS, gNeS, List.getElem?_cons_succ, List.getElem?_cons_zero, List.set_cons_succ, List.set_cons_zero, List.map_cons, List.map_nil, List.cons_append, List.nil_append, wipeE, ↓reduceIte, Bool.not_true, Bool.not_false, Bool.false_eq_true, b0]) (in_keepO ho (by decide)) (by rw [List.length_map]; show _ ≤ 16777216; omega) ?_
  have gi : gIx (bestD (some q)) (.int 1) = .ok (dNs q.2) := gIx_tup (k := 1) rfl
  refine rts_poke (xs := q.2.map fun (n : Nat) => D.int (n : Int)) (d := .int 9) (by simp only [cA, aC, aN, cV, cC, c1, c2, cMs, cTup, cLst, cAnd, cOr, cIf, cT, cB, tNotB, tAndB, tOrB, tY, iA, iF, gN, gT, gsC, gsN, aS, pN, pS, cSl, cCh, gNot, walked, bo, br, bs, noR_ok, truB, truI, truS, truL, asBB, asI, gLenL, gLenT, gLenS, gLenN, gAddI, gSubI, gNegI, gLtI, gLeI, gGtI, gGeI, gLtS, gLeS, gGtS, gGeS, gAbsI, gIntI, gInC, gNotInC, gIsN, gIsNotN, gListL, gListT, gTupleL, gEqI, gNeI, gEqS, gNeS, List.getElem?_cons_succ, List.getElem?_cons_zero, List.set_cons_succ, List.set_cons_zero, List.map_cons, List.map_nil, List.cons_append, List.nil_append, wipeE, ↓reduceIte, Bool.not_true, Bool.not_false, Bool.false_eq_true, enear, gi]) ?_ ?_ rfl ?_
  · simp only [Ev.fresh, List.all_append, List.all_cons, List.all_nil, Bool.and_true, Bool.and_eq_true]
    refine ⟨?_, ?_, ?_⟩
    · show (nodes (dSs ws)).all _ = true
      rw [nodes_dSs]
      simp only [List.all_cons, List.all_nil, Bool.and_true]
      exact clash_nats wne
    · rfl
    · show (nodes (dCs cs)).all _ = true
      rw [nodes_dCs]
      simp only [List.all_cons, List.all_nil, Bool.and_true]
      exact clash_natsC cne
  · have := (fill_Fill q1).1
    rw [List.length_map]
    show _ ≤ 16777216
    omega
  have cb : cmpOk (bestD (some q)) = true := by
    have := best_dep q
    unfold cmpOk
    rw [best_flat q, decide_eq_true (show dep (bestD (some q)) ≤ 60 by omega)]
    rfl
  have n4 : gNe (bestD (some q)) (bestD (some q)) = .ok (.bl false) := gNe_self cb
  have n5 : gNe (.rep (.tup [dSs ws, dCs cs])) (.rep (.tup [dSs ws, dCs cs])) = .ok (.bl false) := gNeR (by
    simp [flat, flatAll, flat_strs (fun x => x) ws, flat_strs (fun x => [x]) cs])
  refine rts_ifF (by simp only [cA, aC, aN, cV, cC, c1, c2, cMs, cTup, cLst, cAnd, cOr, cIf, cT, cB, tNotB, tAndB, tOrB, tY, iA, iF, gN, gT, gsC, gsN, aS, pN, pS, cSl, cCh, gNot, walked, bo, br, bs, noR_ok, truB, truI, truS, truL, asBB, asI, gLenL, gLenT, gLenS, gLenN, gAddI, gSubI, gNegI, gLtI, gLeI, gGtI, gGeI, gLtS, gLeS, gGtS, gGeS, gAbsI, gIntI, gInC, gNotInC, gIsN, gIsNotN, gListL, gListT, gTupleL, gEqI, gNeI, gEqS, gNeS, List.getElem?_cons_succ, List.getElem?_cons_zero, List.set_cons_succ, List.set_cons_zero, List.map_cons, List.map_nil, List.cons_append, List.nil_append, wipeE, ↓reduceIte, Bool.not_true, Bool.not_false, Bool.false_eq_true, etrue, n3, enear, n4, b2, rk, n5]) ?_
  have es := e_true_fillings good_small
  have eg : goods [[120], [120, 97], [97, 97]] [] [97] = [] := by decide
  rw [eg] at es
  have n6 : gEq (.lst []) (.lst []) = .ok (.bl true) := gEq_self rfl
  have b1 : ∀ x : D, ([x] : List D).length ≤ big := fun x => by show 1 ≤ 16777216; decide
  have b3 : ∀ x y z : D, ([x, y, z] : List D).length ≤ big := fun x y z => by show 3 ≤ 16777216; decide
  simp only [dSs, dCs, List.map_cons, List.map_nil] at es
  unfold b_law_21 b_law_s21
  refine sfRet_ok ?_
  simp only [cA, aC, aN, cV, cC, c1, c2, cMs, cTup, cLst, cAnd, cOr, cIf, cT, cB, tNotB, tAndB, tOrB, tY, iA, iF, gN, gT, gsC, gsN, aS, pN, pS, cSl, cCh, gNot, walked, bo, br, bs, noR_ok, truB, truI, truS, truL, asBB, asI, gLenL, gLenT, gLenS, gLenN, gAddI, gSubI, gNegI, gLtI, gLeI, gGtI, gGeI, gLtS, gLeS, gGtS, gGeS, gAbsI, gIntI, gInC, gNotInC, gIsN, gIsNotN, gListL, gListT, gTupleL, gEqI, gNeI, gEqS, gNeS, List.getElem?_cons_succ, List.getElem?_cons_zero, List.set_cons_succ, List.set_cons_zero, List.map_cons, List.map_nil, List.cons_append, List.nil_append, wipeE, ↓reduceIte, Bool.not_true, Bool.not_false, Bool.false_eq_true, b0, b1, b3, es, n6]
end K59

open PySem PySem.W PyProof.Rows
set_option maxHeartbeats 0 in
theorem PySem.Challenge.cw_wordsatplay_k59_whole_texts_that_count_holds : PySem.Challenge.rw_wordsatplay_k59_whole_texts_that_count.Holds := by
  w_on; o_law; k_head; (case hw => w_witness2)
  k_fill
  refine Ev.law_end (l := PySem.Challenge.rw_wordsatplay_k59_whole_texts_that_count) (n := 63) (x := "script") rfl (by decide +kernel) rfl (fun w h Y => PySem.W.kIn_of Y) ?F
  case F =>
    intro w mg fa h KX G hmg
    refine' K59.all_mk K59.law_plain KX G hmg ?a0 ?l0 ?c0 ?k0 ?a1 ?l1 ?c1 ?k1 ?a2 ?l2 ?c2 ?k2 ?a3 ?l3 ?c3 ?k3 ?a4 ?l4 ?c4 ?k4 ?a5 ?l5 ?c5 ?k5 ?a6 ?l6 ?c6 ?k6 ?a7 ?l7 ?c7 ?k7 ?a8 ?l8 ?c8 ?k8 ?a9 ?l9 ?c9 ?k9 ?a10 ?l10 ?c10 ?k10 ?a11 ?l11 ?c11 ?k11 ?a12 ?l12 ?c12 ?k12 ?a13 ?l13 ?c13 ?k13 ?a14 ?l14 ?c14 ?k14 ?a15 ?l15 ?c15 ?k15 ?z_abs ?z_all ?z_enumerate ?z_int ?z_len ?z_list ?z_min ?z_range ?z_repr ?z_sum ?z_zip ?v_LETTERS ?v_MOST_COUNTED ?v_MOST_LETTERS ?v_MOST_NUMBERS ?v_MOST_SIGNS
    (case a0 => k_is)
    (case l0 => k_is)
    (case c0 => k_is)
    (case k0 => k_is)
    (case a1 => k_is)
    (case l1 => k_is)
    (case c1 => k_is)
    (case k1 => k_is)
    (case a2 => k_is)
    (case l2 => k_is)
    (case c2 => k_is)
    (case k2 => k_is)
    (case a3 => k_is)
    (case l3 => k_is)
    (case c3 => k_is)
    (case k3 => k_is)
    (case a4 => k_is)
    (case l4 => k_is)
    (case c4 => k_is)
    (case k4 => k_is)
    (case a5 => k_is)
    (case l5 => k_is)
    (case c5 => k_is)
    (case k5 => k_is)
    (case a6 => k_is)
    (case l6 => k_is)
    (case c6 => k_is)
    (case k6 => k_is)
    (case a7 => k_is)
    (case l7 => k_is)
    (case c7 => k_is)
    (case k7 => k_is)
    (case a8 => k_is)
    (case l8 => k_is)
    (case c8 => k_is)
    (case k8 => k_is)
    (case a9 => k_is)
    (case l9 => k_is)
    (case c9 => k_is)
    (case k9 => k_is)
    (case a10 => k_is)
    (case l10 => k_is)
    (case c10 => k_is)
    (case k10 => k_is)
    (case a11 => k_is)
    (case l11 => k_is)
    (case c11 => k_is)
    (case k11 => k_is)
    (case a12 => k_is)
    (case l12 => k_is)
    (case c12 => k_is)
    (case k12 => k_is)
    (case a13 => k_is)
    (case l13 => k_is)
    (case c13 => k_is)
    (case k13 => k_is)
    (case a14 => k_is)
    (case l14 => k_is)
    (case c14 => k_is)
    (case k14 => k_is)
    (case a15 => k_is)
    (case l15 => k_is)
    (case c15 => k_is)
    (case k15 => k_is)
    (case z_abs => k_is)
    (case z_all => k_is)
    (case z_enumerate => k_is)
    (case z_int => k_is)
    (case z_len => k_is)
    (case z_list => k_is)
    (case z_min => k_is)
    (case z_range => k_is)
    (case z_repr => k_is)
    (case z_sum => k_is)
    (case z_zip => k_is)
    (case v_LETTERS => k_is)
    (case v_MOST_COUNTED => k_is)
    (case v_MOST_LETTERS => k_is)
    (case v_MOST_NUMBERS => k_is)
    (case v_MOST_SIGNS => k_is)
